/-
  Facts on the types and functions of this seat's translation, printed by a program of ours (gen_typ.py). No condition.
-/
import Derived.Test.YtffpfcomikcimaaTyl
import Derived.Test.YtffpfcomikcimaaProg
namespace Go.Proofs.Ytffpfcomikcimaa
open Go
instance tSc1 : TSc Try.prog 1 := mkTSc (by kernel_rfl) (by kernel_rfl)
instance tZe1 : TZe Try.prog 1 [.nilFunc] := mkTZe (z := .nilFunc) (by kernel_rfl) rfl
instance tSc2 : TSc Try.prog 2 := mkTSc (by kernel_rfl) (by kernel_rfl)
instance tZe2 : TZe Try.prog 2 [.int .i64 0] := mkTZe (z := .int .i64 0) (by kernel_rfl) rfl
instance tSc3 : TSc Try.prog 3 := mkTSc (by kernel_rfl) (by kernel_rfl)
instance tZe3 : TZe Try.prog 3 [.int .i64 0] := mkTZe (z := .int .i64 0) (by kernel_rfl) rfl
instance tSc4 : TSc Try.prog 4 := mkTSc (by kernel_rfl) (by kernel_rfl)
instance tZe4 : TZe Try.prog 4 [.bool false] := mkTZe (z := .bool false) (by kernel_rfl) rfl
instance tSc5 : TSc Try.prog 5 := mkTSc (by kernel_rfl) (by kernel_rfl)
instance tZe5 : TZe Try.prog 5 [.int .u8 0] := mkTZe (z := .int .u8 0) (by kernel_rfl) rfl
instance tSc9 : TSc Try.prog 9 := mkTSc (by kernel_rfl) (by kernel_rfl)
instance tZe9 : TZe Try.prog 9 [.string ByteArray.empty] := mkTZe (z := .string ByteArray.empty) (by kernel_rfl) rfl
instance tSc12 : TSc Try.prog 12 := mkTSc (by kernel_rfl) (by kernel_rfl)
instance tZe12 : TZe Try.prog 12 [.int .u64 0] := mkTZe (z := .int .u64 0) (by kernel_rfl) rfl
instance tSc20 : TSc Try.prog 20 := mkTSc (by kernel_rfl) (by kernel_rfl)
instance tZe20 : TZe Try.prog 20 [.nilIface] := mkTZe (z := .nilIface) (by kernel_rfl) rfl
instance tSc21 : TSc Try.prog 21 := mkTSc (by kernel_rfl) (by kernel_rfl)
instance tZe21 : TZe Try.prog 21 [.int .i32 0] := mkTZe (z := .int .i32 0) (by kernel_rfl) rfl
instance tAg22 : TAg Try.prog 22 2 := mkTAg (by kernel_rfl) (by kernel_rfl)
instance tZe22 : TZe Try.prog 22 [.int .i64 0, .int .i64 0] := mkTZe (z := .agg #[.int .i64 0, .int .i64 0]) (by kernel_rfl) rfl
instance tFl22_0 : TFl Try.prog 22 0 0 := mkTFl (by kernel_rfl)
instance tFl22_1 : TFl Try.prog 22 1 1 := mkTFl (by kernel_rfl)
instance tBd22 : TBd Try.prog 22 [.int .i64 0, .int .i64 0] (fun i => [(0, 1), (1, 1)][i]?) := mkTBd (z := .agg #[.int .i64 0, .int .i64 0]) (by kernel_rfl) rfl (by kernel_rfl)
instance tEq22 : TEq Try.prog 22 2 := mkTEq (by kernel_rfl) (by kernel_rfl) (by kernel_rfl)
instance tAg23 : TAg Try.prog 23 2 := mkTAg (by kernel_rfl) (by kernel_rfl)
instance tZe23 : TZe Try.prog 23 [.int .i64 0, .int .i64 0] := mkTZe (z := .agg #[.int .i64 0, .int .i64 0]) (by kernel_rfl) rfl
instance tFl23_0 : TFl Try.prog 23 0 0 := mkTFl (by kernel_rfl)
instance tFl23_1 : TFl Try.prog 23 1 1 := mkTFl (by kernel_rfl)
instance tBd23 : TBd Try.prog 23 [.int .i64 0, .int .i64 0] (fun i => [(0, 1), (1, 1)][i]?) := mkTBd (z := .agg #[.int .i64 0, .int .i64 0]) (by kernel_rfl) rfl (by kernel_rfl)
instance tEq23 : TEq Try.prog 23 2 := mkTEq (by kernel_rfl) (by kernel_rfl) (by kernel_rfl)
instance tAg24 : TAg Try.prog 24 8 := mkTAg (by kernel_rfl) (by kernel_rfl)
instance tZe24 : TZe Try.prog 24 [.int .i64 0, .int .i64 0, .int .i64 0, .int .i64 0, .int .i64 0, .int .i64 0, .int .i64 0, .int .i64 0] := mkTZe (z := .agg #[.int .i64 0, .int .i64 0, .int .i64 0, .int .i64 0, .int .i64 0, .int .i64 0, .int .i64 0, .int .i64 0]) (by kernel_rfl) rfl
instance tFl24_0 : TFl Try.prog 24 0 0 := mkTFl (by kernel_rfl)
instance tFl24_1 : TFl Try.prog 24 1 2 := mkTFl (by kernel_rfl)
instance tFl24_2 : TFl Try.prog 24 2 4 := mkTFl (by kernel_rfl)
instance tFl24_3 : TFl Try.prog 24 3 6 := mkTFl (by kernel_rfl)
instance tBd24 : TBd Try.prog 24 [.int .i64 0, .int .i64 0, .int .i64 0, .int .i64 0, .int .i64 0, .int .i64 0, .int .i64 0, .int .i64 0] (fun i => [(0, 2), (2, 2), (4, 2), (6, 2)][i]?) := mkTBd (z := .agg #[.int .i64 0, .int .i64 0, .int .i64 0, .int .i64 0, .int .i64 0, .int .i64 0, .int .i64 0, .int .i64 0]) (by kernel_rfl) rfl (by kernel_rfl)
instance tEq24 : TEq Try.prog 24 8 := mkTEq (by kernel_rfl) (by kernel_rfl) (by kernel_rfl)
instance tAg25 : TAg Try.prog 25 8 := mkTAg (by kernel_rfl) (by kernel_rfl)
instance tZe25 : TZe Try.prog 25 [.int .i64 0, .int .i64 0, .int .i64 0, .int .i64 0, .int .i64 0, .int .i64 0, .int .i64 0, .int .i64 0] := mkTZe (z := .agg #[.int .i64 0, .int .i64 0, .int .i64 0, .int .i64 0, .int .i64 0, .int .i64 0, .int .i64 0, .int .i64 0]) (by kernel_rfl) rfl
instance tFl25_0 : TFl Try.prog 25 0 0 := mkTFl (by kernel_rfl)
instance tFl25_1 : TFl Try.prog 25 1 2 := mkTFl (by kernel_rfl)
instance tFl25_2 : TFl Try.prog 25 2 4 := mkTFl (by kernel_rfl)
instance tFl25_3 : TFl Try.prog 25 3 6 := mkTFl (by kernel_rfl)
instance tBd25 : TBd Try.prog 25 [.int .i64 0, .int .i64 0, .int .i64 0, .int .i64 0, .int .i64 0, .int .i64 0, .int .i64 0, .int .i64 0] (fun i => [(0, 2), (2, 2), (4, 2), (6, 2)][i]?) := mkTBd (z := .agg #[.int .i64 0, .int .i64 0, .int .i64 0, .int .i64 0, .int .i64 0, .int .i64 0, .int .i64 0, .int .i64 0]) (by kernel_rfl) rfl (by kernel_rfl)
instance tEq25 : TEq Try.prog 25 8 := mkTEq (by kernel_rfl) (by kernel_rfl) (by kernel_rfl)
instance tSc26 : TSc Try.prog 26 := mkTSc (by kernel_rfl) (by kernel_rfl)
instance tZe26 : TZe Try.prog 26 [.slice Option.none 0 0] := mkTZe (z := .slice Option.none 0 0) (by kernel_rfl) rfl
instance tSl26 : TSl Try.prog 26 36 2 := mkTSl (by kernel_rfl) (by kernel_rfl)
instance tSc27 : TSc Try.prog 27 := mkTSc (by kernel_rfl) (by kernel_rfl)
instance tZe27 : TZe Try.prog 27 [.int .i64 0] := mkTZe (z := .int .i64 0) (by kernel_rfl) rfl
instance tSc29 : TSc Try.prog 29 := mkTSc (by kernel_rfl) (by kernel_rfl)
instance tZe29 : TZe Try.prog 29 [.nilFunc] := mkTZe (z := .nilFunc) (by kernel_rfl) rfl
instance tSc31 : TSc Try.prog 31 := mkTSc (by kernel_rfl) (by kernel_rfl)
instance tZe31 : TZe Try.prog 31 [.nilFunc] := mkTZe (z := .nilFunc) (by kernel_rfl) rfl
instance tSc32 : TSc Try.prog 32 := mkTSc (by kernel_rfl) (by kernel_rfl)
instance tZe32 : TZe Try.prog 32 [.nilFunc] := mkTZe (z := .nilFunc) (by kernel_rfl) rfl
instance tSc33 : TSc Try.prog 33 := mkTSc (by kernel_rfl) (by kernel_rfl)
instance tZe33 : TZe Try.prog 33 [.nilFunc] := mkTZe (z := .nilFunc) (by kernel_rfl) rfl
instance tSc34 : TSc Try.prog 34 := mkTSc (by kernel_rfl) (by kernel_rfl)
instance tZe34 : TZe Try.prog 34 [.nilFunc] := mkTZe (z := .nilFunc) (by kernel_rfl) rfl
instance tAg35 : TAg Try.prog 35 2 := mkTAg (by kernel_rfl) (by kernel_rfl)
instance tZe35 : TZe Try.prog 35 [.int .i64 0, .int .i64 0] := mkTZe (z := .agg #[.int .i64 0, .int .i64 0]) (by kernel_rfl) rfl
instance tFl35_0 : TFl Try.prog 35 0 0 := mkTFl (by kernel_rfl)
instance tFl35_1 : TFl Try.prog 35 1 1 := mkTFl (by kernel_rfl)
instance tBd35 : TBd Try.prog 35 [.int .i64 0, .int .i64 0] (fun i => [(0, 1), (1, 1)][i]?) := mkTBd (z := .agg #[.int .i64 0, .int .i64 0]) (by kernel_rfl) rfl (by kernel_rfl)
instance tEq35 : TEq Try.prog 35 2 := mkTEq (by kernel_rfl) (by kernel_rfl) (by kernel_rfl)
instance tAg36 : TAg Try.prog 36 2 := mkTAg (by kernel_rfl) (by kernel_rfl)
instance tZe36 : TZe Try.prog 36 [.int .i64 0, .int .i64 0] := mkTZe (z := .agg #[.int .i64 0, .int .i64 0]) (by kernel_rfl) rfl
instance tFl36_0 : TFl Try.prog 36 0 0 := mkTFl (by kernel_rfl)
instance tFl36_1 : TFl Try.prog 36 1 1 := mkTFl (by kernel_rfl)
instance tBd36 : TBd Try.prog 36 [.int .i64 0, .int .i64 0] (fun i => [(0, 1), (1, 1)][i]?) := mkTBd (z := .agg #[.int .i64 0, .int .i64 0]) (by kernel_rfl) rfl (by kernel_rfl)
instance tEq36 : TEq Try.prog 36 2 := mkTEq (by kernel_rfl) (by kernel_rfl) (by kernel_rfl)
instance tAg37 : TAg Try.prog 37 5 := mkTAg (by kernel_rfl) (by kernel_rfl)
instance tZe37 : TZe Try.prog 37 [.int .i64 0, .int .i64 0, .int .i64 0, .int .i64 0, .int .i64 0] := mkTZe (z := .agg #[.int .i64 0, .int .i64 0, .int .i64 0, .int .i64 0, .int .i64 0]) (by kernel_rfl) rfl
instance tFl37_0 : TFl Try.prog 37 0 0 := mkTFl (by kernel_rfl)
instance tFl37_1 : TFl Try.prog 37 1 2 := mkTFl (by kernel_rfl)
instance tFl37_2 : TFl Try.prog 37 2 4 := mkTFl (by kernel_rfl)
instance tBd37 : TBd Try.prog 37 [.int .i64 0, .int .i64 0, .int .i64 0, .int .i64 0, .int .i64 0] (fun i => [(0, 2), (2, 2), (4, 1)][i]?) := mkTBd (z := .agg #[.int .i64 0, .int .i64 0, .int .i64 0, .int .i64 0, .int .i64 0]) (by kernel_rfl) rfl (by kernel_rfl)
instance tEq37 : TEq Try.prog 37 5 := mkTEq (by kernel_rfl) (by kernel_rfl) (by kernel_rfl)
instance tAg38 : TAg Try.prog 38 5 := mkTAg (by kernel_rfl) (by kernel_rfl)
instance tZe38 : TZe Try.prog 38 [.int .i64 0, .int .i64 0, .int .i64 0, .int .i64 0, .int .i64 0] := mkTZe (z := .agg #[.int .i64 0, .int .i64 0, .int .i64 0, .int .i64 0, .int .i64 0]) (by kernel_rfl) rfl
instance tFl38_0 : TFl Try.prog 38 0 0 := mkTFl (by kernel_rfl)
instance tFl38_1 : TFl Try.prog 38 1 2 := mkTFl (by kernel_rfl)
instance tFl38_2 : TFl Try.prog 38 2 4 := mkTFl (by kernel_rfl)
instance tBd38 : TBd Try.prog 38 [.int .i64 0, .int .i64 0, .int .i64 0, .int .i64 0, .int .i64 0] (fun i => [(0, 2), (2, 2), (4, 1)][i]?) := mkTBd (z := .agg #[.int .i64 0, .int .i64 0, .int .i64 0, .int .i64 0, .int .i64 0]) (by kernel_rfl) rfl (by kernel_rfl)
instance tEq38 : TEq Try.prog 38 5 := mkTEq (by kernel_rfl) (by kernel_rfl) (by kernel_rfl)
instance tSc39 : TSc Try.prog 39 := mkTSc (by kernel_rfl) (by kernel_rfl)
instance tZe39 : TZe Try.prog 39 [.nilFunc] := mkTZe (z := .nilFunc) (by kernel_rfl) rfl
instance tSc40 : TSc Try.prog 40 := mkTSc (by kernel_rfl) (by kernel_rfl)
instance tZe40 : TZe Try.prog 40 [.nilFunc] := mkTZe (z := .nilFunc) (by kernel_rfl) rfl
instance tSc41 : TSc Try.prog 41 := mkTSc (by kernel_rfl) (by kernel_rfl)
instance tZe41 : TZe Try.prog 41 [.nilFunc] := mkTZe (z := .nilFunc) (by kernel_rfl) rfl
instance tSc42 : TSc Try.prog 42 := mkTSc (by kernel_rfl) (by kernel_rfl)
instance tZe42 : TZe Try.prog 42 [.nilFunc] := mkTZe (z := .nilFunc) (by kernel_rfl) rfl
instance tAg43 : TAg Try.prog 43 6 := mkTAg (by kernel_rfl) (by kernel_rfl)
instance tZe43 : TZe Try.prog 43 [.int .i64 0, .int .i64 0, .int .i64 0, .int .i64 0, .int .i64 0, .int .i64 0] := mkTZe (z := .agg #[.int .i64 0, .int .i64 0, .int .i64 0, .int .i64 0, .int .i64 0, .int .i64 0]) (by kernel_rfl) rfl
instance tFl43_0 : TFl Try.prog 43 0 0 := mkTFl (by kernel_rfl)
instance tFl43_1 : TFl Try.prog 43 1 1 := mkTFl (by kernel_rfl)
instance tFl43_2 : TFl Try.prog 43 2 2 := mkTFl (by kernel_rfl)
instance tFl43_3 : TFl Try.prog 43 3 4 := mkTFl (by kernel_rfl)
instance tBd43 : TBd Try.prog 43 [.int .i64 0, .int .i64 0, .int .i64 0, .int .i64 0, .int .i64 0, .int .i64 0] (fun i => [(0, 1), (1, 1), (2, 2), (4, 2)][i]?) := mkTBd (z := .agg #[.int .i64 0, .int .i64 0, .int .i64 0, .int .i64 0, .int .i64 0, .int .i64 0]) (by kernel_rfl) rfl (by kernel_rfl)
instance tEq43 : TEq Try.prog 43 6 := mkTEq (by kernel_rfl) (by kernel_rfl) (by kernel_rfl)
instance tAg44 : TAg Try.prog 44 6 := mkTAg (by kernel_rfl) (by kernel_rfl)
instance tZe44 : TZe Try.prog 44 [.int .i64 0, .int .i64 0, .int .i64 0, .int .i64 0, .int .i64 0, .int .i64 0] := mkTZe (z := .agg #[.int .i64 0, .int .i64 0, .int .i64 0, .int .i64 0, .int .i64 0, .int .i64 0]) (by kernel_rfl) rfl
instance tFl44_0 : TFl Try.prog 44 0 0 := mkTFl (by kernel_rfl)
instance tFl44_1 : TFl Try.prog 44 1 1 := mkTFl (by kernel_rfl)
instance tFl44_2 : TFl Try.prog 44 2 2 := mkTFl (by kernel_rfl)
instance tFl44_3 : TFl Try.prog 44 3 4 := mkTFl (by kernel_rfl)
instance tBd44 : TBd Try.prog 44 [.int .i64 0, .int .i64 0, .int .i64 0, .int .i64 0, .int .i64 0, .int .i64 0] (fun i => [(0, 1), (1, 1), (2, 2), (4, 2)][i]?) := mkTBd (z := .agg #[.int .i64 0, .int .i64 0, .int .i64 0, .int .i64 0, .int .i64 0, .int .i64 0]) (by kernel_rfl) rfl (by kernel_rfl)
instance tEq44 : TEq Try.prog 44 6 := mkTEq (by kernel_rfl) (by kernel_rfl) (by kernel_rfl)
instance tSc46 : TSc Try.prog 46 := mkTSc (by kernel_rfl) (by kernel_rfl)
instance tZe46 : TZe Try.prog 46 [.nilFunc] := mkTZe (z := .nilFunc) (by kernel_rfl) rfl
instance tSc48 : TSc Try.prog 48 := mkTSc (by kernel_rfl) (by kernel_rfl)
instance tZe48 : TZe Try.prog 48 [.nilFunc] := mkTZe (z := .nilFunc) (by kernel_rfl) rfl
instance tSc49 : TSc Try.prog 49 := mkTSc (by kernel_rfl) (by kernel_rfl)
instance tZe49 : TZe Try.prog 49 [.nilFunc] := mkTZe (z := .nilFunc) (by kernel_rfl) rfl
instance tSc50 : TSc Try.prog 50 := mkTSc (by kernel_rfl) (by kernel_rfl)
instance tZe50 : TZe Try.prog 50 [.slice Option.none 0 0] := mkTZe (z := .slice Option.none 0 0) (by kernel_rfl) rfl
instance tSl50 : TSl Try.prog 50 25 8 := mkTSl (by kernel_rfl) (by kernel_rfl)
instance tSc51 : TSc Try.prog 51 := mkTSc (by kernel_rfl) (by kernel_rfl)
instance tZe51 : TZe Try.prog 51 [.slice Option.none 0 0] := mkTZe (z := .slice Option.none 0 0) (by kernel_rfl) rfl
instance tSl51 : TSl Try.prog 51 3 1 := mkTSl (by kernel_rfl) (by kernel_rfl)
instance tSc53 : TSc Try.prog 53 := mkTSc (by kernel_rfl) (by kernel_rfl)
instance tZe53 : TZe Try.prog 53 [.nilFunc] := mkTZe (z := .nilFunc) (by kernel_rfl) rfl
instance tSc54 : TSc Try.prog 54 := mkTSc (by kernel_rfl) (by kernel_rfl)
instance tZe54 : TZe Try.prog 54 [.nilFunc] := mkTZe (z := .nilFunc) (by kernel_rfl) rfl
instance tSc55 : TSc Try.prog 55 := mkTSc (by kernel_rfl) (by kernel_rfl)
instance tZe55 : TZe Try.prog 55 [.nilFunc] := mkTZe (z := .nilFunc) (by kernel_rfl) rfl
instance tSc56 : TSc Try.prog 56 := mkTSc (by kernel_rfl) (by kernel_rfl)
instance tZe56 : TZe Try.prog 56 [.nilFunc] := mkTZe (z := .nilFunc) (by kernel_rfl) rfl
instance tSc57 : TSc Try.prog 57 := mkTSc (by kernel_rfl) (by kernel_rfl)
instance tZe57 : TZe Try.prog 57 [.nilFunc] := mkTZe (z := .nilFunc) (by kernel_rfl) rfl
instance tSc59 : TSc Try.prog 59 := mkTSc (by kernel_rfl) (by kernel_rfl)
instance tZe59 : TZe Try.prog 59 [.nilFunc] := mkTZe (z := .nilFunc) (by kernel_rfl) rfl
instance tSc60 : TSc Try.prog 60 := mkTSc (by kernel_rfl) (by kernel_rfl)
instance tZe60 : TZe Try.prog 60 [.nilFunc] := mkTZe (z := .nilFunc) (by kernel_rfl) rfl
instance tSc61 : TSc Try.prog 61 := mkTSc (by kernel_rfl) (by kernel_rfl)
instance tZe61 : TZe Try.prog 61 [.nilFunc] := mkTZe (z := .nilFunc) (by kernel_rfl) rfl
instance tSc63 : TSc Try.prog 63 := mkTSc (by kernel_rfl) (by kernel_rfl)
instance tZe63 : TZe Try.prog 63 [.nilFunc] := mkTZe (z := .nilFunc) (by kernel_rfl) rfl
instance tSc64 : TSc Try.prog 64 := mkTSc (by kernel_rfl) (by kernel_rfl)
instance tZe64 : TZe Try.prog 64 [.nilFunc] := mkTZe (z := .nilFunc) (by kernel_rfl) rfl
instance tSc65 : TSc Try.prog 65 := mkTSc (by kernel_rfl) (by kernel_rfl)
instance tZe65 : TZe Try.prog 65 [.nilFunc] := mkTZe (z := .nilFunc) (by kernel_rfl) rfl
instance tSc66 : TSc Try.prog 66 := mkTSc (by kernel_rfl) (by kernel_rfl)
instance tZe66 : TZe Try.prog 66 [.nilFunc] := mkTZe (z := .nilFunc) (by kernel_rfl) rfl
instance tAg67 : TAg Try.prog 67 2 := mkTAg (by kernel_rfl) (by kernel_rfl)
instance tZe67 : TZe Try.prog 67 [.int .i64 0, .int .i64 0] := mkTZe (z := .agg #[.int .i64 0, .int .i64 0]) (by kernel_rfl) rfl
instance tAr67 : TAr Try.prog 67 2 1 := mkTAr (b := false) (by kernel_rfl)
instance tAv67 : TAv Try.prog 67 true 2 1 := mkTAv (b := false) (by kernel_rfl) (by simp)
instance tBd67 : TBd Try.prog 67 [.int .i64 0, .int .i64 0] (fun i => some (i * 1, 1)) := mkTBda (n := 2) (b := false) (z := .agg #[.int .i64 0, .int .i64 0]) (by kernel_rfl) rfl (by kernel_rfl)
instance tEq67 : TEq Try.prog 67 2 := mkTEq (by kernel_rfl) (by kernel_rfl) (by kernel_rfl)
instance tSc68 : TSc Try.prog 68 := mkTSc (by kernel_rfl) (by kernel_rfl)
instance tZe68 : TZe Try.prog 68 [.nilFunc] := mkTZe (z := .nilFunc) (by kernel_rfl) rfl
instance tSc70 : TSc Try.prog 70 := mkTSc (by kernel_rfl) (by kernel_rfl)
instance tZe70 : TZe Try.prog 70 [.nilFunc] := mkTZe (z := .nilFunc) (by kernel_rfl) rfl
instance tSc71 : TSc Try.prog 71 := mkTSc (by kernel_rfl) (by kernel_rfl)
instance tZe71 : TZe Try.prog 71 [.nilFunc] := mkTZe (z := .nilFunc) (by kernel_rfl) rfl
instance tSc72 : TSc Try.prog 72 := mkTSc (by kernel_rfl) (by kernel_rfl)
instance tZe72 : TZe Try.prog 72 [.nilFunc] := mkTZe (z := .nilFunc) (by kernel_rfl) rfl
instance tSc73 : TSc Try.prog 73 := mkTSc (by kernel_rfl) (by kernel_rfl)
instance tZe73 : TZe Try.prog 73 [.nilFunc] := mkTZe (z := .nilFunc) (by kernel_rfl) rfl
instance tSc74 : TSc Try.prog 74 := mkTSc (by kernel_rfl) (by kernel_rfl)
instance tZe74 : TZe Try.prog 74 [.nilFunc] := mkTZe (z := .nilFunc) (by kernel_rfl) rfl
instance tSc75 : TSc Try.prog 75 := mkTSc (by kernel_rfl) (by kernel_rfl)
instance tZe75 : TZe Try.prog 75 [.nilFunc] := mkTZe (z := .nilFunc) (by kernel_rfl) rfl
instance tSc76 : TSc Try.prog 76 := mkTSc (by kernel_rfl) (by kernel_rfl)
instance tZe76 : TZe Try.prog 76 [.nilFunc] := mkTZe (z := .nilFunc) (by kernel_rfl) rfl
instance tAg77 : TAg Try.prog 77 4 := mkTAg (by kernel_rfl) (by kernel_rfl)
instance tZe77 : TZe Try.prog 77 [.int .i64 0, .int .i64 0, .int .i64 0, .int .i64 0] := mkTZe (z := .agg #[.int .i64 0, .int .i64 0, .int .i64 0, .int .i64 0]) (by kernel_rfl) rfl
instance tAr77 : TAr Try.prog 77 4 1 := mkTAr (b := false) (by kernel_rfl)
instance tAv77 : TAv Try.prog 77 true 4 1 := mkTAv (b := false) (by kernel_rfl) (by simp)
instance tBd77 : TBd Try.prog 77 [.int .i64 0, .int .i64 0, .int .i64 0, .int .i64 0] (fun i => some (i * 1, 1)) := mkTBda (n := 4) (b := false) (z := .agg #[.int .i64 0, .int .i64 0, .int .i64 0, .int .i64 0]) (by kernel_rfl) rfl (by kernel_rfl)
instance tEq77 : TEq Try.prog 77 4 := mkTEq (by kernel_rfl) (by kernel_rfl) (by kernel_rfl)
instance tSc78 : TSc Try.prog 78 := mkTSc (by kernel_rfl) (by kernel_rfl)
instance tZe78 : TZe Try.prog 78 [.nilFunc] := mkTZe (z := .nilFunc) (by kernel_rfl) rfl
instance tSc79 : TSc Try.prog 79 := mkTSc (by kernel_rfl) (by kernel_rfl)
instance tZe79 : TZe Try.prog 79 [.nilFunc] := mkTZe (z := .nilFunc) (by kernel_rfl) rfl
instance tSc80 : TSc Try.prog 80 := mkTSc (by kernel_rfl) (by kernel_rfl)
instance tZe80 : TZe Try.prog 80 [.nilFunc] := mkTZe (z := .nilFunc) (by kernel_rfl) rfl
instance tAg81 : TAg Try.prog 81 3 := mkTAg (by kernel_rfl) (by kernel_rfl)
instance tZe81 : TZe Try.prog 81 [.int .i64 0, .int .i64 0, .int .i64 0] := mkTZe (z := .agg #[.int .i64 0, .int .i64 0, .int .i64 0]) (by kernel_rfl) rfl
instance tFl81_0 : TFl Try.prog 81 0 0 := mkTFl (by kernel_rfl)
instance tFl81_1 : TFl Try.prog 81 1 2 := mkTFl (by kernel_rfl)
instance tBd81 : TBd Try.prog 81 [.int .i64 0, .int .i64 0, .int .i64 0] (fun i => [(0, 2), (2, 1)][i]?) := mkTBd (z := .agg #[.int .i64 0, .int .i64 0, .int .i64 0]) (by kernel_rfl) rfl (by kernel_rfl)
instance tEq81 : TEq Try.prog 81 3 := mkTEq (by kernel_rfl) (by kernel_rfl) (by kernel_rfl)
instance tAg82 : TAg Try.prog 82 3 := mkTAg (by kernel_rfl) (by kernel_rfl)
instance tZe82 : TZe Try.prog 82 [.int .i64 0, .int .i64 0, .int .i64 0] := mkTZe (z := .agg #[.int .i64 0, .int .i64 0, .int .i64 0]) (by kernel_rfl) rfl
instance tFl82_0 : TFl Try.prog 82 0 0 := mkTFl (by kernel_rfl)
instance tFl82_1 : TFl Try.prog 82 1 2 := mkTFl (by kernel_rfl)
instance tBd82 : TBd Try.prog 82 [.int .i64 0, .int .i64 0, .int .i64 0] (fun i => [(0, 2), (2, 1)][i]?) := mkTBd (z := .agg #[.int .i64 0, .int .i64 0, .int .i64 0]) (by kernel_rfl) rfl (by kernel_rfl)
instance tEq82 : TEq Try.prog 82 3 := mkTEq (by kernel_rfl) (by kernel_rfl) (by kernel_rfl)
instance tSc83 : TSc Try.prog 83 := mkTSc (by kernel_rfl) (by kernel_rfl)
instance tZe83 : TZe Try.prog 83 [.nilFunc] := mkTZe (z := .nilFunc) (by kernel_rfl) rfl
instance tSc84 : TSc Try.prog 84 := mkTSc (by kernel_rfl) (by kernel_rfl)
instance tZe84 : TZe Try.prog 84 [.nilFunc] := mkTZe (z := .nilFunc) (by kernel_rfl) rfl
instance tSc85 : TSc Try.prog 85 := mkTSc (by kernel_rfl) (by kernel_rfl)
instance tZe85 : TZe Try.prog 85 [.nilFunc] := mkTZe (z := .nilFunc) (by kernel_rfl) rfl
instance tSc86 : TSc Try.prog 86 := mkTSc (by kernel_rfl) (by kernel_rfl)
instance tZe86 : TZe Try.prog 86 [.nilFunc] := mkTZe (z := .nilFunc) (by kernel_rfl) rfl
instance tSc87 : TSc Try.prog 87 := mkTSc (by kernel_rfl) (by kernel_rfl)
instance tZe87 : TZe Try.prog 87 [.nilFunc] := mkTZe (z := .nilFunc) (by kernel_rfl) rfl
instance tSc88 : TSc Try.prog 88 := mkTSc (by kernel_rfl) (by kernel_rfl)
instance tZe88 : TZe Try.prog 88 [.nilFunc] := mkTZe (z := .nilFunc) (by kernel_rfl) rfl
instance tSc89 : TSc Try.prog 89 := mkTSc (by kernel_rfl) (by kernel_rfl)
instance tZe89 : TZe Try.prog 89 [.nilFunc] := mkTZe (z := .nilFunc) (by kernel_rfl) rfl
instance tSc90 : TSc Try.prog 90 := mkTSc (by kernel_rfl) (by kernel_rfl)
instance tZe90 : TZe Try.prog 90 [.nilFunc] := mkTZe (z := .nilFunc) (by kernel_rfl) rfl
instance tSc91 : TSc Try.prog 91 := mkTSc (by kernel_rfl) (by kernel_rfl)
instance tZe91 : TZe Try.prog 91 [.nilFunc] := mkTZe (z := .nilFunc) (by kernel_rfl) rfl
instance tSc92 : TSc Try.prog 92 := mkTSc (by kernel_rfl) (by kernel_rfl)
instance tZe92 : TZe Try.prog 92 [.nilFunc] := mkTZe (z := .nilFunc) (by kernel_rfl) rfl
instance tSc93 : TSc Try.prog 93 := mkTSc (by kernel_rfl) (by kernel_rfl)
instance tZe93 : TZe Try.prog 93 [.slice Option.none 0 0] := mkTZe (z := .slice Option.none 0 0) (by kernel_rfl) rfl
instance tSl93 : TSl Try.prog 93 26 1 := mkTSl (by kernel_rfl) (by kernel_rfl)
instance tSc94 : TSc Try.prog 94 := mkTSc (by kernel_rfl) (by kernel_rfl)
instance tZe94 : TZe Try.prog 94 [.nilFunc] := mkTZe (z := .nilFunc) (by kernel_rfl) rfl
instance tAg95 : TAg Try.prog 95 8 := mkTAg (by kernel_rfl) (by kernel_rfl)
instance tZe95 : TZe Try.prog 95 [.int .i64 0, .int .i64 0, .int .i64 0, .int .i64 0, .int .i64 0, .int .i64 0, .int .i64 0, .int .i64 0] := mkTZe (z := .agg #[.int .i64 0, .int .i64 0, .int .i64 0, .int .i64 0, .int .i64 0, .int .i64 0, .int .i64 0, .int .i64 0]) (by kernel_rfl) rfl
instance tAr95 : TAr Try.prog 95 4 2 := mkTAr (b := true) (by kernel_rfl)
instance tAv95 : TAv Try.prog 95 false 4 2 := mkTAv (b := true) (by kernel_rfl) (by simp)
instance tBd95 : TBd Try.prog 95 [.int .i64 0, .int .i64 0, .int .i64 0, .int .i64 0, .int .i64 0, .int .i64 0, .int .i64 0, .int .i64 0] (fun i => some (i * 2, 2)) := mkTBda (n := 4) (b := true) (z := .agg #[.int .i64 0, .int .i64 0, .int .i64 0, .int .i64 0, .int .i64 0, .int .i64 0, .int .i64 0, .int .i64 0]) (by kernel_rfl) rfl (by kernel_rfl)
instance tEq95 : TEq Try.prog 95 8 := mkTEq (by kernel_rfl) (by kernel_rfl) (by kernel_rfl)
instance tAg96 : TAg Try.prog 96 8 := mkTAg (by kernel_rfl) (by kernel_rfl)
instance tZe96 : TZe Try.prog 96 [.int .i64 0, .int .i64 0, .int .i64 0, .int .i64 0, .int .i64 0, .int .i64 0, .int .i64 0, .int .i64 0] := mkTZe (z := .agg #[.int .i64 0, .int .i64 0, .int .i64 0, .int .i64 0, .int .i64 0, .int .i64 0, .int .i64 0, .int .i64 0]) (by kernel_rfl) rfl
instance tAr96 : TAr Try.prog 96 4 2 := mkTAr (b := true) (by kernel_rfl)
instance tAv96 : TAv Try.prog 96 false 4 2 := mkTAv (b := true) (by kernel_rfl) (by simp)
instance tBd96 : TBd Try.prog 96 [.int .i64 0, .int .i64 0, .int .i64 0, .int .i64 0, .int .i64 0, .int .i64 0, .int .i64 0, .int .i64 0] (fun i => some (i * 2, 2)) := mkTBda (n := 4) (b := true) (z := .agg #[.int .i64 0, .int .i64 0, .int .i64 0, .int .i64 0, .int .i64 0, .int .i64 0, .int .i64 0, .int .i64 0]) (by kernel_rfl) rfl (by kernel_rfl)
instance tEq96 : TEq Try.prog 96 8 := mkTEq (by kernel_rfl) (by kernel_rfl) (by kernel_rfl)
instance tSc98 : TSc Try.prog 98 := mkTSc (by kernel_rfl) (by kernel_rfl)
instance tZe98 : TZe Try.prog 98 [.nilFunc] := mkTZe (z := .nilFunc) (by kernel_rfl) rfl
instance tSc99 : TSc Try.prog 99 := mkTSc (by kernel_rfl) (by kernel_rfl)
instance tZe99 : TZe Try.prog 99 [.nilFunc] := mkTZe (z := .nilFunc) (by kernel_rfl) rfl
instance tSc100 : TSc Try.prog 100 := mkTSc (by kernel_rfl) (by kernel_rfl)
instance tZe100 : TZe Try.prog 100 [.nilFunc] := mkTZe (z := .nilFunc) (by kernel_rfl) rfl
instance tSc101 : TSc Try.prog 101 := mkTSc (by kernel_rfl) (by kernel_rfl)
instance tZe101 : TZe Try.prog 101 [.nilFunc] := mkTZe (z := .nilFunc) (by kernel_rfl) rfl
instance tSc102 : TSc Try.prog 102 := mkTSc (by kernel_rfl) (by kernel_rfl)
instance tZe102 : TZe Try.prog 102 [.nilFunc] := mkTZe (z := .nilFunc) (by kernel_rfl) rfl
instance tAg103 : TAg Try.prog 103 3 := mkTAg (by kernel_rfl) (by kernel_rfl)
instance tZe103 : TZe Try.prog 103 [.int .i64 0, .int .i64 0, .int .i64 0] := mkTZe (z := .agg #[.int .i64 0, .int .i64 0, .int .i64 0]) (by kernel_rfl) rfl
instance tFl103_0 : TFl Try.prog 103 0 0 := mkTFl (by kernel_rfl)
instance tFl103_1 : TFl Try.prog 103 1 1 := mkTFl (by kernel_rfl)
instance tFl103_2 : TFl Try.prog 103 2 2 := mkTFl (by kernel_rfl)
instance tBd103 : TBd Try.prog 103 [.int .i64 0, .int .i64 0, .int .i64 0] (fun i => [(0, 1), (1, 1), (2, 1)][i]?) := mkTBd (z := .agg #[.int .i64 0, .int .i64 0, .int .i64 0]) (by kernel_rfl) rfl (by kernel_rfl)
instance tEq103 : TEq Try.prog 103 3 := mkTEq (by kernel_rfl) (by kernel_rfl) (by kernel_rfl)
instance tAg104 : TAg Try.prog 104 3 := mkTAg (by kernel_rfl) (by kernel_rfl)
instance tZe104 : TZe Try.prog 104 [.int .i64 0, .int .i64 0, .int .i64 0] := mkTZe (z := .agg #[.int .i64 0, .int .i64 0, .int .i64 0]) (by kernel_rfl) rfl
instance tFl104_0 : TFl Try.prog 104 0 0 := mkTFl (by kernel_rfl)
instance tFl104_1 : TFl Try.prog 104 1 1 := mkTFl (by kernel_rfl)
instance tFl104_2 : TFl Try.prog 104 2 2 := mkTFl (by kernel_rfl)
instance tBd104 : TBd Try.prog 104 [.int .i64 0, .int .i64 0, .int .i64 0] (fun i => [(0, 1), (1, 1), (2, 1)][i]?) := mkTBd (z := .agg #[.int .i64 0, .int .i64 0, .int .i64 0]) (by kernel_rfl) rfl (by kernel_rfl)
instance tEq104 : TEq Try.prog 104 3 := mkTEq (by kernel_rfl) (by kernel_rfl) (by kernel_rfl)
instance tAg105 : TAg Try.prog 105 3 := mkTAg (by kernel_rfl) (by kernel_rfl)
instance tZe105 : TZe Try.prog 105 [.int .i64 0, .int .i64 0, .int .i64 0] := mkTZe (z := .agg #[.int .i64 0, .int .i64 0, .int .i64 0]) (by kernel_rfl) rfl
instance tFl105_0 : TFl Try.prog 105 0 0 := mkTFl (by kernel_rfl)
instance tFl105_1 : TFl Try.prog 105 1 1 := mkTFl (by kernel_rfl)
instance tFl105_2 : TFl Try.prog 105 2 2 := mkTFl (by kernel_rfl)
instance tBd105 : TBd Try.prog 105 [.int .i64 0, .int .i64 0, .int .i64 0] (fun i => [(0, 1), (1, 1), (2, 1)][i]?) := mkTBd (z := .agg #[.int .i64 0, .int .i64 0, .int .i64 0]) (by kernel_rfl) rfl (by kernel_rfl)
instance tEq105 : TEq Try.prog 105 3 := mkTEq (by kernel_rfl) (by kernel_rfl) (by kernel_rfl)
instance tAg106 : TAg Try.prog 106 3 := mkTAg (by kernel_rfl) (by kernel_rfl)
instance tZe106 : TZe Try.prog 106 [.int .i64 0, .int .i64 0, .int .i64 0] := mkTZe (z := .agg #[.int .i64 0, .int .i64 0, .int .i64 0]) (by kernel_rfl) rfl
instance tFl106_0 : TFl Try.prog 106 0 0 := mkTFl (by kernel_rfl)
instance tFl106_1 : TFl Try.prog 106 1 1 := mkTFl (by kernel_rfl)
instance tFl106_2 : TFl Try.prog 106 2 2 := mkTFl (by kernel_rfl)
instance tBd106 : TBd Try.prog 106 [.int .i64 0, .int .i64 0, .int .i64 0] (fun i => [(0, 1), (1, 1), (2, 1)][i]?) := mkTBd (z := .agg #[.int .i64 0, .int .i64 0, .int .i64 0]) (by kernel_rfl) rfl (by kernel_rfl)
instance tEq106 : TEq Try.prog 106 3 := mkTEq (by kernel_rfl) (by kernel_rfl) (by kernel_rfl)
instance tSc107 : TSc Try.prog 107 := mkTSc (by kernel_rfl) (by kernel_rfl)
instance tZe107 : TZe Try.prog 107 [.nilFunc] := mkTZe (z := .nilFunc) (by kernel_rfl) rfl
instance tSc108 : TSc Try.prog 108 := mkTSc (by kernel_rfl) (by kernel_rfl)
instance tZe108 : TZe Try.prog 108 [.nilFunc] := mkTZe (z := .nilFunc) (by kernel_rfl) rfl
instance tSc109 : TSc Try.prog 109 := mkTSc (by kernel_rfl) (by kernel_rfl)
instance tZe109 : TZe Try.prog 109 [.nilFunc] := mkTZe (z := .nilFunc) (by kernel_rfl) rfl
instance tSc111 : TSc Try.prog 111 := mkTSc (by kernel_rfl) (by kernel_rfl)
instance tZe111 : TZe Try.prog 111 [.nilFunc] := mkTZe (z := .nilFunc) (by kernel_rfl) rfl
instance tSc112 : TSc Try.prog 112 := mkTSc (by kernel_rfl) (by kernel_rfl)
instance tZe112 : TZe Try.prog 112 [.nilFunc] := mkTZe (z := .nilFunc) (by kernel_rfl) rfl
instance tSc113 : TSc Try.prog 113 := mkTSc (by kernel_rfl) (by kernel_rfl)
instance tZe113 : TZe Try.prog 113 [.pointer Option.none] := mkTZe (z := .pointer Option.none) (by kernel_rfl) rfl
instance tAg114 : TAg Try.prog 114 9 := mkTAg (by kernel_rfl) (by kernel_rfl)
instance tZe114 : TZe Try.prog 114 [.int .i64 0, .int .i64 0, .int .i64 0, .int .i64 0, .int .i64 0, .int .i64 0, .int .i64 0, .int .i64 0, .bool false] := mkTZe (z := .agg #[.int .i64 0, .int .i64 0, .int .i64 0, .int .i64 0, .int .i64 0, .int .i64 0, .int .i64 0, .int .i64 0, .bool false]) (by kernel_rfl) rfl
instance tFl114_0 : TFl Try.prog 114 0 0 := mkTFl (by kernel_rfl)
instance tFl114_1 : TFl Try.prog 114 1 8 := mkTFl (by kernel_rfl)
instance tBd114 : TBd Try.prog 114 [.int .i64 0, .int .i64 0, .int .i64 0, .int .i64 0, .int .i64 0, .int .i64 0, .int .i64 0, .int .i64 0, .bool false] (fun i => [(0, 8), (8, 1)][i]?) := mkTBd (z := .agg #[.int .i64 0, .int .i64 0, .int .i64 0, .int .i64 0, .int .i64 0, .int .i64 0, .int .i64 0, .int .i64 0, .bool false]) (by kernel_rfl) rfl (by kernel_rfl)
instance tAg115 : TAg Try.prog 115 9 := mkTAg (by kernel_rfl) (by kernel_rfl)
instance tZe115 : TZe Try.prog 115 [.int .i64 0, .int .i64 0, .int .i64 0, .int .i64 0, .int .i64 0, .int .i64 0, .int .i64 0, .int .i64 0, .bool false] := mkTZe (z := .agg #[.int .i64 0, .int .i64 0, .int .i64 0, .int .i64 0, .int .i64 0, .int .i64 0, .int .i64 0, .int .i64 0, .bool false]) (by kernel_rfl) rfl
instance tFl115_0 : TFl Try.prog 115 0 0 := mkTFl (by kernel_rfl)
instance tFl115_1 : TFl Try.prog 115 1 8 := mkTFl (by kernel_rfl)
instance tBd115 : TBd Try.prog 115 [.int .i64 0, .int .i64 0, .int .i64 0, .int .i64 0, .int .i64 0, .int .i64 0, .int .i64 0, .int .i64 0, .bool false] (fun i => [(0, 8), (8, 1)][i]?) := mkTBd (z := .agg #[.int .i64 0, .int .i64 0, .int .i64 0, .int .i64 0, .int .i64 0, .int .i64 0, .int .i64 0, .int .i64 0, .bool false]) (by kernel_rfl) rfl (by kernel_rfl)
instance tSc116 : TSc Try.prog 116 := mkTSc (by kernel_rfl) (by kernel_rfl)
instance tZe116 : TZe Try.prog 116 [.nilFunc] := mkTZe (z := .nilFunc) (by kernel_rfl) rfl
instance tSc117 : TSc Try.prog 117 := mkTSc (by kernel_rfl) (by kernel_rfl)
instance tZe117 : TZe Try.prog 117 [.nilFunc] := mkTZe (z := .nilFunc) (by kernel_rfl) rfl
instance tSc118 : TSc Try.prog 118 := mkTSc (by kernel_rfl) (by kernel_rfl)
instance tZe118 : TZe Try.prog 118 [.int .i64 0] := mkTZe (z := .int .i64 0) (by kernel_rfl) rfl
instance tSc119 : TSc Try.prog 119 := mkTSc (by kernel_rfl) (by kernel_rfl)
instance tZe119 : TZe Try.prog 119 [.nilFunc] := mkTZe (z := .nilFunc) (by kernel_rfl) rfl
instance tSc120 : TSc Try.prog 120 := mkTSc (by kernel_rfl) (by kernel_rfl)
instance tZe120 : TZe Try.prog 120 [.nilFunc] := mkTZe (z := .nilFunc) (by kernel_rfl) rfl
instance tSc121 : TSc Try.prog 121 := mkTSc (by kernel_rfl) (by kernel_rfl)
instance tZe121 : TZe Try.prog 121 [.nilFunc] := mkTZe (z := .nilFunc) (by kernel_rfl) rfl
instance tSc122 : TSc Try.prog 122 := mkTSc (by kernel_rfl) (by kernel_rfl)
instance tZe122 : TZe Try.prog 122 [.nilFunc] := mkTZe (z := .nilFunc) (by kernel_rfl) rfl
instance tSc123 : TSc Try.prog 123 := mkTSc (by kernel_rfl) (by kernel_rfl)
instance tZe123 : TZe Try.prog 123 [.nilFunc] := mkTZe (z := .nilFunc) (by kernel_rfl) rfl
instance tSc124 : TSc Try.prog 124 := mkTSc (by kernel_rfl) (by kernel_rfl)
instance tZe124 : TZe Try.prog 124 [.nilFunc] := mkTZe (z := .nilFunc) (by kernel_rfl) rfl
instance tAg125 : TAg Try.prog 125 4 := mkTAg (by kernel_rfl) (by kernel_rfl)
instance tZe125 : TZe Try.prog 125 [.int .i64 0, .int .i64 0, .int .i64 0, .int .i64 0] := mkTZe (z := .agg #[.int .i64 0, .int .i64 0, .int .i64 0, .int .i64 0]) (by kernel_rfl) rfl
instance tAr125 : TAr Try.prog 125 4 1 := mkTAr (b := false) (by kernel_rfl)
instance tAv125 : TAv Try.prog 125 true 4 1 := mkTAv (b := false) (by kernel_rfl) (by simp)
instance tBd125 : TBd Try.prog 125 [.int .i64 0, .int .i64 0, .int .i64 0, .int .i64 0] (fun i => some (i * 1, 1)) := mkTBda (n := 4) (b := false) (z := .agg #[.int .i64 0, .int .i64 0, .int .i64 0, .int .i64 0]) (by kernel_rfl) rfl (by kernel_rfl)
instance tEq125 : TEq Try.prog 125 4 := mkTEq (by kernel_rfl) (by kernel_rfl) (by kernel_rfl)
instance tSc126 : TSc Try.prog 126 := mkTSc (by kernel_rfl) (by kernel_rfl)
instance tZe126 : TZe Try.prog 126 [.nilFunc] := mkTZe (z := .nilFunc) (by kernel_rfl) rfl
instance tSc127 : TSc Try.prog 127 := mkTSc (by kernel_rfl) (by kernel_rfl)
instance tZe127 : TZe Try.prog 127 [.nilFunc] := mkTZe (z := .nilFunc) (by kernel_rfl) rfl
instance tSc128 : TSc Try.prog 128 := mkTSc (by kernel_rfl) (by kernel_rfl)
instance tZe128 : TZe Try.prog 128 [.nilFunc] := mkTZe (z := .nilFunc) (by kernel_rfl) rfl
instance tAg129 : TAg Try.prog 129 3 := mkTAg (by kernel_rfl) (by kernel_rfl)
instance tZe129 : TZe Try.prog 129 [.int .i64 0, .int .i64 0, .int .i64 0] := mkTZe (z := .agg #[.int .i64 0, .int .i64 0, .int .i64 0]) (by kernel_rfl) rfl
instance tFl129_0 : TFl Try.prog 129 0 0 := mkTFl (by kernel_rfl)
instance tFl129_1 : TFl Try.prog 129 1 1 := mkTFl (by kernel_rfl)
instance tBd129 : TBd Try.prog 129 [.int .i64 0, .int .i64 0, .int .i64 0] (fun i => [(0, 1), (1, 2)][i]?) := mkTBd (z := .agg #[.int .i64 0, .int .i64 0, .int .i64 0]) (by kernel_rfl) rfl (by kernel_rfl)
instance tEq129 : TEq Try.prog 129 3 := mkTEq (by kernel_rfl) (by kernel_rfl) (by kernel_rfl)
instance tAg130 : TAg Try.prog 130 3 := mkTAg (by kernel_rfl) (by kernel_rfl)
instance tZe130 : TZe Try.prog 130 [.int .i64 0, .int .i64 0, .int .i64 0] := mkTZe (z := .agg #[.int .i64 0, .int .i64 0, .int .i64 0]) (by kernel_rfl) rfl
instance tFl130_0 : TFl Try.prog 130 0 0 := mkTFl (by kernel_rfl)
instance tFl130_1 : TFl Try.prog 130 1 1 := mkTFl (by kernel_rfl)
instance tBd130 : TBd Try.prog 130 [.int .i64 0, .int .i64 0, .int .i64 0] (fun i => [(0, 1), (1, 2)][i]?) := mkTBd (z := .agg #[.int .i64 0, .int .i64 0, .int .i64 0]) (by kernel_rfl) rfl (by kernel_rfl)
instance tEq130 : TEq Try.prog 130 3 := mkTEq (by kernel_rfl) (by kernel_rfl) (by kernel_rfl)
instance tSc131 : TSc Try.prog 131 := mkTSc (by kernel_rfl) (by kernel_rfl)
instance tZe131 : TZe Try.prog 131 [.nilFunc] := mkTZe (z := .nilFunc) (by kernel_rfl) rfl
instance tSc133 : TSc Try.prog 133 := mkTSc (by kernel_rfl) (by kernel_rfl)
instance tZe133 : TZe Try.prog 133 [.nilFunc] := mkTZe (z := .nilFunc) (by kernel_rfl) rfl
instance tSc134 : TSc Try.prog 134 := mkTSc (by kernel_rfl) (by kernel_rfl)
instance tZe134 : TZe Try.prog 134 [.nilFunc] := mkTZe (z := .nilFunc) (by kernel_rfl) rfl
instance tSc135 : TSc Try.prog 135 := mkTSc (by kernel_rfl) (by kernel_rfl)
instance tZe135 : TZe Try.prog 135 [.nilFunc] := mkTZe (z := .nilFunc) (by kernel_rfl) rfl
instance tSc137 : TSc Try.prog 137 := mkTSc (by kernel_rfl) (by kernel_rfl)
instance tZe137 : TZe Try.prog 137 [.nilFunc] := mkTZe (z := .nilFunc) (by kernel_rfl) rfl
instance tSc138 : TSc Try.prog 138 := mkTSc (by kernel_rfl) (by kernel_rfl)
instance tZe138 : TZe Try.prog 138 [.nilFunc] := mkTZe (z := .nilFunc) (by kernel_rfl) rfl
instance tSc139 : TSc Try.prog 139 := mkTSc (by kernel_rfl) (by kernel_rfl)
instance tZe139 : TZe Try.prog 139 [.nilFunc] := mkTZe (z := .nilFunc) (by kernel_rfl) rfl
instance tSc140 : TSc Try.prog 140 := mkTSc (by kernel_rfl) (by kernel_rfl)
instance tZe140 : TZe Try.prog 140 [.nilFunc] := mkTZe (z := .nilFunc) (by kernel_rfl) rfl
instance tSc142 : TSc Try.prog 142 := mkTSc (by kernel_rfl) (by kernel_rfl)
instance tZe142 : TZe Try.prog 142 [.nilFunc] := mkTZe (z := .nilFunc) (by kernel_rfl) rfl
instance tSc144 : TSc Try.prog 144 := mkTSc (by kernel_rfl) (by kernel_rfl)
instance tZe144 : TZe Try.prog 144 [.nilFunc] := mkTZe (z := .nilFunc) (by kernel_rfl) rfl
instance tSc145 : TSc Try.prog 145 := mkTSc (by kernel_rfl) (by kernel_rfl)
instance tZe145 : TZe Try.prog 145 [.nilFunc] := mkTZe (z := .nilFunc) (by kernel_rfl) rfl
instance tSc146 : TSc Try.prog 146 := mkTSc (by kernel_rfl) (by kernel_rfl)
instance tZe146 : TZe Try.prog 146 [.nilFunc] := mkTZe (z := .nilFunc) (by kernel_rfl) rfl
instance tSc147 : TSc Try.prog 147 := mkTSc (by kernel_rfl) (by kernel_rfl)
instance tZe147 : TZe Try.prog 147 [.nilFunc] := mkTZe (z := .nilFunc) (by kernel_rfl) rfl
instance tSc148 : TSc Try.prog 148 := mkTSc (by kernel_rfl) (by kernel_rfl)
instance tZe148 : TZe Try.prog 148 [.nilFunc] := mkTZe (z := .nilFunc) (by kernel_rfl) rfl
instance tSc149 : TSc Try.prog 149 := mkTSc (by kernel_rfl) (by kernel_rfl)
instance tZe149 : TZe Try.prog 149 [.nilFunc] := mkTZe (z := .nilFunc) (by kernel_rfl) rfl
instance tSc150 : TSc Try.prog 150 := mkTSc (by kernel_rfl) (by kernel_rfl)
instance tZe150 : TZe Try.prog 150 [.nilFunc] := mkTZe (z := .nilFunc) (by kernel_rfl) rfl
instance tSc151 : TSc Try.prog 151 := mkTSc (by kernel_rfl) (by kernel_rfl)
instance tZe151 : TZe Try.prog 151 [.nilFunc] := mkTZe (z := .nilFunc) (by kernel_rfl) rfl
instance tSc153 : TSc Try.prog 153 := mkTSc (by kernel_rfl) (by kernel_rfl)
instance tZe153 : TZe Try.prog 153 [.nilFunc] := mkTZe (z := .nilFunc) (by kernel_rfl) rfl
instance tSc154 : TSc Try.prog 154 := mkTSc (by kernel_rfl) (by kernel_rfl)
instance tZe154 : TZe Try.prog 154 [.nilFunc] := mkTZe (z := .nilFunc) (by kernel_rfl) rfl
instance tSc155 : TSc Try.prog 155 := mkTSc (by kernel_rfl) (by kernel_rfl)
instance tZe155 : TZe Try.prog 155 [.nilFunc] := mkTZe (z := .nilFunc) (by kernel_rfl) rfl
instance tAg156 : TAg Try.prog 156 4 := mkTAg (by kernel_rfl) (by kernel_rfl)
instance tZe156 : TZe Try.prog 156 [.nilFunc, .nilFunc, .nilFunc, .nilFunc] := mkTZe (z := .agg #[.nilFunc, .nilFunc, .nilFunc, .nilFunc]) (by kernel_rfl) rfl
instance tAr156 : TAr Try.prog 156 4 1 := mkTAr (b := false) (by kernel_rfl)
instance tAv156 : TAv Try.prog 156 true 4 1 := mkTAv (b := false) (by kernel_rfl) (by simp)
instance tBd156 : TBd Try.prog 156 [.nilFunc, .nilFunc, .nilFunc, .nilFunc] (fun i => some (i * 1, 1)) := mkTBda (n := 4) (b := false) (z := .agg #[.nilFunc, .nilFunc, .nilFunc, .nilFunc]) (by kernel_rfl) rfl (by kernel_rfl)
instance tSc157 : TSc Try.prog 157 := mkTSc (by kernel_rfl) (by kernel_rfl)
instance tZe157 : TZe Try.prog 157 [.nilFunc] := mkTZe (z := .nilFunc) (by kernel_rfl) rfl
instance tSc158 : TSc Try.prog 158 := mkTSc (by kernel_rfl) (by kernel_rfl)
instance tZe158 : TZe Try.prog 158 [.nilFunc] := mkTZe (z := .nilFunc) (by kernel_rfl) rfl
instance tSc159 : TSc Try.prog 159 := mkTSc (by kernel_rfl) (by kernel_rfl)
instance tZe159 : TZe Try.prog 159 [.nilFunc] := mkTZe (z := .nilFunc) (by kernel_rfl) rfl
instance tSc160 : TSc Try.prog 160 := mkTSc (by kernel_rfl) (by kernel_rfl)
instance tZe160 : TZe Try.prog 160 [.nilFunc] := mkTZe (z := .nilFunc) (by kernel_rfl) rfl
instance tSc161 : TSc Try.prog 161 := mkTSc (by kernel_rfl) (by kernel_rfl)
instance tZe161 : TZe Try.prog 161 [.nilFunc] := mkTZe (z := .nilFunc) (by kernel_rfl) rfl
instance tSc162 : TSc Try.prog 162 := mkTSc (by kernel_rfl) (by kernel_rfl)
instance tZe162 : TZe Try.prog 162 [.slice Option.none 0 0] := mkTZe (z := .slice Option.none 0 0) (by kernel_rfl) rfl
instance tSl162 : TSl Try.prog 162 112 1 := mkTSl (by kernel_rfl) (by kernel_rfl)
instance tSc163 : TSc Try.prog 163 := mkTSc (by kernel_rfl) (by kernel_rfl)
instance tZe163 : TZe Try.prog 163 [.nilFunc] := mkTZe (z := .nilFunc) (by kernel_rfl) rfl
instance tSc164 : TSc Try.prog 164 := mkTSc (by kernel_rfl) (by kernel_rfl)
instance tZe164 : TZe Try.prog 164 [.nilFunc] := mkTZe (z := .nilFunc) (by kernel_rfl) rfl
instance tSc165 : TSc Try.prog 165 := mkTSc (by kernel_rfl) (by kernel_rfl)
instance tZe165 : TZe Try.prog 165 [.slice Option.none 0 0] := mkTZe (z := .slice Option.none 0 0) (by kernel_rfl) rfl
instance tSl165 : TSl Try.prog 165 27 1 := mkTSl (by kernel_rfl) (by kernel_rfl)
instance tSc166 : TSc Try.prog 166 := mkTSc (by kernel_rfl) (by kernel_rfl)
instance tZe166 : TZe Try.prog 166 [.nilFunc] := mkTZe (z := .nilFunc) (by kernel_rfl) rfl
instance tSc167 : TSc Try.prog 167 := mkTSc (by kernel_rfl) (by kernel_rfl)
instance tZe167 : TZe Try.prog 167 [.nilFunc] := mkTZe (z := .nilFunc) (by kernel_rfl) rfl
instance tSc168 : TSc Try.prog 168 := mkTSc (by kernel_rfl) (by kernel_rfl)
instance tZe168 : TZe Try.prog 168 [.nilFunc] := mkTZe (z := .nilFunc) (by kernel_rfl) rfl
instance tSc169 : TSc Try.prog 169 := mkTSc (by kernel_rfl) (by kernel_rfl)
instance tZe169 : TZe Try.prog 169 [.nilFunc] := mkTZe (z := .nilFunc) (by kernel_rfl) rfl
instance tSc170 : TSc Try.prog 170 := mkTSc (by kernel_rfl) (by kernel_rfl)
instance tZe170 : TZe Try.prog 170 [.nilFunc] := mkTZe (z := .nilFunc) (by kernel_rfl) rfl
instance tSc171 : TSc Try.prog 171 := mkTSc (by kernel_rfl) (by kernel_rfl)
instance tZe171 : TZe Try.prog 171 [.nilFunc] := mkTZe (z := .nilFunc) (by kernel_rfl) rfl
instance tSc177 : TSc Try.prog 177 := mkTSc (by kernel_rfl) (by kernel_rfl)
instance tZe177 : TZe Try.prog 177 [.nilFunc] := mkTZe (z := .nilFunc) (by kernel_rfl) rfl
instance tSc178 : TSc Try.prog 178 := mkTSc (by kernel_rfl) (by kernel_rfl)
instance tZe178 : TZe Try.prog 178 [.int .u32 0] := mkTZe (z := .int .u32 0) (by kernel_rfl) rfl
instance tSc181 : TSc Try.prog 181 := mkTSc (by kernel_rfl) (by kernel_rfl)
instance tZe181 : TZe Try.prog 181 [.nilFunc] := mkTZe (z := .nilFunc) (by kernel_rfl) rfl
instance tSc182 : TSc Try.prog 182 := mkTSc (by kernel_rfl) (by kernel_rfl)
instance tZe182 : TZe Try.prog 182 [.pointer Option.none] := mkTZe (z := .pointer Option.none) (by kernel_rfl) rfl
instance tSc187 : TSc Try.prog 187 := mkTSc (by kernel_rfl) (by kernel_rfl)
instance tZe187 : TZe Try.prog 187 [.pointer Option.none] := mkTZe (z := .pointer Option.none) (by kernel_rfl) rfl
instance tFn3 : TFn Try.prog 3 := mkTFn Try.func3 (by kernel_rfl) rfl
instance tFn4 : TFn Try.prog 4 := mkTFn Try.func4 (by kernel_rfl) rfl
instance tFn5 : TFn Try.prog 5 := mkTFn Try.func5 (by kernel_rfl) rfl
instance tFn6 : TFn Try.prog 6 := mkTFn Try.func6 (by kernel_rfl) rfl
instance tFn7 : TFn Try.prog 7 := mkTFn Try.func7 (by kernel_rfl) rfl
instance tFn8 : TFn Try.prog 8 := mkTFn Try.func8 (by kernel_rfl) rfl
instance tFn9 : TFn Try.prog 9 := mkTFn Try.func9 (by kernel_rfl) rfl
instance tFn10 : TFn Try.prog 10 := mkTFn Try.func10 (by kernel_rfl) rfl
instance tFn11 : TFn Try.prog 11 := mkTFn Try.func11 (by kernel_rfl) rfl
instance tFn12 : TFn Try.prog 12 := mkTFn Try.func12 (by kernel_rfl) rfl
instance tFn13 : TFn Try.prog 13 := mkTFn Try.func13 (by kernel_rfl) rfl
instance tFn14 : TFn Try.prog 14 := mkTFn Try.func14 (by kernel_rfl) rfl
instance tFn15 : TFn Try.prog 15 := mkTFn Try.func15 (by kernel_rfl) rfl
instance tFn16 : TFn Try.prog 16 := mkTFn Try.func16 (by kernel_rfl) rfl
instance tFn17 : TFn Try.prog 17 := mkTFn Try.func17 (by kernel_rfl) rfl
instance tFn18 : TFn Try.prog 18 := mkTFn Try.func18 (by kernel_rfl) rfl
instance tFn19 : TFn Try.prog 19 := mkTFn Try.func19 (by kernel_rfl) rfl
instance tFn20 : TFn Try.prog 20 := mkTFn Try.func20 (by kernel_rfl) rfl
instance tFn21 : TFn Try.prog 21 := mkTFn Try.func21 (by kernel_rfl) rfl
instance tFn22 : TFn Try.prog 22 := mkTFn Try.func22 (by kernel_rfl) rfl
instance tFn23 : TFn Try.prog 23 := mkTFn Try.func23 (by kernel_rfl) rfl
instance tFn24 : TFn Try.prog 24 := mkTFn Try.func24 (by kernel_rfl) rfl
instance tFn25 : TFn Try.prog 25 := mkTFn Try.func25 (by kernel_rfl) rfl
instance tFn26 : TFn Try.prog 26 := mkTFn Try.func26 (by kernel_rfl) rfl
instance tFn27 : TFn Try.prog 27 := mkTFn Try.func27 (by kernel_rfl) rfl
instance tFn28 : TFn Try.prog 28 := mkTFn Try.func28 (by kernel_rfl) rfl
instance tFn29 : TFn Try.prog 29 := mkTFn Try.func29 (by kernel_rfl) rfl
instance tFn30 : TFn Try.prog 30 := mkTFn Try.func30 (by kernel_rfl) rfl
instance tFn31 : TFn Try.prog 31 := mkTFn Try.func31 (by kernel_rfl) rfl
instance tFn32 : TFn Try.prog 32 := mkTFn Try.func32 (by kernel_rfl) rfl
instance tFn33 : TFn Try.prog 33 := mkTFn Try.func33 (by kernel_rfl) rfl
instance tFn34 : TFn Try.prog 34 := mkTFn Try.func34 (by kernel_rfl) rfl
instance tFn35 : TFn Try.prog 35 := mkTFn Try.func35 (by kernel_rfl) rfl
instance tFn36 : TFn Try.prog 36 := mkTFn Try.func36 (by kernel_rfl) rfl
instance tFn37 : TFn Try.prog 37 := mkTFn Try.func37 (by kernel_rfl) rfl
instance tFn38 : TFn Try.prog 38 := mkTFn Try.func38 (by kernel_rfl) rfl
instance tFn39 : TFn Try.prog 39 := mkTFn Try.func39 (by kernel_rfl) rfl
instance tFn40 : TFn Try.prog 40 := mkTFn Try.func40 (by kernel_rfl) rfl
instance tFn41 : TFn Try.prog 41 := mkTFn Try.func41 (by kernel_rfl) rfl
instance tFn42 : TFn Try.prog 42 := mkTFn Try.func42 (by kernel_rfl) rfl
instance tFn43 : TFn Try.prog 43 := mkTFn Try.func43 (by kernel_rfl) rfl
instance tFn44 : TFn Try.prog 44 := mkTFn Try.func44 (by kernel_rfl) rfl
instance tFn45 : TFn Try.prog 45 := mkTFn Try.func45 (by kernel_rfl) rfl
instance tFn46 : TFn Try.prog 46 := mkTFn Try.func46 (by kernel_rfl) rfl
instance tFn47 : TFn Try.prog 47 := mkTFn Try.func47 (by kernel_rfl) rfl
instance tFn48 : TFn Try.prog 48 := mkTFn Try.func48 (by kernel_rfl) rfl
instance tFn49 : TFn Try.prog 49 := mkTFn Try.func49 (by kernel_rfl) rfl
instance tFn50 : TFn Try.prog 50 := mkTFn Try.func50 (by kernel_rfl) rfl
instance tFn51 : TFn Try.prog 51 := mkTFn Try.func51 (by kernel_rfl) rfl
instance tFn52 : TFn Try.prog 52 := mkTFn Try.func52 (by kernel_rfl) rfl
instance tFn53 : TFn Try.prog 53 := mkTFn Try.func53 (by kernel_rfl) rfl
instance tFn54 : TFn Try.prog 54 := mkTFn Try.func54 (by kernel_rfl) rfl
instance tFn55 : TFn Try.prog 55 := mkTFn Try.func55 (by kernel_rfl) rfl
instance tFn56 : TFn Try.prog 56 := mkTFn Try.func56 (by kernel_rfl) rfl
instance tFn57 : TFn Try.prog 57 := mkTFn Try.func57 (by kernel_rfl) rfl
instance tFn58 : TFn Try.prog 58 := mkTFn Try.func58 (by kernel_rfl) rfl
instance tFn59 : TFn Try.prog 59 := mkTFn Try.func59 (by kernel_rfl) rfl
instance tFn60 : TFn Try.prog 60 := mkTFn Try.func60 (by kernel_rfl) rfl
instance tFn61 : TFn Try.prog 61 := mkTFn Try.func61 (by kernel_rfl) rfl
instance tFn62 : TFn Try.prog 62 := mkTFn Try.func62 (by kernel_rfl) rfl
instance tFn63 : TFn Try.prog 63 := mkTFn Try.func63 (by kernel_rfl) rfl
instance tFn64 : TFn Try.prog 64 := mkTFn Try.func64 (by kernel_rfl) rfl
instance tFn65 : TFn Try.prog 65 := mkTFn Try.func65 (by kernel_rfl) rfl
instance tFn66 : TFn Try.prog 66 := mkTFn Try.func66 (by kernel_rfl) rfl
instance tFn67 : TFn Try.prog 67 := mkTFn Try.func67 (by kernel_rfl) rfl
instance tFn68 : TFn Try.prog 68 := mkTFn Try.func68 (by kernel_rfl) rfl
instance tFn69 : TFn Try.prog 69 := mkTFn Try.func69 (by kernel_rfl) rfl
instance tFn70 : TFn Try.prog 70 := mkTFn Try.func70 (by kernel_rfl) rfl
instance tFn71 : TFn Try.prog 71 := mkTFn Try.func71 (by kernel_rfl) rfl
instance tFn72 : TFn Try.prog 72 := mkTFn Try.func72 (by kernel_rfl) rfl
instance tFn73 : TFn Try.prog 73 := mkTFn Try.func73 (by kernel_rfl) rfl
instance tFn74 : TFn Try.prog 74 := mkTFn Try.func74 (by kernel_rfl) rfl
instance tFn75 : TFn Try.prog 75 := mkTFn Try.func75 (by kernel_rfl) rfl
instance tFn76 : TFn Try.prog 76 := mkTFn Try.func76 (by kernel_rfl) rfl
instance tFn77 : TFn Try.prog 77 := mkTFn Try.func77 (by kernel_rfl) rfl
instance tFn78 : TFn Try.prog 78 := mkTFn Try.func78 (by kernel_rfl) rfl
instance tFn79 : TFn Try.prog 79 := mkTFn Try.func79 (by kernel_rfl) rfl
instance tFn80 : TFn Try.prog 80 := mkTFn Try.func80 (by kernel_rfl) rfl
instance tFn81 : TFn Try.prog 81 := mkTFn Try.func81 (by kernel_rfl) rfl
instance tFn82 : TFn Try.prog 82 := mkTFn Try.func82 (by kernel_rfl) rfl
instance tFn83 : TFn Try.prog 83 := mkTFn Try.func83 (by kernel_rfl) rfl
instance tFn84 : TFn Try.prog 84 := mkTFn Try.func84 (by kernel_rfl) rfl
instance tFn85 : TFn Try.prog 85 := mkTFn Try.func85 (by kernel_rfl) rfl
instance tFn86 : TFn Try.prog 86 := mkTFn Try.func86 (by kernel_rfl) rfl
instance tFn87 : TFn Try.prog 87 := mkTFn Try.func87 (by kernel_rfl) rfl
instance tFn88 : TFn Try.prog 88 := mkTFn Try.func88 (by kernel_rfl) rfl
instance tFn89 : TFn Try.prog 89 := mkTFn Try.func89 (by kernel_rfl) rfl
instance tFn90 : TFn Try.prog 90 := mkTFn Try.func90 (by kernel_rfl) rfl
instance tFn91 : TFn Try.prog 91 := mkTFn Try.func91 (by kernel_rfl) rfl
instance tFn92 : TFn Try.prog 92 := mkTFn Try.func92 (by kernel_rfl) rfl
instance tFn93 : TFn Try.prog 93 := mkTFn Try.func93 (by kernel_rfl) rfl
instance tFn94 : TFn Try.prog 94 := mkTFn Try.func94 (by kernel_rfl) rfl
instance tFn95 : TFn Try.prog 95 := mkTFn Try.func95 (by kernel_rfl) rfl
instance tFn96 : TFn Try.prog 96 := mkTFn Try.func96 (by kernel_rfl) rfl
instance tFn97 : TFn Try.prog 97 := mkTFn Try.func97 (by kernel_rfl) rfl
instance tFn98 : TFn Try.prog 98 := mkTFn Try.func98 (by kernel_rfl) rfl
instance tFn99 : TFn Try.prog 99 := mkTFn Try.func99 (by kernel_rfl) rfl
instance tFn100 : TFn Try.prog 100 := mkTFn Try.func100 (by kernel_rfl) rfl
instance tFn101 : TFn Try.prog 101 := mkTFn Try.func101 (by kernel_rfl) rfl
instance tFn102 : TFn Try.prog 102 := mkTFn Try.func102 (by kernel_rfl) rfl
instance tFn103 : TFn Try.prog 103 := mkTFn Try.func103 (by kernel_rfl) rfl
instance tFn104 : TFn Try.prog 104 := mkTFn Try.func104 (by kernel_rfl) rfl
instance tFn105 : TFn Try.prog 105 := mkTFn Try.func105 (by kernel_rfl) rfl
instance tFn106 : TFn Try.prog 106 := mkTFn Try.func106 (by kernel_rfl) rfl
instance tFn107 : TFn Try.prog 107 := mkTFn Try.func107 (by kernel_rfl) rfl
instance tFn108 : TFn Try.prog 108 := mkTFn Try.func108 (by kernel_rfl) rfl
instance tFn109 : TFn Try.prog 109 := mkTFn Try.func109 (by kernel_rfl) rfl
instance tFn110 : TFn Try.prog 110 := mkTFn Try.func110 (by kernel_rfl) rfl
instance tFn111 : TFn Try.prog 111 := mkTFn Try.func111 (by kernel_rfl) rfl
instance tFn112 : TFn Try.prog 112 := mkTFn Try.func112 (by kernel_rfl) rfl
instance tFn113 : TFn Try.prog 113 := mkTFn Try.func113 (by kernel_rfl) rfl
instance tFn114 : TFn Try.prog 114 := mkTFn Try.func114 (by kernel_rfl) rfl
instance tFn115 : TFn Try.prog 115 := mkTFn Try.func115 (by kernel_rfl) rfl
instance tFn116 : TFn Try.prog 116 := mkTFn Try.func116 (by kernel_rfl) rfl
instance tFn117 : TFn Try.prog 117 := mkTFn Try.func117 (by kernel_rfl) rfl
instance tFn118 : TFn Try.prog 118 := mkTFn Try.func118 (by kernel_rfl) rfl
instance tFn119 : TFn Try.prog 119 := mkTFn Try.func119 (by kernel_rfl) rfl
instance tFn120 : TFn Try.prog 120 := mkTFn Try.func120 (by kernel_rfl) rfl
instance tFn121 : TFn Try.prog 121 := mkTFn Try.func121 (by kernel_rfl) rfl
instance tFn122 : TFn Try.prog 122 := mkTFn Try.func122 (by kernel_rfl) rfl
instance tFn123 : TFn Try.prog 123 := mkTFn Try.func123 (by kernel_rfl) rfl
instance tFn124 : TFn Try.prog 124 := mkTFn Try.func124 (by kernel_rfl) rfl
instance tFn125 : TFn Try.prog 125 := mkTFn Try.func125 (by kernel_rfl) rfl
instance tFn126 : TFn Try.prog 126 := mkTFn Try.func126 (by kernel_rfl) rfl
instance tFn127 : TFn Try.prog 127 := mkTFn Try.func127 (by kernel_rfl) rfl
instance tFn128 : TFn Try.prog 128 := mkTFn Try.func128 (by kernel_rfl) rfl
instance tFn129 : TFn Try.prog 129 := mkTFn Try.func129 (by kernel_rfl) rfl
instance tFn130 : TFn Try.prog 130 := mkTFn Try.func130 (by kernel_rfl) rfl
instance tFn131 : TFn Try.prog 131 := mkTFn Try.func131 (by kernel_rfl) rfl
instance tFn132 : TFn Try.prog 132 := mkTFn Try.func132 (by kernel_rfl) rfl
instance tFn133 : TFn Try.prog 133 := mkTFn Try.func133 (by kernel_rfl) rfl
instance tFn134 : TFn Try.prog 134 := mkTFn Try.func134 (by kernel_rfl) rfl
instance tFn135 : TFn Try.prog 135 := mkTFn Try.func135 (by kernel_rfl) rfl
instance tFn136 : TFn Try.prog 136 := mkTFn Try.func136 (by kernel_rfl) rfl
instance tFn137 : TFn Try.prog 137 := mkTFn Try.func137 (by kernel_rfl) rfl
instance tFn138 : TFn Try.prog 138 := mkTFn Try.func138 (by kernel_rfl) rfl
instance tFn139 : TFn Try.prog 139 := mkTFn Try.func139 (by kernel_rfl) rfl
instance tFn140 : TFn Try.prog 140 := mkTFn Try.func140 (by kernel_rfl) rfl
instance tFn141 : TFn Try.prog 141 := mkTFn Try.func141 (by kernel_rfl) rfl
instance tFn142 : TFn Try.prog 142 := mkTFn Try.func142 (by kernel_rfl) rfl
instance tFn143 : TFn Try.prog 143 := mkTFn Try.func143 (by kernel_rfl) rfl
instance tFn144 : TFn Try.prog 144 := mkTFn Try.func144 (by kernel_rfl) rfl
instance tFn145 : TFn Try.prog 145 := mkTFn Try.func145 (by kernel_rfl) rfl
instance tFn146 : TFn Try.prog 146 := mkTFn Try.func146 (by kernel_rfl) rfl
instance tFn147 : TFn Try.prog 147 := mkTFn Try.func147 (by kernel_rfl) rfl
instance tFn148 : TFn Try.prog 148 := mkTFn Try.func148 (by kernel_rfl) rfl
instance tFn149 : TFn Try.prog 149 := mkTFn Try.func149 (by kernel_rfl) rfl
instance tFn150 : TFn Try.prog 150 := mkTFn Try.func150 (by kernel_rfl) rfl
instance tFn151 : TFn Try.prog 151 := mkTFn Try.func151 (by kernel_rfl) rfl
instance tFn152 : TFn Try.prog 152 := mkTFn Try.func152 (by kernel_rfl) rfl
instance tFn153 : TFn Try.prog 153 := mkTFn Try.func153 (by kernel_rfl) rfl
instance tFn154 : TFn Try.prog 154 := mkTFn Try.func154 (by kernel_rfl) rfl
end Go.Proofs.Ytffpfcomikcimaa
