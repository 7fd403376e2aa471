/-
  Facts on the types and functions of this seat's translation, printed by a program of ours (gen_typ.py). No condition.
-/
import Derived.Test.YtaplkoimhecacaaDoorTb01
import Derived.Test.YtaplkoimhecacaaDoorProg
namespace Go.Proofs.YtaplkoimhecacaaDoor
open Go
instance tSc3 : TSc Tryd.prog 3 := mkTSc (by kernel_rfl) (by kernel_rfl)
instance tZe3 : TZe Tryd.prog 3 [.int .i64 0] := mkTZe (z := .int .i64 0) (by kernel_rfl) rfl
instance tSc4 : TSc Tryd.prog 4 := mkTSc (by kernel_rfl) (by kernel_rfl)
instance tZe4 : TZe Tryd.prog 4 [.bool false] := mkTZe (z := .bool false) (by kernel_rfl) rfl
instance tSc9 : TSc Tryd.prog 9 := mkTSc (by kernel_rfl) (by kernel_rfl)
instance tAg23 : TAg Tryd.prog 23 7 := mkTAg (by kernel_rfl) (by kernel_rfl)
instance tZe23 : TZe Tryd.prog 23 [.int .i64 0, .int .i64 0, .int .i64 0, .int .i64 0, .int .i64 0, .int .i64 0, .int .i64 0] := mkTZe (z := .agg #[.int .i64 0, .int .i64 0, .int .i64 0, .int .i64 0, .int .i64 0, .int .i64 0, .int .i64 0]) (by kernel_rfl) rfl
instance tFl23_0 : TFl Tryd.prog 23 0 0 := mkTFl (by kernel_rfl)
instance tFl23_1 : TFl Tryd.prog 23 1 1 := mkTFl (by kernel_rfl)
instance tFl23_2 : TFl Tryd.prog 23 2 2 := mkTFl (by kernel_rfl)
instance tFl23_3 : TFl Tryd.prog 23 3 3 := mkTFl (by kernel_rfl)
instance tFl23_4 : TFl Tryd.prog 23 4 4 := mkTFl (by kernel_rfl)
instance tFl23_5 : TFl Tryd.prog 23 5 5 := mkTFl (by kernel_rfl)
instance tFl23_6 : TFl Tryd.prog 23 6 6 := mkTFl (by kernel_rfl)
instance tBd23 : TBd Tryd.prog 23 [.int .i64 0, .int .i64 0, .int .i64 0, .int .i64 0, .int .i64 0, .int .i64 0, .int .i64 0] (fun i => [(0, 1), (1, 1), (2, 1), (3, 1), (4, 1), (5, 1), (6, 1)][i]?) := mkTBd (z := .agg #[.int .i64 0, .int .i64 0, .int .i64 0, .int .i64 0, .int .i64 0, .int .i64 0, .int .i64 0]) (by kernel_rfl) rfl (by kernel_rfl)
instance tSc24 : TSc Tryd.prog 24 := mkTSc (by kernel_rfl) (by kernel_rfl)
instance tZe24 : TZe Tryd.prog 24 [.int .i64 0] := mkTZe (z := .int .i64 0) (by kernel_rfl) rfl
instance tSc29 : TSc Tryd.prog 29 := mkTSc (by kernel_rfl) (by kernel_rfl)
instance tZe29 : TZe Tryd.prog 29 [.slice Option.none 0 0] := mkTZe (z := .slice Option.none 0 0) (by kernel_rfl) rfl
instance tSl29 : TSl Tryd.prog 29 55 8 := mkTSl (by kernel_rfl) (by kernel_rfl)
instance tSc30 : TSc Tryd.prog 30 := mkTSc (by kernel_rfl) (by kernel_rfl)
instance tZe30 : TZe Tryd.prog 30 [.slice Option.none 0 0] := mkTZe (z := .slice Option.none 0 0) (by kernel_rfl) rfl
instance tSl30 : TSl Tryd.prog 30 4 1 := mkTSl (by kernel_rfl) (by kernel_rfl)
instance tSc31 : TSc Tryd.prog 31 := mkTSc (by kernel_rfl) (by kernel_rfl)
instance tSl31 : TSl Tryd.prog 31 49 5 := mkTSl (by kernel_rfl) (by kernel_rfl)
instance tAg33 : TAg Tryd.prog 33 5 := mkTAg (by kernel_rfl) (by kernel_rfl)
instance tZe33 : TZe Tryd.prog 33 [.slice Option.none 0 0, .slice Option.none 0 0, .slice Option.none 0 0, .slice Option.none 0 0, .slice Option.none 0 0] := mkTZe (z := .agg #[.slice Option.none 0 0, .slice Option.none 0 0, .slice Option.none 0 0, .slice Option.none 0 0, .slice Option.none 0 0]) (by kernel_rfl) rfl
instance tFl33_0 : TFl Tryd.prog 33 0 0 := mkTFl (by kernel_rfl)
instance tFl33_1 : TFl Tryd.prog 33 1 1 := mkTFl (by kernel_rfl)
instance tFl33_2 : TFl Tryd.prog 33 2 2 := mkTFl (by kernel_rfl)
instance tFl33_3 : TFl Tryd.prog 33 3 3 := mkTFl (by kernel_rfl)
instance tFl33_4 : TFl Tryd.prog 33 4 4 := mkTFl (by kernel_rfl)
instance tBd33 : TBd Tryd.prog 33 [.slice Option.none 0 0, .slice Option.none 0 0, .slice Option.none 0 0, .slice Option.none 0 0, .slice Option.none 0 0] (fun i => [(0, 1), (1, 1), (2, 1), (3, 1), (4, 1)][i]?) := mkTBd (z := .agg #[.slice Option.none 0 0, .slice Option.none 0 0, .slice Option.none 0 0, .slice Option.none 0 0, .slice Option.none 0 0]) (by kernel_rfl) rfl (by kernel_rfl)
instance tSl34 : TSl Tryd.prog 34 3 1 := mkTSl (by kernel_rfl) (by kernel_rfl)
instance tAg45 : TAg Tryd.prog 45 4 := mkTAg (by kernel_rfl) (by kernel_rfl)
instance tZe45 : TZe Tryd.prog 45 [.int .i64 0, .int .i64 0, .int .i64 0, .int .i64 0] := mkTZe (z := .agg #[.int .i64 0, .int .i64 0, .int .i64 0, .int .i64 0]) (by kernel_rfl) rfl
instance tAr45 : TAr Tryd.prog 45 4 1 := mkTAr (b := false) (by kernel_rfl)
instance tAv45 : TAv Tryd.prog 45 true 4 1 := mkTAv (b := false) (by kernel_rfl) (by simp)
instance tBd45 : TBd Tryd.prog 45 [.int .i64 0, .int .i64 0, .int .i64 0, .int .i64 0] (fun i => some (i * 1, 1)) := mkTBda (n := 4) (b := false) (z := .agg #[.int .i64 0, .int .i64 0, .int .i64 0, .int .i64 0]) (by kernel_rfl) rfl (by kernel_rfl)
instance tAg49 : TAg Tryd.prog 49 5 := mkTAg (by kernel_rfl) (by kernel_rfl)
instance tZe49 : TZe Tryd.prog 49 [.int .i64 0, .string ByteArray.empty, .int .i64 0, .int .i64 0, .int .i64 0] := mkTZe (z := .agg #[.int .i64 0, .string ByteArray.empty, .int .i64 0, .int .i64 0, .int .i64 0]) (by kernel_rfl) rfl
instance tFl49_0 : TFl Tryd.prog 49 0 0 := mkTFl (by kernel_rfl)
instance tFl49_1 : TFl Tryd.prog 49 1 1 := mkTFl (by kernel_rfl)
instance tFl49_2 : TFl Tryd.prog 49 2 2 := mkTFl (by kernel_rfl)
instance tFl49_3 : TFl Tryd.prog 49 3 3 := mkTFl (by kernel_rfl)
instance tFl49_4 : TFl Tryd.prog 49 4 4 := mkTFl (by kernel_rfl)
instance tBd49 : TBd Tryd.prog 49 [.int .i64 0, .string ByteArray.empty, .int .i64 0, .int .i64 0, .int .i64 0] (fun i => [(0, 1), (1, 1), (2, 1), (3, 1), (4, 1)][i]?) := mkTBd (z := .agg #[.int .i64 0, .string ByteArray.empty, .int .i64 0, .int .i64 0, .int .i64 0]) (by kernel_rfl) rfl (by kernel_rfl)
instance tAg53 : TAg Tryd.prog 53 2 := mkTAg (by kernel_rfl) (by kernel_rfl)
instance tZe53 : TZe Tryd.prog 53 [.int .i64 0, .int .i64 0] := mkTZe (z := .agg #[.int .i64 0, .int .i64 0]) (by kernel_rfl) rfl
instance tFl53_0 : TFl Tryd.prog 53 0 0 := mkTFl (by kernel_rfl)
instance tFl53_1 : TFl Tryd.prog 53 1 1 := mkTFl (by kernel_rfl)
instance tBd53 : TBd Tryd.prog 53 [.int .i64 0, .int .i64 0] (fun i => [(0, 1), (1, 1)][i]?) := mkTBd (z := .agg #[.int .i64 0, .int .i64 0]) (by kernel_rfl) rfl (by kernel_rfl)
instance tAg55 : TAg Tryd.prog 55 8 := mkTAg (by kernel_rfl) (by kernel_rfl)
instance tZe55 : TZe Tryd.prog 55 [.int .i64 0, .int .i64 0, .int .i64 0, .int .i64 0, .int .i64 0, .int .i64 0, .int .i64 0, .int .i64 0] := mkTZe (z := .agg #[.int .i64 0, .int .i64 0, .int .i64 0, .int .i64 0, .int .i64 0, .int .i64 0, .int .i64 0, .int .i64 0]) (by kernel_rfl) rfl
instance tFl55_0 : TFl Tryd.prog 55 0 0 := mkTFl (by kernel_rfl)
instance tFl55_1 : TFl Tryd.prog 55 1 2 := mkTFl (by kernel_rfl)
instance tFl55_2 : TFl Tryd.prog 55 2 4 := mkTFl (by kernel_rfl)
instance tFl55_3 : TFl Tryd.prog 55 3 6 := mkTFl (by kernel_rfl)
instance tBd55 : TBd Tryd.prog 55 [.int .i64 0, .int .i64 0, .int .i64 0, .int .i64 0, .int .i64 0, .int .i64 0, .int .i64 0, .int .i64 0] (fun i => [(0, 2), (2, 2), (4, 2), (6, 2)][i]?) := mkTBd (z := .agg #[.int .i64 0, .int .i64 0, .int .i64 0, .int .i64 0, .int .i64 0, .int .i64 0, .int .i64 0, .int .i64 0]) (by kernel_rfl) rfl (by kernel_rfl)
instance tEq55 : TEq Tryd.prog 55 8 := mkTEq (by kernel_rfl) (by kernel_rfl) (by kernel_rfl)
instance tAg73 : TAg Tryd.prog 73 2 := mkTAg (by kernel_rfl) (by kernel_rfl)
instance tZe73 : TZe Tryd.prog 73 [.int .i64 0, .int .i64 0] := mkTZe (z := .agg #[.int .i64 0, .int .i64 0]) (by kernel_rfl) rfl
instance tFl73_0 : TFl Tryd.prog 73 0 0 := mkTFl (by kernel_rfl)
instance tFl73_1 : TFl Tryd.prog 73 1 1 := mkTFl (by kernel_rfl)
instance tBd73 : TBd Tryd.prog 73 [.int .i64 0, .int .i64 0] (fun i => [(0, 1), (1, 1)][i]?) := mkTBd (z := .agg #[.int .i64 0, .int .i64 0]) (by kernel_rfl) rfl (by kernel_rfl)
instance tEq73 : TEq Tryd.prog 73 2 := mkTEq (by kernel_rfl) (by kernel_rfl) (by kernel_rfl)
instance tAg106 : TAg Tryd.prog 106 5 := mkTAg (by kernel_rfl) (by kernel_rfl)
instance tZe106 : TZe Tryd.prog 106 [.slice Option.none 0 0, .slice Option.none 0 0, .slice Option.none 0 0, .slice Option.none 0 0, .slice Option.none 0 0] := mkTZe (z := .agg #[.slice Option.none 0 0, .slice Option.none 0 0, .slice Option.none 0 0, .slice Option.none 0 0, .slice Option.none 0 0]) (by kernel_rfl) rfl
instance tFl106_0 : TFl Tryd.prog 106 0 0 := mkTFl (by kernel_rfl)
instance tBd106 : TBd Tryd.prog 106 [.slice Option.none 0 0, .slice Option.none 0 0, .slice Option.none 0 0, .slice Option.none 0 0, .slice Option.none 0 0] (fun i => [(0, 5)][i]?) := mkTBd (z := .agg #[.slice Option.none 0 0, .slice Option.none 0 0, .slice Option.none 0 0, .slice Option.none 0 0, .slice Option.none 0 0]) (by kernel_rfl) rfl (by kernel_rfl)
instance tAg108 : TAg Tryd.prog 108 13 := mkTAg (by kernel_rfl) (by kernel_rfl)
instance tZe108 : TZe Tryd.prog 108 [.slice Option.none 0 0, .slice Option.none 0 0, .slice Option.none 0 0, .slice Option.none 0 0, .slice Option.none 0 0, .int .i64 0, .int .i64 0, .int .i64 0, .int .i64 0, .int .i64 0, .int .i64 0, .int .i64 0, .slice Option.none 0 0] := mkTZe (z := .agg #[.slice Option.none 0 0, .slice Option.none 0 0, .slice Option.none 0 0, .slice Option.none 0 0, .slice Option.none 0 0, .int .i64 0, .int .i64 0, .int .i64 0, .int .i64 0, .int .i64 0, .int .i64 0, .int .i64 0, .slice Option.none 0 0]) (by kernel_rfl) rfl
instance tFl108_0 : TFl Tryd.prog 108 0 0 := mkTFl (by kernel_rfl)
instance tFl108_1 : TFl Tryd.prog 108 1 5 := mkTFl (by kernel_rfl)
instance tFl108_2 : TFl Tryd.prog 108 2 12 := mkTFl (by kernel_rfl)
instance tBd108 : TBd Tryd.prog 108 [.slice Option.none 0 0, .slice Option.none 0 0, .slice Option.none 0 0, .slice Option.none 0 0, .slice Option.none 0 0, .int .i64 0, .int .i64 0, .int .i64 0, .int .i64 0, .int .i64 0, .int .i64 0, .int .i64 0, .slice Option.none 0 0] (fun i => [(0, 5), (5, 7), (12, 1)][i]?) := mkTBd (z := .agg #[.slice Option.none 0 0, .slice Option.none 0 0, .slice Option.none 0 0, .slice Option.none 0 0, .slice Option.none 0 0, .int .i64 0, .int .i64 0, .int .i64 0, .int .i64 0, .int .i64 0, .int .i64 0, .int .i64 0, .slice Option.none 0 0]) (by kernel_rfl) rfl (by kernel_rfl)
instance tAg112 : TAg Tryd.prog 112 2 := mkTAg (by kernel_rfl) (by kernel_rfl)
instance tZe112 : TZe Tryd.prog 112 [.int .i64 0, .int .i64 0] := mkTZe (z := .agg #[.int .i64 0, .int .i64 0]) (by kernel_rfl) rfl
instance tFl112_0 : TFl Tryd.prog 112 0 0 := mkTFl (by kernel_rfl)
instance tFl112_1 : TFl Tryd.prog 112 1 1 := mkTFl (by kernel_rfl)
instance tBd112 : TBd Tryd.prog 112 [.int .i64 0, .int .i64 0] (fun i => [(0, 1), (1, 1)][i]?) := mkTBd (z := .agg #[.int .i64 0, .int .i64 0]) (by kernel_rfl) rfl (by kernel_rfl)
instance tSc118 : TSc Tryd.prog 118 := mkTSc (by kernel_rfl) (by kernel_rfl)
instance tZe118 : TZe Tryd.prog 118 [.map Option.none] := mkTZe (z := .map Option.none) (by kernel_rfl) rfl
instance tSc119 : TSc Tryd.prog 119 := mkTSc (by kernel_rfl) (by kernel_rfl)
instance tZe119 : TZe Tryd.prog 119 [.nilFunc] := mkTZe (z := .nilFunc) (by kernel_rfl) rfl
instance tAg121 : TAg Tryd.prog 121 3 := mkTAg (by kernel_rfl) (by kernel_rfl)
instance tZe121 : TZe Tryd.prog 121 [.int .i64 0, .int .i64 0, .int .i64 0] := mkTZe (z := .agg #[.int .i64 0, .int .i64 0, .int .i64 0]) (by kernel_rfl) rfl
instance tFl121_0 : TFl Tryd.prog 121 0 0 := mkTFl (by kernel_rfl)
instance tFl121_1 : TFl Tryd.prog 121 1 1 := mkTFl (by kernel_rfl)
instance tBd121 : TBd Tryd.prog 121 [.int .i64 0, .int .i64 0, .int .i64 0] (fun i => [(0, 1), (1, 2)][i]?) := mkTBd (z := .agg #[.int .i64 0, .int .i64 0, .int .i64 0]) (by kernel_rfl) rfl (by kernel_rfl)
instance tEq121 : TEq Tryd.prog 121 3 := mkTEq (by kernel_rfl) (by kernel_rfl) (by kernel_rfl)
instance tSc122 : TSc Tryd.prog 122 := mkTSc (by kernel_rfl) (by kernel_rfl)
instance tZe122 : TZe Tryd.prog 122 [.nilFunc] := mkTZe (z := .nilFunc) (by kernel_rfl) rfl
instance tAg129 : TAg Tryd.prog 129 9 := mkTAg (by kernel_rfl) (by kernel_rfl)
instance tZe129 : TZe Tryd.prog 129 [.int .i64 0, .int .i64 0, .int .i64 0, .int .i64 0, .int .i64 0, .int .i64 0, .int .i64 0, .int .i64 0, .int .i64 0] := mkTZe (z := .agg #[.int .i64 0, .int .i64 0, .int .i64 0, .int .i64 0, .int .i64 0, .int .i64 0, .int .i64 0, .int .i64 0, .int .i64 0]) (by kernel_rfl) rfl
instance tFl129_0 : TFl Tryd.prog 129 0 0 := mkTFl (by kernel_rfl)
instance tFl129_1 : TFl Tryd.prog 129 1 8 := mkTFl (by kernel_rfl)
instance tBd129 : TBd Tryd.prog 129 [.int .i64 0, .int .i64 0, .int .i64 0, .int .i64 0, .int .i64 0, .int .i64 0, .int .i64 0, .int .i64 0, .int .i64 0] (fun i => [(0, 8), (8, 1)][i]?) := mkTBd (z := .agg #[.int .i64 0, .int .i64 0, .int .i64 0, .int .i64 0, .int .i64 0, .int .i64 0, .int .i64 0, .int .i64 0, .int .i64 0]) (by kernel_rfl) rfl (by kernel_rfl)
instance tAg137 : TAg Tryd.prog 137 8 := mkTAg (by kernel_rfl) (by kernel_rfl)
instance tZe137 : TZe Tryd.prog 137 [.int .i64 0, .int .i64 0, .int .i64 0, .int .i64 0, .int .i64 0, .int .i64 0, .int .i64 0, .int .i64 0] := mkTZe (z := .agg #[.int .i64 0, .int .i64 0, .int .i64 0, .int .i64 0, .int .i64 0, .int .i64 0, .int .i64 0, .int .i64 0]) (by kernel_rfl) rfl
instance tAr137 : TAr Tryd.prog 137 4 2 := mkTAr (b := true) (by kernel_rfl)
instance tAv137 : TAv Tryd.prog 137 false 4 2 := mkTAv (b := true) (by kernel_rfl) (by simp)
instance tBd137 : TBd Tryd.prog 137 [.int .i64 0, .int .i64 0, .int .i64 0, .int .i64 0, .int .i64 0, .int .i64 0, .int .i64 0, .int .i64 0] (fun i => some (i * 2, 2)) := mkTBda (n := 4) (b := true) (z := .agg #[.int .i64 0, .int .i64 0, .int .i64 0, .int .i64 0, .int .i64 0, .int .i64 0, .int .i64 0, .int .i64 0]) (by kernel_rfl) rfl (by kernel_rfl)
instance tSc147 : TSc Tryd.prog 147 := mkTSc (by kernel_rfl) (by kernel_rfl)
instance tBd155 : TBd Tryd.prog 155 [.slice Option.none 0 0, .slice Option.none 0 0, .slice Option.none 0 0, .slice Option.none 0 0, .slice Option.none 0 0, .int .i64 0, .int .i64 0, .int .i64 0, .int .i64 0, .int .i64 0, .int .i64 0, .int .i64 0, .slice Option.none 0 0] (fun i => [(0, 5), (5, 7), (12, 1)][i]?) := mkTBd (z := .agg #[.slice Option.none 0 0, .slice Option.none 0 0, .slice Option.none 0 0, .slice Option.none 0 0, .slice Option.none 0 0, .int .i64 0, .int .i64 0, .int .i64 0, .int .i64 0, .int .i64 0, .int .i64 0, .int .i64 0, .slice Option.none 0 0]) (by kernel_rfl) rfl (by kernel_rfl)
instance tSc172 : TSc Tryd.prog 172 := mkTSc (by kernel_rfl) (by kernel_rfl)
instance tAr173 : TAr Tryd.prog 173 8 1 := mkTAr (b := false) (by kernel_rfl)
instance tFl175_0 : TFl Tryd.prog 175 0 0 := mkTFl (by kernel_rfl)
instance tFl175_1 : TFl Tryd.prog 175 1 8 := mkTFl (by kernel_rfl)
instance tFl175_2 : TFl Tryd.prog 175 2 9 := mkTFl (by kernel_rfl)
instance tBd175 : TBd Tryd.prog 175 [.int .i64 0, .int .i64 0, .int .i64 0, .int .i64 0, .int .i64 0, .int .i64 0, .int .i64 0, .int .i64 0, .int .i64 0, .int .i64 0] (fun i => [(0, 8), (8, 1), (9, 1)][i]?) := mkTBd (z := .agg #[.int .i64 0, .int .i64 0, .int .i64 0, .int .i64 0, .int .i64 0, .int .i64 0, .int .i64 0, .int .i64 0, .int .i64 0, .int .i64 0]) (by kernel_rfl) rfl (by kernel_rfl)
instance tSl177 : TSl Tryd.prog 177 24 1 := mkTSl (by kernel_rfl) (by kernel_rfl)
instance tSc178 : TSc Tryd.prog 178 := mkTSc (by kernel_rfl) (by kernel_rfl)
instance tAg179 : TAg Tryd.prog 179 4 := mkTAg (by kernel_rfl) (by kernel_rfl)
instance tZe179 : TZe Tryd.prog 179 [.nilFunc, .nilFunc, .nilFunc, .nilFunc] := mkTZe (z := .agg #[.nilFunc, .nilFunc, .nilFunc, .nilFunc]) (by kernel_rfl) rfl
instance tAr179 : TAr Tryd.prog 179 4 1 := mkTAr (b := false) (by kernel_rfl)
instance tBd179 : TBd Tryd.prog 179 [.nilFunc, .nilFunc, .nilFunc, .nilFunc] (fun i => some (i * 1, 1)) := mkTBda (n := 4) (b := false) (z := .agg #[.nilFunc, .nilFunc, .nilFunc, .nilFunc]) (by kernel_rfl) rfl (by kernel_rfl)
instance tSc183 : TSc Tryd.prog 183 := mkTSc (by kernel_rfl) (by kernel_rfl)
instance tZe183 : TZe Tryd.prog 183 [.nilFunc] := mkTZe (z := .nilFunc) (by kernel_rfl) rfl
instance tAg188 : TAg Tryd.prog 188 3 := mkTAg (by kernel_rfl) (by kernel_rfl)
instance tZe188 : TZe Tryd.prog 188 [.int .i64 0, .int .i64 0, .int .i64 0] := mkTZe (z := .agg #[.int .i64 0, .int .i64 0, .int .i64 0]) (by kernel_rfl) rfl
instance tFl188_0 : TFl Tryd.prog 188 0 0 := mkTFl (by kernel_rfl)
instance tFl188_1 : TFl Tryd.prog 188 1 1 := mkTFl (by kernel_rfl)
instance tFl188_2 : TFl Tryd.prog 188 2 2 := mkTFl (by kernel_rfl)
instance tBd188 : TBd Tryd.prog 188 [.int .i64 0, .int .i64 0, .int .i64 0] (fun i => [(0, 1), (1, 1), (2, 1)][i]?) := mkTBd (z := .agg #[.int .i64 0, .int .i64 0, .int .i64 0]) (by kernel_rfl) rfl (by kernel_rfl)
instance tSc191 : TSc Tryd.prog 191 := mkTSc (by kernel_rfl) (by kernel_rfl)
instance tAg196 : TAg Tryd.prog 196 4 := mkTAg (by kernel_rfl) (by kernel_rfl)
instance tZe196 : TZe Tryd.prog 196 [.int .i64 0, .int .i64 0, .int .i64 0, .int .i64 0] := mkTZe (z := .agg #[.int .i64 0, .int .i64 0, .int .i64 0, .int .i64 0]) (by kernel_rfl) rfl
instance tAr196 : TAr Tryd.prog 196 4 1 := mkTAr (b := false) (by kernel_rfl)
instance tBd196 : TBd Tryd.prog 196 [.int .i64 0, .int .i64 0, .int .i64 0, .int .i64 0] (fun i => some (i * 1, 1)) := mkTBda (n := 4) (b := false) (z := .agg #[.int .i64 0, .int .i64 0, .int .i64 0, .int .i64 0]) (by kernel_rfl) rfl (by kernel_rfl)
instance tSl197 : TSl Tryd.prog 197 183 1 := mkTSl (by kernel_rfl) (by kernel_rfl)
instance tSc198 : TSc Tryd.prog 198 := mkTSc (by kernel_rfl) (by kernel_rfl)
instance tFn15 : TFn Tryd.prog 15 := mkTFn Tryd.func15 (by kernel_rfl) rfl
instance tFn16 : TFn Tryd.prog 16 := mkTFn Tryd.func16 (by kernel_rfl) rfl
instance tFn17 : TFn Tryd.prog 17 := mkTFn Tryd.func17 (by kernel_rfl) rfl
instance tFn18 : TFn Tryd.prog 18 := mkTFn Tryd.func18 (by kernel_rfl) rfl
instance tFn19 : TFn Tryd.prog 19 := mkTFn Tryd.func19 (by kernel_rfl) rfl
instance tFn20 : TFn Tryd.prog 20 := mkTFn Tryd.func20 (by kernel_rfl) rfl
instance tFn21 : TFn Tryd.prog 21 := mkTFn Tryd.func21 (by kernel_rfl) rfl
instance tFn23 : TFn Tryd.prog 23 := mkTFn Tryd.func23 (by kernel_rfl) rfl
instance tFn26 : TFn Tryd.prog 26 := mkTFn Tryd.func26 (by kernel_rfl) rfl
instance tFn27 : TFn Tryd.prog 27 := mkTFn Tryd.func27 (by kernel_rfl) rfl
instance tFn28 : TFn Tryd.prog 28 := mkTFn Tryd.func28 (by kernel_rfl) rfl
instance tFn29 : TFn Tryd.prog 29 := mkTFn Tryd.func29 (by kernel_rfl) rfl
instance tFn30 : TFn Tryd.prog 30 := mkTFn Tryd.func30 (by kernel_rfl) rfl
instance tFn31 : TFn Tryd.prog 31 := mkTFn Tryd.func31 (by kernel_rfl) rfl
instance tFn32 : TFn Tryd.prog 32 := mkTFn Tryd.func32 (by kernel_rfl) rfl
instance tFn33 : TFn Tryd.prog 33 := mkTFn Tryd.func33 (by kernel_rfl) rfl
instance tFn34 : TFn Tryd.prog 34 := mkTFn Tryd.func34 (by kernel_rfl) rfl
instance tFn42 : TFn Tryd.prog 42 := mkTFn Tryd.func42 (by kernel_rfl) rfl
instance tFn45 : TFn Tryd.prog 45 := mkTFn Tryd.func45 (by kernel_rfl) rfl
instance tFn49 : TFn Tryd.prog 49 := mkTFn Tryd.func49 (by kernel_rfl) rfl
instance tFn50 : TFn Tryd.prog 50 := mkTFn Tryd.func50 (by kernel_rfl) rfl
instance tFn51 : TFn Tryd.prog 51 := mkTFn Tryd.func51 (by kernel_rfl) rfl
instance tFn52 : TFn Tryd.prog 52 := mkTFn Tryd.func52 (by kernel_rfl) rfl
instance tFn53 : TFn Tryd.prog 53 := mkTFn Tryd.func53 (by kernel_rfl) rfl
instance tFn54 : TFn Tryd.prog 54 := mkTFn Tryd.func54 (by kernel_rfl) rfl
instance tFn55 : TFn Tryd.prog 55 := mkTFn Tryd.func55 (by kernel_rfl) rfl
instance tFn56 : TFn Tryd.prog 56 := mkTFn Tryd.func56 (by kernel_rfl) rfl
instance tFn57 : TFn Tryd.prog 57 := mkTFn Tryd.func57 (by kernel_rfl) rfl
instance tFn58 : TFn Tryd.prog 58 := mkTFn Tryd.func58 (by kernel_rfl) rfl
instance tFn59 : TFn Tryd.prog 59 := mkTFn Tryd.func59 (by kernel_rfl) rfl
instance tFn60 : TFn Tryd.prog 60 := mkTFn Tryd.func60 (by kernel_rfl) rfl
instance tFn61 : TFn Tryd.prog 61 := mkTFn Tryd.func61 (by kernel_rfl) rfl
instance tFn62 : TFn Tryd.prog 62 := mkTFn Tryd.func62 (by kernel_rfl) rfl
instance tFn63 : TFn Tryd.prog 63 := mkTFn Tryd.func63 (by kernel_rfl) rfl
instance tFn64 : TFn Tryd.prog 64 := mkTFn Tryd.func64 (by kernel_rfl) rfl
instance tFn65 : TFn Tryd.prog 65 := mkTFn Tryd.func65 (by kernel_rfl) rfl
instance tFn66 : TFn Tryd.prog 66 := mkTFn Tryd.func66 (by kernel_rfl) rfl
instance tFn67 : TFn Tryd.prog 67 := mkTFn Tryd.func67 (by kernel_rfl) rfl
instance tFn68 : TFn Tryd.prog 68 := mkTFn Tryd.func68 (by kernel_rfl) rfl
instance tFn69 : TFn Tryd.prog 69 := mkTFn Tryd.func69 (by kernel_rfl) rfl
instance tFn70 : TFn Tryd.prog 70 := mkTFn Tryd.func70 (by kernel_rfl) rfl
instance tFn71 : TFn Tryd.prog 71 := mkTFn Tryd.func71 (by kernel_rfl) rfl
instance tFn72 : TFn Tryd.prog 72 := mkTFn Tryd.func72 (by kernel_rfl) rfl
instance tFn73 : TFn Tryd.prog 73 := mkTFn Tryd.func73 (by kernel_rfl) rfl
instance tFn74 : TFn Tryd.prog 74 := mkTFn Tryd.func74 (by kernel_rfl) rfl
instance tFn75 : TFn Tryd.prog 75 := mkTFn Tryd.func75 (by kernel_rfl) rfl
instance tFn76 : TFn Tryd.prog 76 := mkTFn Tryd.func76 (by kernel_rfl) rfl
instance tFn77 : TFn Tryd.prog 77 := mkTFn Tryd.func77 (by kernel_rfl) rfl
instance tFn78 : TFn Tryd.prog 78 := mkTFn Tryd.func78 (by kernel_rfl) rfl
instance tFn82 : TFn Tryd.prog 82 := mkTFn Tryd.func82 (by kernel_rfl) rfl
instance tFn90 : TFn Tryd.prog 90 := mkTFn Tryd.func90 (by kernel_rfl) rfl
instance tFn91 : TFn Tryd.prog 91 := mkTFn Tryd.func91 (by kernel_rfl) rfl
instance tFn92 : TFn Tryd.prog 92 := mkTFn Tryd.func92 (by kernel_rfl) rfl
instance tFn93 : TFn Tryd.prog 93 := mkTFn Tryd.func93 (by kernel_rfl) rfl
instance tFn94 : TFn Tryd.prog 94 := mkTFn Tryd.func94 (by kernel_rfl) rfl
instance tFn95 : TFn Tryd.prog 95 := mkTFn Tryd.func95 (by kernel_rfl) rfl
instance tFn96 : TFn Tryd.prog 96 := mkTFn Tryd.func96 (by kernel_rfl) rfl
instance tFn97 : TFn Tryd.prog 97 := mkTFn Tryd.func97 (by kernel_rfl) rfl
instance tFn98 : TFn Tryd.prog 98 := mkTFn Tryd.func98 (by kernel_rfl) rfl
instance tFn99 : TFn Tryd.prog 99 := mkTFn Tryd.func99 (by kernel_rfl) rfl
instance tFn100 : TFn Tryd.prog 100 := mkTFn Tryd.func100 (by kernel_rfl) rfl
instance tFn101 : TFn Tryd.prog 101 := mkTFn Tryd.func101 (by kernel_rfl) rfl
instance tFn102 : TFn Tryd.prog 102 := mkTFn Tryd.func102 (by kernel_rfl) rfl
instance tFn103 : TFn Tryd.prog 103 := mkTFn Tryd.func103 (by kernel_rfl) rfl
instance tFn104 : TFn Tryd.prog 104 := mkTFn Tryd.func104 (by kernel_rfl) rfl
instance tFn105 : TFn Tryd.prog 105 := mkTFn Tryd.func105 (by kernel_rfl) rfl
instance tFn106 : TFn Tryd.prog 106 := mkTFn Tryd.func106 (by kernel_rfl) rfl
instance tFn107 : TFn Tryd.prog 107 := mkTFn Tryd.func107 (by kernel_rfl) rfl
instance tFn108 : TFn Tryd.prog 108 := mkTFn Tryd.func108 (by kernel_rfl) rfl
instance tFn109 : TFn Tryd.prog 109 := mkTFn Tryd.func109 (by kernel_rfl) rfl
instance tFn110 : TFn Tryd.prog 110 := mkTFn Tryd.func110 (by kernel_rfl) rfl
instance tFn111 : TFn Tryd.prog 111 := mkTFn Tryd.func111 (by kernel_rfl) rfl
instance tFn112 : TFn Tryd.prog 112 := mkTFn Tryd.func112 (by kernel_rfl) rfl
instance tFn113 : TFn Tryd.prog 113 := mkTFn Tryd.func113 (by kernel_rfl) rfl
instance tFn114 : TFn Tryd.prog 114 := mkTFn Tryd.func114 (by kernel_rfl) rfl
instance tFn115 : TFn Tryd.prog 115 := mkTFn Tryd.func115 (by kernel_rfl) rfl
instance tFn117 : TFn Tryd.prog 117 := mkTFn Tryd.func117 (by kernel_rfl) rfl
instance tFn118 : TFn Tryd.prog 118 := mkTFn Tryd.func118 (by kernel_rfl) rfl
instance tFn119 : TFn Tryd.prog 119 := mkTFn Tryd.func119 (by kernel_rfl) rfl
instance tFn120 : TFn Tryd.prog 120 := mkTFn Tryd.func120 (by kernel_rfl) rfl
instance tFn121 : TFn Tryd.prog 121 := mkTFn Tryd.func121 (by kernel_rfl) rfl
instance tFn122 : TFn Tryd.prog 122 := mkTFn Tryd.func122 (by kernel_rfl) rfl
instance tFn123 : TFn Tryd.prog 123 := mkTFn Tryd.func123 (by kernel_rfl) rfl
instance tFn124 : TFn Tryd.prog 124 := mkTFn Tryd.func124 (by kernel_rfl) rfl
instance tFn125 : TFn Tryd.prog 125 := mkTFn Tryd.func125 (by kernel_rfl) rfl
instance tFn145 : TFn Tryd.prog 145 := mkTFn Tryd.func145 (by kernel_rfl) rfl
instance tFn147 : TFn Tryd.prog 147 := mkTFn Tryd.func147 (by kernel_rfl) rfl
instance tFn148 : TFn Tryd.prog 148 := mkTFn Tryd.func148 (by kernel_rfl) rfl
instance tFn149 : TFn Tryd.prog 149 := mkTFn Tryd.func149 (by kernel_rfl) rfl
instance tFn150 : TFn Tryd.prog 150 := mkTFn Tryd.func150 (by kernel_rfl) rfl
instance tFn151 : TFn Tryd.prog 151 := mkTFn Tryd.func151 (by kernel_rfl) rfl
instance tFn152 : TFn Tryd.prog 152 := mkTFn Tryd.func152 (by kernel_rfl) rfl
instance tFn153 : TFn Tryd.prog 153 := mkTFn Tryd.func153 (by kernel_rfl) rfl
end Go.Proofs.YtaplkoimhecacaaDoor
