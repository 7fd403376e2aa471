/-
  Parts of the proof: rules of the engine, walks of functions, plain Lean. No condition.
-/
import Derived.Test.YtmfmecgiaekelaaGreatDoorProg
import Derived.Test.YtmfmecgiaekelaaGreatDoorSa04
namespace Go.Proofs.YtmfmecgiaekelaaGreatDoor
open Go
instance tSc3 : TSc Tryz.prog 3 := mkTSc (by kernel_rfl) (by kernel_rfl)
instance tZe3 : TZe Tryz.prog 3 [.int .i64 0] := mkTZe (z := .int .i64 0) (by kernel_rfl) rfl
instance tSc4 : TSc Tryz.prog 4 := mkTSc (by kernel_rfl) (by kernel_rfl)
instance tZe4 : TZe Tryz.prog 4 [.bool false] := mkTZe (z := .bool false) (by kernel_rfl) rfl
instance tSc9 : TSc Tryz.prog 9 := mkTSc (by kernel_rfl) (by kernel_rfl)
instance tSc22 : TSc Tryz.prog 22 := mkTSc (by kernel_rfl) (by kernel_rfl)
instance tSl22 : TSl Tryz.prog 22 140 4 := mkTSl (by kernel_rfl) (by kernel_rfl)
instance tSc23 : TSc Tryz.prog 23 := mkTSc (by kernel_rfl) (by kernel_rfl)
instance tSl23 : TSl Tryz.prog 23 24 1 := mkTSl (by kernel_rfl) (by kernel_rfl)
instance tSc24 : TSc Tryz.prog 24 := mkTSc (by kernel_rfl) (by kernel_rfl)
instance tSl24 : TSl Tryz.prog 24 30 2 := mkTSl (by kernel_rfl) (by kernel_rfl)
instance tAg26 : TAg Tryz.prog 26 2 := mkTAg (by kernel_rfl) (by kernel_rfl)
instance tZe26 : TZe Tryz.prog 26 [.int .i64 0, .int .i64 0] := mkTZe (z := .agg #[.int .i64 0, .int .i64 0]) (by kernel_rfl) rfl
instance tFl26_0 : TFl Tryz.prog 26 0 0 := mkTFl (by kernel_rfl)
instance tFl26_1 : TFl Tryz.prog 26 1 1 := mkTFl (by kernel_rfl)
instance tBd26 : TBd Tryz.prog 26 [.int .i64 0, .int .i64 0] (fun i => [(0, 1), (1, 1)][i]?) := mkTBd (z := .agg #[.int .i64 0, .int .i64 0]) (by kernel_rfl) rfl (by kernel_rfl)
instance tEq26 : TEq Tryz.prog 26 2 := mkTEq (by kernel_rfl) (by kernel_rfl) (by kernel_rfl)
instance tAg28 : TAg Tryz.prog 28 8 := mkTAg (by kernel_rfl) (by kernel_rfl)
instance tZe28 : TZe Tryz.prog 28 [.int .i64 0, .int .i64 0, .int .i64 0, .int .i64 0, .int .i64 0, .int .i64 0, .int .i64 0, .int .i64 0] := mkTZe (z := .agg #[.int .i64 0, .int .i64 0, .int .i64 0, .int .i64 0, .int .i64 0, .int .i64 0, .int .i64 0, .int .i64 0]) (by kernel_rfl) rfl
instance tFl28_0 : TFl Tryz.prog 28 0 0 := mkTFl (by kernel_rfl)
instance tFl28_1 : TFl Tryz.prog 28 1 2 := mkTFl (by kernel_rfl)
instance tFl28_2 : TFl Tryz.prog 28 2 4 := mkTFl (by kernel_rfl)
instance tFl28_3 : TFl Tryz.prog 28 3 6 := mkTFl (by kernel_rfl)
instance tBd28 : TBd Tryz.prog 28 [.int .i64 0, .int .i64 0, .int .i64 0, .int .i64 0, .int .i64 0, .int .i64 0, .int .i64 0, .int .i64 0] (fun i => [(0, 2), (2, 2), (4, 2), (6, 2)][i]?) := mkTBd (z := .agg #[.int .i64 0, .int .i64 0, .int .i64 0, .int .i64 0, .int .i64 0, .int .i64 0, .int .i64 0, .int .i64 0]) (by kernel_rfl) rfl (by kernel_rfl)
instance tEq28 : TEq Tryz.prog 28 8 := mkTEq (by kernel_rfl) (by kernel_rfl) (by kernel_rfl)
instance tAg30 : TAg Tryz.prog 30 2 := mkTAg (by kernel_rfl) (by kernel_rfl)
instance tZe30 : TZe Tryz.prog 30 [.int .i64 0, .int .i64 0] := mkTZe (z := .agg #[.int .i64 0, .int .i64 0]) (by kernel_rfl) rfl
instance tFl30_0 : TFl Tryz.prog 30 0 0 := mkTFl (by kernel_rfl)
instance tFl30_1 : TFl Tryz.prog 30 1 1 := mkTFl (by kernel_rfl)
instance tBd30 : TBd Tryz.prog 30 [.int .i64 0, .int .i64 0] (fun i => [(0, 1), (1, 1)][i]?) := mkTBd (z := .agg #[.int .i64 0, .int .i64 0]) (by kernel_rfl) rfl (by kernel_rfl)
instance tEq30 : TEq Tryz.prog 30 2 := mkTEq (by kernel_rfl) (by kernel_rfl) (by kernel_rfl)
instance tAg32 : TAg Tryz.prog 32 3 := mkTAg (by kernel_rfl) (by kernel_rfl)
instance tSc33 : TSc Tryz.prog 33 := mkTSc (by kernel_rfl) (by kernel_rfl)
instance tSl33 : TSl Tryz.prog 33 141 1 := mkTSl (by kernel_rfl) (by kernel_rfl)
instance tAg35 : TAg Tryz.prog 35 17 := mkTAg (by kernel_rfl) (by kernel_rfl)
instance tZe35 : TZe Tryz.prog 35 [.slice Option.none 0 0, .slice Option.none 0 0, .slice Option.none 0 0, .int .i64 0, .int .i64 0, .int .i64 0, .int .i64 0, .int .i64 0, .int .i64 0, .int .i64 0, .int .i64 0, .int .i64 0, .int .i64 0, .int .i64 0, .int .i64 0, .int .i64 0, .slice Option.none 0 0] := mkTZe (z := .agg #[.slice Option.none 0 0, .slice Option.none 0 0, .slice Option.none 0 0, .int .i64 0, .int .i64 0, .int .i64 0, .int .i64 0, .int .i64 0, .int .i64 0, .int .i64 0, .int .i64 0, .int .i64 0, .int .i64 0, .int .i64 0, .int .i64 0, .int .i64 0, .slice Option.none 0 0]) (by kernel_rfl) rfl
instance tFl35_0 : TFl Tryz.prog 35 0 0 := mkTFl (by kernel_rfl)
instance tFl35_1 : TFl Tryz.prog 35 1 1 := mkTFl (by kernel_rfl)
instance tFl35_2 : TFl Tryz.prog 35 2 2 := mkTFl (by kernel_rfl)
instance tFl35_3 : TFl Tryz.prog 35 3 3 := mkTFl (by kernel_rfl)
instance tFl35_4 : TFl Tryz.prog 35 4 11 := mkTFl (by kernel_rfl)
instance tFl35_5 : TFl Tryz.prog 35 5 14 := mkTFl (by kernel_rfl)
instance tFl35_6 : TFl Tryz.prog 35 6 15 := mkTFl (by kernel_rfl)
instance tFl35_7 : TFl Tryz.prog 35 7 16 := mkTFl (by kernel_rfl)
instance tBd35 : TBd Tryz.prog 35 [.slice Option.none 0 0, .slice Option.none 0 0, .slice Option.none 0 0, .int .i64 0, .int .i64 0, .int .i64 0, .int .i64 0, .int .i64 0, .int .i64 0, .int .i64 0, .int .i64 0, .int .i64 0, .int .i64 0, .int .i64 0, .int .i64 0, .int .i64 0, .slice Option.none 0 0] (fun i => [(0, 1), (1, 1), (2, 1), (3, 8), (11, 3), (14, 1), (15, 1), (16, 1)][i]?) := mkTBd (z := .agg #[.slice Option.none 0 0, .slice Option.none 0 0, .slice Option.none 0 0, .int .i64 0, .int .i64 0, .int .i64 0, .int .i64 0, .int .i64 0, .int .i64 0, .int .i64 0, .int .i64 0, .int .i64 0, .int .i64 0, .int .i64 0, .int .i64 0, .int .i64 0, .slice Option.none 0 0]) (by kernel_rfl) rfl (by kernel_rfl)
instance tAg37 : TAg Tryz.prog 37 7 := mkTAg (by kernel_rfl) (by kernel_rfl)
instance tZe37 : TZe Tryz.prog 37 [.int .i64 0, .int .i64 0, .int .i64 0, .int .i64 0, .int .i64 0, .int .i64 0, .int .i64 0] := mkTZe (z := .agg #[.int .i64 0, .int .i64 0, .int .i64 0, .int .i64 0, .int .i64 0, .int .i64 0, .int .i64 0]) (by kernel_rfl) rfl
instance tFl37_0 : TFl Tryz.prog 37 0 0 := mkTFl (by kernel_rfl)
instance tFl37_1 : TFl Tryz.prog 37 1 1 := mkTFl (by kernel_rfl)
instance tFl37_2 : TFl Tryz.prog 37 2 2 := mkTFl (by kernel_rfl)
instance tFl37_3 : TFl Tryz.prog 37 3 3 := mkTFl (by kernel_rfl)
instance tFl37_4 : TFl Tryz.prog 37 4 4 := mkTFl (by kernel_rfl)
instance tFl37_5 : TFl Tryz.prog 37 5 5 := mkTFl (by kernel_rfl)
instance tFl37_6 : TFl Tryz.prog 37 6 6 := mkTFl (by kernel_rfl)
instance tBd37 : TBd Tryz.prog 37 [.int .i64 0, .int .i64 0, .int .i64 0, .int .i64 0, .int .i64 0, .int .i64 0, .int .i64 0] (fun i => [(0, 1), (1, 1), (2, 1), (3, 1), (4, 1), (5, 1), (6, 1)][i]?) := mkTBd (z := .agg #[.int .i64 0, .int .i64 0, .int .i64 0, .int .i64 0, .int .i64 0, .int .i64 0, .int .i64 0]) (by kernel_rfl) rfl (by kernel_rfl)
instance tSc38 : TSc Tryz.prog 38 := mkTSc (by kernel_rfl) (by kernel_rfl)
instance tSl38 : TSl Tryz.prog 38 286 5 := mkTSl (by kernel_rfl) (by kernel_rfl)
instance tSc39 : TSc Tryz.prog 39 := mkTSc (by kernel_rfl) (by kernel_rfl)
instance tZe39 : TZe Tryz.prog 39 [.slice Option.none 0 0] := mkTZe (z := .slice Option.none 0 0) (by kernel_rfl) rfl
instance tSl39 : TSl Tryz.prog 39 3 1 := mkTSl (by kernel_rfl) (by kernel_rfl)
instance tSc45 : TSc Tryz.prog 45 := mkTSc (by kernel_rfl) (by kernel_rfl)
instance tZe45 : TZe Tryz.prog 45 [.int .i64 0] := mkTZe (z := .int .i64 0) (by kernel_rfl) rfl
instance tSc56 : TSc Tryz.prog 56 := mkTSc (by kernel_rfl) (by kernel_rfl)
instance tSl56 : TSl Tryz.prog 56 28 8 := mkTSl (by kernel_rfl) (by kernel_rfl)
instance tSc57 : TSc Tryz.prog 57 := mkTSc (by kernel_rfl) (by kernel_rfl)
instance tZe57 : TZe Tryz.prog 57 [.slice Option.none 0 0] := mkTZe (z := .slice Option.none 0 0) (by kernel_rfl) rfl
instance tSl57 : TSl Tryz.prog 57 4 1 := mkTSl (by kernel_rfl) (by kernel_rfl)
instance tAg59 : TAg Tryz.prog 59 5 := mkTAg (by kernel_rfl) (by kernel_rfl)
instance tZe59 : TZe Tryz.prog 59 [.slice Option.none 0 0, .slice Option.none 0 0, .slice Option.none 0 0, .slice Option.none 0 0, .slice Option.none 0 0] := mkTZe (z := .agg #[.slice Option.none 0 0, .slice Option.none 0 0, .slice Option.none 0 0, .slice Option.none 0 0, .slice Option.none 0 0]) (by kernel_rfl) rfl
instance tFl59_0 : TFl Tryz.prog 59 0 0 := mkTFl (by kernel_rfl)
instance tFl59_1 : TFl Tryz.prog 59 1 1 := mkTFl (by kernel_rfl)
instance tFl59_2 : TFl Tryz.prog 59 2 2 := mkTFl (by kernel_rfl)
instance tFl59_3 : TFl Tryz.prog 59 3 3 := mkTFl (by kernel_rfl)
instance tFl59_4 : TFl Tryz.prog 59 4 4 := mkTFl (by kernel_rfl)
instance tBd59 : TBd Tryz.prog 59 [.slice Option.none 0 0, .slice Option.none 0 0, .slice Option.none 0 0, .slice Option.none 0 0, .slice Option.none 0 0] (fun i => [(0, 1), (1, 1), (2, 1), (3, 1), (4, 1)][i]?) := mkTBd (z := .agg #[.slice Option.none 0 0, .slice Option.none 0 0, .slice Option.none 0 0, .slice Option.none 0 0, .slice Option.none 0 0]) (by kernel_rfl) rfl (by kernel_rfl)
instance tAg61 : TAg Tryz.prog 61 4 := mkTAg (by kernel_rfl) (by kernel_rfl)
instance tZe61 : TZe Tryz.prog 61 [.int .i64 0, .int .i64 0, .int .i64 0, .int .i64 0] := mkTZe (z := .agg #[.int .i64 0, .int .i64 0, .int .i64 0, .int .i64 0]) (by kernel_rfl) rfl
instance tFl61_0 : TFl Tryz.prog 61 0 0 := mkTFl (by kernel_rfl)
instance tFl61_1 : TFl Tryz.prog 61 1 1 := mkTFl (by kernel_rfl)
instance tFl61_2 : TFl Tryz.prog 61 2 2 := mkTFl (by kernel_rfl)
instance tFl61_3 : TFl Tryz.prog 61 3 3 := mkTFl (by kernel_rfl)
instance tSc62 : TSc Tryz.prog 62 := mkTSc (by kernel_rfl) (by kernel_rfl)
instance tSl62 : TSl Tryz.prog 62 121 2 := mkTSl (by kernel_rfl) (by kernel_rfl)
instance tFl64_0 : TFl Tryz.prog 64 0 0 := mkTFl (by kernel_rfl)
instance tFl64_1 : TFl Tryz.prog 64 1 4 := mkTFl (by kernel_rfl)
instance tSc72 : TSc Tryz.prog 72 := mkTSc (by kernel_rfl) (by kernel_rfl)
instance tAg75 : TAg Tryz.prog 75 3 := mkTAg (by kernel_rfl) (by kernel_rfl)
instance tZe75 : TZe Tryz.prog 75 [.int .i64 0, .int .i64 0, .int .i64 0] := mkTZe (z := .agg #[.int .i64 0, .int .i64 0, .int .i64 0]) (by kernel_rfl) rfl
instance tFl75_0 : TFl Tryz.prog 75 0 0 := mkTFl (by kernel_rfl)
instance tFl75_1 : TFl Tryz.prog 75 1 2 := mkTFl (by kernel_rfl)
instance tBd75 : TBd Tryz.prog 75 [.int .i64 0, .int .i64 0, .int .i64 0] (fun i => [(0, 2), (2, 1)][i]?) := mkTBd (z := .agg #[.int .i64 0, .int .i64 0, .int .i64 0]) (by kernel_rfl) rfl (by kernel_rfl)
instance tAg77 : TAg Tryz.prog 77 2 := mkTAg (by kernel_rfl) (by kernel_rfl)
instance tZe77 : TZe Tryz.prog 77 [.slice Option.none 0 0, .int .i64 0] := mkTZe (z := .agg #[.slice Option.none 0 0, .int .i64 0]) (by kernel_rfl) rfl
instance tFl77_0 : TFl Tryz.prog 77 0 0 := mkTFl (by kernel_rfl)
instance tFl77_1 : TFl Tryz.prog 77 1 1 := mkTFl (by kernel_rfl)
instance tBd77 : TBd Tryz.prog 77 [.slice Option.none 0 0, .int .i64 0] (fun i => [(0, 1), (1, 1)][i]?) := mkTBd (z := .agg #[.slice Option.none 0 0, .int .i64 0]) (by kernel_rfl) rfl (by kernel_rfl)
instance tSl80 : TSl Tryz.prog 80 87 3 := mkTSl (by kernel_rfl) (by kernel_rfl)
instance tAg84 : TAg Tryz.prog 84 5 := mkTAg (by kernel_rfl) (by kernel_rfl)
instance tFl84_0 : TFl Tryz.prog 84 0 0 := mkTFl (by kernel_rfl)
instance tFl84_1 : TFl Tryz.prog 84 1 1 := mkTFl (by kernel_rfl)
instance tFl84_2 : TFl Tryz.prog 84 2 2 := mkTFl (by kernel_rfl)
instance tFl84_3 : TFl Tryz.prog 84 3 3 := mkTFl (by kernel_rfl)
instance tFl84_4 : TFl Tryz.prog 84 4 4 := mkTFl (by kernel_rfl)
instance tBd84 : TBd Tryz.prog 84 [.int .i64 0, .int .i64 0, .int .i64 0, .int .i64 0, .int .i64 0] (fun i => [(0, 1), (1, 1), (2, 1), (3, 1), (4, 1)][i]?) := mkTBd (z := .agg #[.int .i64 0, .int .i64 0, .int .i64 0, .int .i64 0, .int .i64 0]) (by kernel_rfl) rfl (by kernel_rfl)
instance tAg87 : TAg Tryz.prog 87 3 := mkTAg (by kernel_rfl) (by kernel_rfl)
instance tZe87 : TZe Tryz.prog 87 [.int .i64 0, .int .i64 0, .bool false] := mkTZe (z := .agg #[.int .i64 0, .int .i64 0, .bool false]) (by kernel_rfl) rfl
instance tFl87_0 : TFl Tryz.prog 87 0 0 := mkTFl (by kernel_rfl)
instance tFl87_2 : TFl Tryz.prog 87 2 2 := mkTFl (by kernel_rfl)
instance tBd87 : TBd Tryz.prog 87 [.int .i64 0, .int .i64 0, .bool false] (fun i => [(0, 1), (1, 1), (2, 1)][i]?) := mkTBd (z := .agg #[.int .i64 0, .int .i64 0, .bool false]) (by kernel_rfl) rfl (by kernel_rfl)
instance tAv89 : TAv Tryz.prog 89 true 2 1 := mkTAv (b := false) (by kernel_rfl) (by simp)
instance tBd89 : TBd Tryz.prog 89 [.int .i64 0, .int .i64 0] (fun i => some (i * 1, 1)) := mkTBda (n := 2) (b := false) (z := .agg #[.int .i64 0, .int .i64 0]) (by kernel_rfl) rfl (by kernel_rfl)
instance tSc90 : TSc Tryz.prog 90 := mkTSc (by kernel_rfl) (by kernel_rfl)
instance tAg93 : TAg Tryz.prog 93 4 := mkTAg (by kernel_rfl) (by kernel_rfl)
instance tZe93 : TZe Tryz.prog 93 [.int .i64 0, .int .i64 0, .int .i64 0, .int .i64 0] := mkTZe (z := .agg #[.int .i64 0, .int .i64 0, .int .i64 0, .int .i64 0]) (by kernel_rfl) rfl
instance tFl93_0 : TFl Tryz.prog 93 0 0 := mkTFl (by kernel_rfl)
instance tFl93_1 : TFl Tryz.prog 93 1 2 := mkTFl (by kernel_rfl)
instance tBd93 : TBd Tryz.prog 93 [.int .i64 0, .int .i64 0, .int .i64 0, .int .i64 0] (fun i => [(0, 2), (2, 2)][i]?) := mkTBd (z := .agg #[.int .i64 0, .int .i64 0, .int .i64 0, .int .i64 0]) (by kernel_rfl) rfl (by kernel_rfl)
instance tEq93 : TEq Tryz.prog 93 4 := mkTEq (by kernel_rfl) (by kernel_rfl) (by kernel_rfl)
instance tAg100 : TAg Tryz.prog 100 5 := mkTAg (by kernel_rfl) (by kernel_rfl)
instance tFl100_0 : TFl Tryz.prog 100 0 0 := mkTFl (by kernel_rfl)
instance tBd100 : TBd Tryz.prog 100 [.slice Option.none 0 0, .slice Option.none 0 0, .slice Option.none 0 0, .slice Option.none 0 0, .slice Option.none 0 0] (fun i => [(0, 5)][i]?) := mkTBd (z := .agg #[.slice Option.none 0 0, .slice Option.none 0 0, .slice Option.none 0 0, .slice Option.none 0 0, .slice Option.none 0 0]) (by kernel_rfl) rfl (by kernel_rfl)
instance tAg102 : TAg Tryz.prog 102 13 := mkTAg (by kernel_rfl) (by kernel_rfl)
instance tZe102 : TZe Tryz.prog 102 [.slice Option.none 0 0, .slice Option.none 0 0, .slice Option.none 0 0, .slice Option.none 0 0, .slice Option.none 0 0, .int .i64 0, .int .i64 0, .int .i64 0, .int .i64 0, .int .i64 0, .int .i64 0, .int .i64 0, .slice Option.none 0 0] := mkTZe (z := .agg #[.slice Option.none 0 0, .slice Option.none 0 0, .slice Option.none 0 0, .slice Option.none 0 0, .slice Option.none 0 0, .int .i64 0, .int .i64 0, .int .i64 0, .int .i64 0, .int .i64 0, .int .i64 0, .int .i64 0, .slice Option.none 0 0]) (by kernel_rfl) rfl
instance tFl102_0 : TFl Tryz.prog 102 0 0 := mkTFl (by kernel_rfl)
instance tFl102_1 : TFl Tryz.prog 102 1 5 := mkTFl (by kernel_rfl)
instance tFl102_2 : TFl Tryz.prog 102 2 12 := mkTFl (by kernel_rfl)
instance tBd102 : TBd Tryz.prog 102 [.slice Option.none 0 0, .slice Option.none 0 0, .slice Option.none 0 0, .slice Option.none 0 0, .slice Option.none 0 0, .int .i64 0, .int .i64 0, .int .i64 0, .int .i64 0, .int .i64 0, .int .i64 0, .int .i64 0, .slice Option.none 0 0] (fun i => [(0, 5), (5, 7), (12, 1)][i]?) := mkTBd (z := .agg #[.slice Option.none 0 0, .slice Option.none 0 0, .slice Option.none 0 0, .slice Option.none 0 0, .slice Option.none 0 0, .int .i64 0, .int .i64 0, .int .i64 0, .int .i64 0, .int .i64 0, .int .i64 0, .int .i64 0, .slice Option.none 0 0]) (by kernel_rfl) rfl (by kernel_rfl)
instance tSc105 : TSc Tryz.prog 105 := mkTSc (by kernel_rfl) (by kernel_rfl)
instance tZe105 : TZe Tryz.prog 105 [.map Option.none] := mkTZe (z := .map Option.none) (by kernel_rfl) rfl
instance tSc106 : TSc Tryz.prog 106 := mkTSc (by kernel_rfl) (by kernel_rfl)
instance tZe106 : TZe Tryz.prog 106 [.nilFunc] := mkTZe (z := .nilFunc) (by kernel_rfl) rfl
instance tAg108 : TAg Tryz.prog 108 2 := mkTAg (by kernel_rfl) (by kernel_rfl)
instance tZe108 : TZe Tryz.prog 108 [.int .i64 0, .int .i64 0] := mkTZe (z := .agg #[.int .i64 0, .int .i64 0]) (by kernel_rfl) rfl
instance tFl108_0 : TFl Tryz.prog 108 0 0 := mkTFl (by kernel_rfl)
instance tFl108_1 : TFl Tryz.prog 108 1 1 := mkTFl (by kernel_rfl)
instance tBd108 : TBd Tryz.prog 108 [.int .i64 0, .int .i64 0] (fun i => [(0, 1), (1, 1)][i]?) := mkTBd (z := .agg #[.int .i64 0, .int .i64 0]) (by kernel_rfl) rfl (by kernel_rfl)
instance tAg110 : TAg Tryz.prog 110 3 := mkTAg (by kernel_rfl) (by kernel_rfl)
instance tZe110 : TZe Tryz.prog 110 [.int .i64 0, .int .i64 0, .int .i64 0] := mkTZe (z := .agg #[.int .i64 0, .int .i64 0, .int .i64 0]) (by kernel_rfl) rfl
instance tFl110_0 : TFl Tryz.prog 110 0 0 := mkTFl (by kernel_rfl)
instance tFl110_1 : TFl Tryz.prog 110 1 1 := mkTFl (by kernel_rfl)
instance tBd110 : TBd Tryz.prog 110 [.int .i64 0, .int .i64 0, .int .i64 0] (fun i => [(0, 1), (1, 2)][i]?) := mkTBd (z := .agg #[.int .i64 0, .int .i64 0, .int .i64 0]) (by kernel_rfl) rfl (by kernel_rfl)
instance tEq110 : TEq Tryz.prog 110 3 := mkTEq (by kernel_rfl) (by kernel_rfl) (by kernel_rfl)
instance tSc114 : TSc Tryz.prog 114 := mkTSc (by kernel_rfl) (by kernel_rfl)
instance tZe114 : TZe Tryz.prog 114 [.nilFunc] := mkTZe (z := .nilFunc) (by kernel_rfl) rfl
instance tSl117 : TSl Tryz.prog 117 166 5 := mkTSl (by kernel_rfl) (by kernel_rfl)
instance tAg121 : TAg Tryz.prog 121 2 := mkTAg (by kernel_rfl) (by kernel_rfl)
instance tZe121 : TZe Tryz.prog 121 [.int .i64 0, .int .i64 0] := mkTZe (z := .agg #[.int .i64 0, .int .i64 0]) (by kernel_rfl) rfl
instance tFl121_0 : TFl Tryz.prog 121 0 0 := mkTFl (by kernel_rfl)
instance tFl121_1 : TFl Tryz.prog 121 1 1 := mkTFl (by kernel_rfl)
instance tBd121 : TBd Tryz.prog 121 [.int .i64 0, .int .i64 0] (fun i => [(0, 1), (1, 1)][i]?) := mkTBd (z := .agg #[.int .i64 0, .int .i64 0]) (by kernel_rfl) rfl (by kernel_rfl)
instance tAg123 : TAg Tryz.prog 123 5 := mkTAg (by kernel_rfl) (by kernel_rfl)
instance tZe123 : TZe Tryz.prog 123 [.int .i64 0, .int .i64 0, .int .i64 0, .int .i64 0, .int .i64 0] := mkTZe (z := .agg #[.int .i64 0, .int .i64 0, .int .i64 0, .int .i64 0, .int .i64 0]) (by kernel_rfl) rfl
instance tFl123_0 : TFl Tryz.prog 123 0 0 := mkTFl (by kernel_rfl)
instance tFl123_1 : TFl Tryz.prog 123 1 2 := mkTFl (by kernel_rfl)
instance tFl123_2 : TFl Tryz.prog 123 2 3 := mkTFl (by kernel_rfl)
instance tFl123_3 : TFl Tryz.prog 123 3 4 := mkTFl (by kernel_rfl)
instance tBd123 : TBd Tryz.prog 123 [.int .i64 0, .int .i64 0, .int .i64 0, .int .i64 0, .int .i64 0] (fun i => [(0, 2), (2, 1), (3, 1), (4, 1)][i]?) := mkTBd (z := .agg #[.int .i64 0, .int .i64 0, .int .i64 0, .int .i64 0, .int .i64 0]) (by kernel_rfl) rfl (by kernel_rfl)
instance tSc128 : TSc Tryz.prog 128 := mkTSc (by kernel_rfl) (by kernel_rfl)
instance tFl130_0 : TFl Tryz.prog 130 0 0 := mkTFl (by kernel_rfl)
instance tFl130_1 : TFl Tryz.prog 130 1 17 := mkTFl (by kernel_rfl)
instance tBd130 : TBd Tryz.prog 130 [.slice Option.none 0 0, .slice Option.none 0 0, .slice Option.none 0 0, .int .i64 0, .int .i64 0, .int .i64 0, .int .i64 0, .int .i64 0, .int .i64 0, .int .i64 0, .int .i64 0, .int .i64 0, .int .i64 0, .int .i64 0, .int .i64 0, .int .i64 0, .slice Option.none 0 0, .map Option.none] (fun i => [(0, 17), (17, 1)][i]?) := mkTBd (z := .agg #[.slice Option.none 0 0, .slice Option.none 0 0, .slice Option.none 0 0, .int .i64 0, .int .i64 0, .int .i64 0, .int .i64 0, .int .i64 0, .int .i64 0, .int .i64 0, .int .i64 0, .int .i64 0, .int .i64 0, .int .i64 0, .int .i64 0, .int .i64 0, .slice Option.none 0 0, .map Option.none]) (by kernel_rfl) rfl (by kernel_rfl)
instance tSc134 : TSc Tryz.prog 134 := mkTSc (by kernel_rfl) (by kernel_rfl)
instance tSc135 : TSc Tryz.prog 135 := mkTSc (by kernel_rfl) (by kernel_rfl)
instance tAg140 : TAg Tryz.prog 140 4 := mkTAg (by kernel_rfl) (by kernel_rfl)
instance tZe140 : TZe Tryz.prog 140 [.int .i64 0, .int .i64 0, .int .i64 0, .int .i64 0] := mkTZe (z := .agg #[.int .i64 0, .int .i64 0, .int .i64 0, .int .i64 0]) (by kernel_rfl) rfl
instance tFl140_0 : TFl Tryz.prog 140 0 0 := mkTFl (by kernel_rfl)
instance tFl140_1 : TFl Tryz.prog 140 1 2 := mkTFl (by kernel_rfl)
instance tBd140 : TBd Tryz.prog 140 [.int .i64 0, .int .i64 0, .int .i64 0, .int .i64 0] (fun i => [(0, 2), (2, 2)][i]?) := mkTBd (z := .agg #[.int .i64 0, .int .i64 0, .int .i64 0, .int .i64 0]) (by kernel_rfl) rfl (by kernel_rfl)
instance tSc141 : TSc Tryz.prog 141 := mkTSc (by kernel_rfl) (by kernel_rfl)
instance tZe141 : TZe Tryz.prog 141 [.slice Option.none 0 0] := mkTZe (z := .slice Option.none 0 0) (by kernel_rfl) rfl
instance tSl141 : TSl Tryz.prog 141 26 2 := mkTSl (by kernel_rfl) (by kernel_rfl)
instance tSc142 : TSc Tryz.prog 142 := mkTSc (by kernel_rfl) (by kernel_rfl)
instance tZe142 : TZe Tryz.prog 142 [.slice Option.none 0 0] := mkTZe (z := .slice Option.none 0 0) (by kernel_rfl) rfl
instance tSl142 : TSl Tryz.prog 142 185 2 := mkTSl (by kernel_rfl) (by kernel_rfl)
instance tAg148 : TAg Tryz.prog 148 14 := mkTAg (by kernel_rfl) (by kernel_rfl)
instance tZe148 : TZe Tryz.prog 148 [.int .i64 0, .int .i64 0, .int .i64 0, .int .i64 0, .int .i64 0, .int .i64 0, .int .i64 0, .int .i64 0, .int .i64 0, .int .i64 0, .int .i64 0, .int .i64 0, .int .i64 0, .int .i64 0] := mkTZe (z := .agg #[.int .i64 0, .int .i64 0, .int .i64 0, .int .i64 0, .int .i64 0, .int .i64 0, .int .i64 0, .int .i64 0, .int .i64 0, .int .i64 0, .int .i64 0, .int .i64 0, .int .i64 0, .int .i64 0]) (by kernel_rfl) rfl
instance tFl148_0 : TFl Tryz.prog 148 0 0 := mkTFl (by kernel_rfl)
instance tFl148_1 : TFl Tryz.prog 148 1 1 := mkTFl (by kernel_rfl)
instance tFl148_2 : TFl Tryz.prog 148 2 2 := mkTFl (by kernel_rfl)
instance tFl148_3 : TFl Tryz.prog 148 3 3 := mkTFl (by kernel_rfl)
instance tFl148_4 : TFl Tryz.prog 148 4 4 := mkTFl (by kernel_rfl)
instance tBd148 : TBd Tryz.prog 148 [.int .i64 0, .int .i64 0, .int .i64 0, .int .i64 0, .int .i64 0, .int .i64 0, .int .i64 0, .int .i64 0, .int .i64 0, .int .i64 0, .int .i64 0, .int .i64 0, .int .i64 0, .int .i64 0] (fun i => [(0, 1), (1, 1), (2, 1), (3, 1), (4, 1), (5, 1), (6, 8)][i]?) := mkTBd (z := .agg #[.int .i64 0, .int .i64 0, .int .i64 0, .int .i64 0, .int .i64 0, .int .i64 0, .int .i64 0, .int .i64 0, .int .i64 0, .int .i64 0, .int .i64 0, .int .i64 0, .int .i64 0, .int .i64 0]) (by kernel_rfl) rfl (by kernel_rfl)
instance tEq148 : TEq Tryz.prog 148 14 := mkTEq (by kernel_rfl) (by kernel_rfl) (by kernel_rfl)
instance tSc149 : TSc Tryz.prog 149 := mkTSc (by kernel_rfl) (by kernel_rfl)
instance tSl149 : TSl Tryz.prog 149 148 14 := mkTSl (by kernel_rfl) (by kernel_rfl)
instance tAg151 : TAg Tryz.prog 151 2 := mkTAg (by kernel_rfl) (by kernel_rfl)
instance tFl151_0 : TFl Tryz.prog 151 0 0 := mkTFl (by kernel_rfl)
instance tFl151_1 : TFl Tryz.prog 151 1 1 := mkTFl (by kernel_rfl)
instance tBd151 : TBd Tryz.prog 151 [.slice Option.none 0 0, .slice Option.none 0 0] (fun i => [(0, 1), (1, 1)][i]?) := mkTBd (z := .agg #[.slice Option.none 0 0, .slice Option.none 0 0]) (by kernel_rfl) rfl (by kernel_rfl)
instance tAg154 : TAg Tryz.prog 154 5 := mkTAg (by kernel_rfl) (by kernel_rfl)
instance tZe154 : TZe Tryz.prog 154 [.int .i64 0, .int .i64 0, .int .i64 0, .int .i64 0, .int .i64 0] := mkTZe (z := .agg #[.int .i64 0, .int .i64 0, .int .i64 0, .int .i64 0, .int .i64 0]) (by kernel_rfl) rfl
instance tFl154_0 : TFl Tryz.prog 154 0 0 := mkTFl (by kernel_rfl)
instance tFl154_1 : TFl Tryz.prog 154 1 1 := mkTFl (by kernel_rfl)
instance tFl154_2 : TFl Tryz.prog 154 2 2 := mkTFl (by kernel_rfl)
instance tFl154_3 : TFl Tryz.prog 154 3 3 := mkTFl (by kernel_rfl)
instance tFl154_4 : TFl Tryz.prog 154 4 4 := mkTFl (by kernel_rfl)
instance tBd154 : TBd Tryz.prog 154 [.int .i64 0, .int .i64 0, .int .i64 0, .int .i64 0, .int .i64 0] (fun i => [(0, 1), (1, 1), (2, 1), (3, 1), (4, 1)][i]?) := mkTBd (z := .agg #[.int .i64 0, .int .i64 0, .int .i64 0, .int .i64 0, .int .i64 0]) (by kernel_rfl) rfl (by kernel_rfl)
instance tSc155 : TSc Tryz.prog 155 := mkTSc (by kernel_rfl) (by kernel_rfl)
instance tSl155 : TSl Tryz.prog 155 154 5 := mkTSl (by kernel_rfl) (by kernel_rfl)
instance tAg157 : TAg Tryz.prog 157 5 := mkTAg (by kernel_rfl) (by kernel_rfl)
instance tFl157_0 : TFl Tryz.prog 157 0 0 := mkTFl (by kernel_rfl)
instance tFl157_1 : TFl Tryz.prog 157 1 1 := mkTFl (by kernel_rfl)
instance tFl157_2 : TFl Tryz.prog 157 2 2 := mkTFl (by kernel_rfl)
instance tFl157_3 : TFl Tryz.prog 157 3 4 := mkTFl (by kernel_rfl)
instance tBd157 : TBd Tryz.prog 157 [.int .i64 0, .slice Option.none 0 0, .int .i64 0, .int .i64 0, .int .i64 0] (fun i => [(0, 1), (1, 1), (2, 2), (4, 1)][i]?) := mkTBd (z := .agg #[.int .i64 0, .slice Option.none 0 0, .int .i64 0, .int .i64 0, .int .i64 0]) (by kernel_rfl) rfl (by kernel_rfl)
instance tAg158 : TAg Tryz.prog 158 4 := mkTAg (by kernel_rfl) (by kernel_rfl)
instance tZe158 : TZe Tryz.prog 158 [.int .i64 0, .int .i64 0, .int .i64 0, .int .i64 0] := mkTZe (z := .agg #[.int .i64 0, .int .i64 0, .int .i64 0, .int .i64 0]) (by kernel_rfl) rfl
instance tAr158 : TAr Tryz.prog 158 4 1 := mkTAr (b := false) (by kernel_rfl)
instance tAv158 : TAv Tryz.prog 158 true 4 1 := mkTAv (b := false) (by kernel_rfl) (by simp)
instance tBd158 : TBd Tryz.prog 158 [.int .i64 0, .int .i64 0, .int .i64 0, .int .i64 0] (fun i => some (i * 1, 1)) := mkTBda (n := 4) (b := false) (z := .agg #[.int .i64 0, .int .i64 0, .int .i64 0, .int .i64 0]) (by kernel_rfl) rfl (by kernel_rfl)
instance tSc161 : TSc Tryz.prog 161 := mkTSc (by kernel_rfl) (by kernel_rfl)
instance tAg166 : TAg Tryz.prog 166 5 := mkTAg (by kernel_rfl) (by kernel_rfl)
instance tZe166 : TZe Tryz.prog 166 [.int .i64 0, .int .i64 0, .int .i64 0, .int .i64 0, .int .i64 0] := mkTZe (z := .agg #[.int .i64 0, .int .i64 0, .int .i64 0, .int .i64 0, .int .i64 0]) (by kernel_rfl) rfl
instance tFl166_0 : TFl Tryz.prog 166 0 0 := mkTFl (by kernel_rfl)
instance tFl166_1 : TFl Tryz.prog 166 1 1 := mkTFl (by kernel_rfl)
instance tFl166_2 : TFl Tryz.prog 166 2 2 := mkTFl (by kernel_rfl)
instance tBd166 : TBd Tryz.prog 166 [.int .i64 0, .int .i64 0, .int .i64 0, .int .i64 0, .int .i64 0] (fun i => [(0, 1), (1, 1), (2, 1), (3, 2)][i]?) := mkTBd (z := .agg #[.int .i64 0, .int .i64 0, .int .i64 0, .int .i64 0, .int .i64 0]) (by kernel_rfl) rfl (by kernel_rfl)
instance tSc170 : TSc Tryz.prog 170 := mkTSc (by kernel_rfl) (by kernel_rfl)
instance tZe170 : TZe Tryz.prog 170 [.nilFunc] := mkTZe (z := .nilFunc) (by kernel_rfl) rfl
instance tSc171 : TSc Tryz.prog 171 := mkTSc (by kernel_rfl) (by kernel_rfl)
instance tZe171 : TZe Tryz.prog 171 [.nilFunc] := mkTZe (z := .nilFunc) (by kernel_rfl) rfl
instance tSc174 : TSc Tryz.prog 174 := mkTSc (by kernel_rfl) (by kernel_rfl)
instance tSc176 : TSc Tryz.prog 176 := mkTSc (by kernel_rfl) (by kernel_rfl)
instance tAg178 : TAg Tryz.prog 178 2 := mkTAg (by kernel_rfl) (by kernel_rfl)
instance tZe178 : TZe Tryz.prog 178 [.pointer Option.none, .map Option.none] := mkTZe (z := .agg #[.pointer Option.none, .map Option.none]) (by kernel_rfl) rfl
instance tFl178_0 : TFl Tryz.prog 178 0 0 := mkTFl (by kernel_rfl)
instance tFl178_1 : TFl Tryz.prog 178 1 1 := mkTFl (by kernel_rfl)
instance tBd178 : TBd Tryz.prog 178 [.pointer Option.none, .map Option.none] (fun i => [(0, 1), (1, 1)][i]?) := mkTBd (z := .agg #[.pointer Option.none, .map Option.none]) (by kernel_rfl) rfl (by kernel_rfl)
instance tAg185 : TAg Tryz.prog 185 2 := mkTAg (by kernel_rfl) (by kernel_rfl)
instance tZe185 : TZe Tryz.prog 185 [.int .i64 0, .int .i64 0] := mkTZe (z := .agg #[.int .i64 0, .int .i64 0]) (by kernel_rfl) rfl
instance tFl185_0 : TFl Tryz.prog 185 0 0 := mkTFl (by kernel_rfl)
instance tFl185_1 : TFl Tryz.prog 185 1 1 := mkTFl (by kernel_rfl)
instance tBd185 : TBd Tryz.prog 185 [.int .i64 0, .int .i64 0] (fun i => [(0, 1), (1, 1)][i]?) := mkTBd (z := .agg #[.int .i64 0, .int .i64 0]) (by kernel_rfl) rfl (by kernel_rfl)
instance tSc187 : TSc Tryz.prog 187 := mkTSc (by kernel_rfl) (by kernel_rfl)
instance tZe187 : TZe Tryz.prog 187 [.nilFunc] := mkTZe (z := .nilFunc) (by kernel_rfl) rfl
instance tAg189 : TAg Tryz.prog 189 4 := mkTAg (by kernel_rfl) (by kernel_rfl)
instance tZe189 : TZe Tryz.prog 189 [.int .i64 0, .int .i64 0, .int .i64 0, .int .i64 0] := mkTZe (z := .agg #[.int .i64 0, .int .i64 0, .int .i64 0, .int .i64 0]) (by kernel_rfl) rfl
instance tFl189_0 : TFl Tryz.prog 189 0 0 := mkTFl (by kernel_rfl)
instance tFl189_1 : TFl Tryz.prog 189 1 3 := mkTFl (by kernel_rfl)
instance tBd189 : TBd Tryz.prog 189 [.int .i64 0, .int .i64 0, .int .i64 0, .int .i64 0] (fun i => [(0, 3), (3, 1)][i]?) := mkTBd (z := .agg #[.int .i64 0, .int .i64 0, .int .i64 0, .int .i64 0]) (by kernel_rfl) rfl (by kernel_rfl)
instance tSc195 : TSc Tryz.prog 195 := mkTSc (by kernel_rfl) (by kernel_rfl)
instance tSl195 : TSl Tryz.prog 195 234 1 := mkTSl (by kernel_rfl) (by kernel_rfl)
instance tAg197 : TAg Tryz.prog 197 2 := mkTAg (by kernel_rfl) (by kernel_rfl)
instance tZe197 : TZe Tryz.prog 197 [.slice Option.none 0 0, .slice Option.none 0 0] := mkTZe (z := .agg #[.slice Option.none 0 0, .slice Option.none 0 0]) (by kernel_rfl) rfl
instance tFl197_0 : TFl Tryz.prog 197 0 0 := mkTFl (by kernel_rfl)
instance tFl197_1 : TFl Tryz.prog 197 1 1 := mkTFl (by kernel_rfl)
instance tAg204 : TAg Tryz.prog 204 5 := mkTAg (by kernel_rfl) (by kernel_rfl)
instance tZe204 : TZe Tryz.prog 204 [.int .i64 0, .slice Option.none 0 0, .int .i64 0, .int .i64 0, .int .i64 0] := mkTZe (z := .agg #[.int .i64 0, .slice Option.none 0 0, .int .i64 0, .int .i64 0, .int .i64 0]) (by kernel_rfl) rfl
instance tFl204_0 : TFl Tryz.prog 204 0 0 := mkTFl (by kernel_rfl)
instance tBd204 : TBd Tryz.prog 204 [.int .i64 0, .slice Option.none 0 0, .int .i64 0, .int .i64 0, .int .i64 0] (fun i => [(0, 5)][i]?) := mkTBd (z := .agg #[.int .i64 0, .slice Option.none 0 0, .int .i64 0, .int .i64 0, .int .i64 0]) (by kernel_rfl) rfl (by kernel_rfl)
instance tSc218 : TSc Tryz.prog 218 := mkTSc (by kernel_rfl) (by kernel_rfl)
instance tAg230 : TAg Tryz.prog 230 6 := mkTAg (by kernel_rfl) (by kernel_rfl)
instance tZe230 : TZe Tryz.prog 230 [.int .i64 0, .int .i64 0, .int .i64 0, .int .i64 0, .int .i64 0, .int .i64 0] := mkTZe (z := .agg #[.int .i64 0, .int .i64 0, .int .i64 0, .int .i64 0, .int .i64 0, .int .i64 0]) (by kernel_rfl) rfl
instance tBd230 : TBd Tryz.prog 230 [.int .i64 0, .int .i64 0, .int .i64 0, .int .i64 0, .int .i64 0, .int .i64 0] (fun i => some (i * 3, 3)) := mkTBda (n := 2) (b := true) (z := .agg #[.int .i64 0, .int .i64 0, .int .i64 0, .int .i64 0, .int .i64 0, .int .i64 0]) (by kernel_rfl) rfl (by kernel_rfl)
instance tEq230 : TEq Tryz.prog 230 6 := mkTEq (by kernel_rfl) (by kernel_rfl) (by kernel_rfl)
instance tSc232 : TSc Tryz.prog 232 := mkTSc (by kernel_rfl) (by kernel_rfl)
instance tSc234 : TSc Tryz.prog 234 := mkTSc (by kernel_rfl) (by kernel_rfl)
instance tZe234 : TZe Tryz.prog 234 [.nilIface] := mkTZe (z := .nilIface) (by kernel_rfl) rfl
instance tAg247 : TAg Tryz.prog 247 9 := mkTAg (by kernel_rfl) (by kernel_rfl)
instance tZe247 : TZe Tryz.prog 247 [.int .i64 0, .int .i64 0, .int .i64 0, .int .i64 0, .int .i64 0, .int .i64 0, .int .i64 0, .int .i64 0, .int .i64 0] := mkTZe (z := .agg #[.int .i64 0, .int .i64 0, .int .i64 0, .int .i64 0, .int .i64 0, .int .i64 0, .int .i64 0, .int .i64 0, .int .i64 0]) (by kernel_rfl) rfl
instance tFl247_0 : TFl Tryz.prog 247 0 0 := mkTFl (by kernel_rfl)
instance tFl247_1 : TFl Tryz.prog 247 1 8 := mkTFl (by kernel_rfl)
instance tBd247 : TBd Tryz.prog 247 [.int .i64 0, .int .i64 0, .int .i64 0, .int .i64 0, .int .i64 0, .int .i64 0, .int .i64 0, .int .i64 0, .int .i64 0] (fun i => [(0, 8), (8, 1)][i]?) := mkTBd (z := .agg #[.int .i64 0, .int .i64 0, .int .i64 0, .int .i64 0, .int .i64 0, .int .i64 0, .int .i64 0, .int .i64 0, .int .i64 0]) (by kernel_rfl) rfl (by kernel_rfl)
instance tAg257 : TAg Tryz.prog 257 8 := mkTAg (by kernel_rfl) (by kernel_rfl)
instance tZe257 : TZe Tryz.prog 257 [.int .i64 0, .int .i64 0, .int .i64 0, .int .i64 0, .int .i64 0, .int .i64 0, .int .i64 0, .int .i64 0] := mkTZe (z := .agg #[.int .i64 0, .int .i64 0, .int .i64 0, .int .i64 0, .int .i64 0, .int .i64 0, .int .i64 0, .int .i64 0]) (by kernel_rfl) rfl
instance tAr257 : TAr Tryz.prog 257 4 2 := mkTAr (b := true) (by kernel_rfl)
instance tAv257 : TAv Tryz.prog 257 false 4 2 := mkTAv (b := true) (by kernel_rfl) (by simp)
instance tBd257 : TBd Tryz.prog 257 [.int .i64 0, .int .i64 0, .int .i64 0, .int .i64 0, .int .i64 0, .int .i64 0, .int .i64 0, .int .i64 0] (fun i => some (i * 2, 2)) := mkTBda (n := 4) (b := true) (z := .agg #[.int .i64 0, .int .i64 0, .int .i64 0, .int .i64 0, .int .i64 0, .int .i64 0, .int .i64 0, .int .i64 0]) (by kernel_rfl) rfl (by kernel_rfl)
instance tAv265 : TAv Tryz.prog 265 true 7 1 := mkTAv (b := false) (by kernel_rfl) (by simp)
instance tBd265 : TBd Tryz.prog 265 [.bool false, .bool false, .bool false, .bool false, .bool false, .bool false, .bool false] (fun i => some (i * 1, 1)) := mkTBda (n := 7) (b := false) (z := .agg #[.bool false, .bool false, .bool false, .bool false, .bool false, .bool false, .bool false]) (by kernel_rfl) rfl (by kernel_rfl)
instance tAg270 : TAg Tryz.prog 270 2 := mkTAg (by kernel_rfl) (by kernel_rfl)
instance tZe270 : TZe Tryz.prog 270 [.int .i64 0, .int .i64 0] := mkTZe (z := .agg #[.int .i64 0, .int .i64 0]) (by kernel_rfl) rfl
instance tFl270_0 : TFl Tryz.prog 270 0 0 := mkTFl (by kernel_rfl)
instance tFl270_1 : TFl Tryz.prog 270 1 1 := mkTFl (by kernel_rfl)
instance tBd270 : TBd Tryz.prog 270 [.int .i64 0, .int .i64 0] (fun i => [(0, 1), (1, 1)][i]?) := mkTBd (z := .agg #[.int .i64 0, .int .i64 0]) (by kernel_rfl) rfl (by kernel_rfl)
instance tAg272 : TAg Tryz.prog 272 4 := mkTAg (by kernel_rfl) (by kernel_rfl)
instance tZe272 : TZe Tryz.prog 272 [.int .i64 0, .int .i64 0, .int .i64 0, .int .i64 0] := mkTZe (z := .agg #[.int .i64 0, .int .i64 0, .int .i64 0, .int .i64 0]) (by kernel_rfl) rfl
instance tFl272_1 : TFl Tryz.prog 272 1 2 := mkTFl (by kernel_rfl)
instance tBd272 : TBd Tryz.prog 272 [.int .i64 0, .int .i64 0, .int .i64 0, .int .i64 0] (fun i => [(0, 2), (2, 2)][i]?) := mkTBd (z := .agg #[.int .i64 0, .int .i64 0, .int .i64 0, .int .i64 0]) (by kernel_rfl) rfl (by kernel_rfl)
instance tAg286 : TAg Tryz.prog 286 5 := mkTAg (by kernel_rfl) (by kernel_rfl)
instance tZe286 : TZe Tryz.prog 286 [.int .i64 0, .string ByteArray.empty, .int .i64 0, .int .i64 0, .int .i64 0] := mkTZe (z := .agg #[.int .i64 0, .string ByteArray.empty, .int .i64 0, .int .i64 0, .int .i64 0]) (by kernel_rfl) rfl
instance tFl286_0 : TFl Tryz.prog 286 0 0 := mkTFl (by kernel_rfl)
instance tFl286_1 : TFl Tryz.prog 286 1 1 := mkTFl (by kernel_rfl)
instance tFl286_2 : TFl Tryz.prog 286 2 2 := mkTFl (by kernel_rfl)
instance tFl286_3 : TFl Tryz.prog 286 3 3 := mkTFl (by kernel_rfl)
instance tFl286_4 : TFl Tryz.prog 286 4 4 := mkTFl (by kernel_rfl)
instance tAg294 : TAg Tryz.prog 294 4 := mkTAg (by kernel_rfl) (by kernel_rfl)
instance tZe294 : TZe Tryz.prog 294 [.nilFunc, .nilFunc, .nilFunc, .nilFunc] := mkTZe (z := .agg #[.nilFunc, .nilFunc, .nilFunc, .nilFunc]) (by kernel_rfl) rfl
instance tAr294 : TAr Tryz.prog 294 4 1 := mkTAr (b := false) (by kernel_rfl)
instance tBd294 : TBd Tryz.prog 294 [.nilFunc, .nilFunc, .nilFunc, .nilFunc] (fun i => some (i * 1, 1)) := mkTBda (n := 4) (b := false) (z := .agg #[.nilFunc, .nilFunc, .nilFunc, .nilFunc]) (by kernel_rfl) rfl (by kernel_rfl)
instance tSc298 : TSc Tryz.prog 298 := mkTSc (by kernel_rfl) (by kernel_rfl)
instance tZe298 : TZe Tryz.prog 298 [.nilFunc] := mkTZe (z := .nilFunc) (by kernel_rfl) rfl
instance tAg306 : TAg Tryz.prog 306 3 := mkTAg (by kernel_rfl) (by kernel_rfl)
instance tZe306 : TZe Tryz.prog 306 [.int .i64 0, .int .i64 0, .int .i64 0] := mkTZe (z := .agg #[.int .i64 0, .int .i64 0, .int .i64 0]) (by kernel_rfl) rfl
instance tFl306_0 : TFl Tryz.prog 306 0 0 := mkTFl (by kernel_rfl)
instance tFl306_1 : TFl Tryz.prog 306 1 1 := mkTFl (by kernel_rfl)
instance tFl306_2 : TFl Tryz.prog 306 2 2 := mkTFl (by kernel_rfl)
instance tBd306 : TBd Tryz.prog 306 [.int .i64 0, .int .i64 0, .int .i64 0] (fun i => [(0, 1), (1, 1), (2, 1)][i]?) := mkTBd (z := .agg #[.int .i64 0, .int .i64 0, .int .i64 0]) (by kernel_rfl) rfl (by kernel_rfl)
instance tSc309 : TSc Tryz.prog 309 := mkTSc (by kernel_rfl) (by kernel_rfl)
instance tAg318 : TAg Tryz.prog 318 4 := mkTAg (by kernel_rfl) (by kernel_rfl)
instance tZe318 : TZe Tryz.prog 318 [.int .i64 0, .int .i64 0, .int .i64 0, .int .i64 0] := mkTZe (z := .agg #[.int .i64 0, .int .i64 0, .int .i64 0, .int .i64 0]) (by kernel_rfl) rfl
instance tAr318 : TAr Tryz.prog 318 4 1 := mkTAr (b := false) (by kernel_rfl)
instance tBd318 : TBd Tryz.prog 318 [.int .i64 0, .int .i64 0, .int .i64 0, .int .i64 0] (fun i => some (i * 1, 1)) := mkTBda (n := 4) (b := false) (z := .agg #[.int .i64 0, .int .i64 0, .int .i64 0, .int .i64 0]) (by kernel_rfl) rfl (by kernel_rfl)
instance tSc324 : TSc Tryz.prog 324 := mkTSc (by kernel_rfl) (by kernel_rfl)
instance tSl325 : TSl Tryz.prog 325 298 1 := mkTSl (by kernel_rfl) (by kernel_rfl)
instance tSl328 : TSl Tryz.prog 328 45 1 := mkTSl (by kernel_rfl) (by kernel_rfl)
instance tSc335 : TSc Tryz.prog 335 := mkTSc (by kernel_rfl) (by kernel_rfl)
instance tAr336 : TAr Tryz.prog 336 8 1 := mkTAr (b := false) (by kernel_rfl)
instance tFl338_0 : TFl Tryz.prog 338 0 0 := mkTFl (by kernel_rfl)
instance tFl338_1 : TFl Tryz.prog 338 1 8 := mkTFl (by kernel_rfl)
instance tFl338_2 : TFl Tryz.prog 338 2 9 := mkTFl (by kernel_rfl)
instance tBd338 : TBd Tryz.prog 338 [.int .i64 0, .int .i64 0, .int .i64 0, .int .i64 0, .int .i64 0, .int .i64 0, .int .i64 0, .int .i64 0, .int .i64 0, .int .i64 0] (fun i => [(0, 8), (8, 1), (9, 1)][i]?) := mkTBd (z := .agg #[.int .i64 0, .int .i64 0, .int .i64 0, .int .i64 0, .int .i64 0, .int .i64 0, .int .i64 0, .int .i64 0, .int .i64 0, .int .i64 0]) (by kernel_rfl) rfl (by kernel_rfl)
instance tFn6 : TFn Tryz.prog 6 := mkTFn Tryz.func6 (by kernel_rfl) rfl
instance tFn7 : TFn Tryz.prog 7 := mkTFn Tryz.func7 (by kernel_rfl) rfl
instance tFn8 : TFn Tryz.prog 8 := mkTFn Tryz.func8 (by kernel_rfl) rfl
instance tFn12 : TFn Tryz.prog 12 := mkTFn Tryz.func12 (by kernel_rfl) rfl
instance tFn13 : TFn Tryz.prog 13 := mkTFn Tryz.func13 (by kernel_rfl) rfl
instance tFn14 : TFn Tryz.prog 14 := mkTFn Tryz.func14 (by kernel_rfl) rfl
instance tFn15 : TFn Tryz.prog 15 := mkTFn Tryz.func15 (by kernel_rfl) rfl
instance tFn16 : TFn Tryz.prog 16 := mkTFn Tryz.func16 (by kernel_rfl) rfl
instance tFn17 : TFn Tryz.prog 17 := mkTFn Tryz.func17 (by kernel_rfl) rfl
instance tFn18 : TFn Tryz.prog 18 := mkTFn Tryz.func18 (by kernel_rfl) rfl
instance tFn19 : TFn Tryz.prog 19 := mkTFn Tryz.func19 (by kernel_rfl) rfl
instance tFn20 : TFn Tryz.prog 20 := mkTFn Tryz.func20 (by kernel_rfl) rfl
instance tFn21 : TFn Tryz.prog 21 := mkTFn Tryz.func21 (by kernel_rfl) rfl
instance tFn22 : TFn Tryz.prog 22 := mkTFn Tryz.func22 (by kernel_rfl) rfl
instance tFn23 : TFn Tryz.prog 23 := mkTFn Tryz.func23 (by kernel_rfl) rfl
instance tFn24 : TFn Tryz.prog 24 := mkTFn Tryz.func24 (by kernel_rfl) rfl
instance tFn26 : TFn Tryz.prog 26 := mkTFn Tryz.func26 (by kernel_rfl) rfl
instance tFn29 : TFn Tryz.prog 29 := mkTFn Tryz.func29 (by kernel_rfl) rfl
instance tFn30 : TFn Tryz.prog 30 := mkTFn Tryz.func30 (by kernel_rfl) rfl
instance tFn31 : TFn Tryz.prog 31 := mkTFn Tryz.func31 (by kernel_rfl) rfl
instance tFn32 : TFn Tryz.prog 32 := mkTFn Tryz.func32 (by kernel_rfl) rfl
instance tFn33 : TFn Tryz.prog 33 := mkTFn Tryz.func33 (by kernel_rfl) rfl
instance tFn34 : TFn Tryz.prog 34 := mkTFn Tryz.func34 (by kernel_rfl) rfl
instance tFn35 : TFn Tryz.prog 35 := mkTFn Tryz.func35 (by kernel_rfl) rfl
instance tFn36 : TFn Tryz.prog 36 := mkTFn Tryz.func36 (by kernel_rfl) rfl
instance tFn37 : TFn Tryz.prog 37 := mkTFn Tryz.func37 (by kernel_rfl) rfl
instance tFn38 : TFn Tryz.prog 38 := mkTFn Tryz.func38 (by kernel_rfl) rfl
instance tFn39 : TFn Tryz.prog 39 := mkTFn Tryz.func39 (by kernel_rfl) rfl
instance tFn40 : TFn Tryz.prog 40 := mkTFn Tryz.func40 (by kernel_rfl) rfl
instance tFn41 : TFn Tryz.prog 41 := mkTFn Tryz.func41 (by kernel_rfl) rfl
instance tFn42 : TFn Tryz.prog 42 := mkTFn Tryz.func42 (by kernel_rfl) rfl
instance tFn43 : TFn Tryz.prog 43 := mkTFn Tryz.func43 (by kernel_rfl) rfl
instance tFn44 : TFn Tryz.prog 44 := mkTFn Tryz.func44 (by kernel_rfl) rfl
instance tFn45 : TFn Tryz.prog 45 := mkTFn Tryz.func45 (by kernel_rfl) rfl
instance tFn46 : TFn Tryz.prog 46 := mkTFn Tryz.func46 (by kernel_rfl) rfl
instance tFn47 : TFn Tryz.prog 47 := mkTFn Tryz.func47 (by kernel_rfl) rfl
instance tFn48 : TFn Tryz.prog 48 := mkTFn Tryz.func48 (by kernel_rfl) rfl
instance tFn49 : TFn Tryz.prog 49 := mkTFn Tryz.func49 (by kernel_rfl) rfl
instance tFn50 : TFn Tryz.prog 50 := mkTFn Tryz.func50 (by kernel_rfl) rfl
instance tFn51 : TFn Tryz.prog 51 := mkTFn Tryz.func51 (by kernel_rfl) rfl
instance tFn52 : TFn Tryz.prog 52 := mkTFn Tryz.func52 (by kernel_rfl) rfl
instance tFn53 : TFn Tryz.prog 53 := mkTFn Tryz.func53 (by kernel_rfl) rfl
instance tFn54 : TFn Tryz.prog 54 := mkTFn Tryz.func54 (by kernel_rfl) rfl
instance tFn55 : TFn Tryz.prog 55 := mkTFn Tryz.func55 (by kernel_rfl) rfl
instance tFn56 : TFn Tryz.prog 56 := mkTFn Tryz.func56 (by kernel_rfl) rfl
instance tFn57 : TFn Tryz.prog 57 := mkTFn Tryz.func57 (by kernel_rfl) rfl
instance tFn58 : TFn Tryz.prog 58 := mkTFn Tryz.func58 (by kernel_rfl) rfl
instance tFn59 : TFn Tryz.prog 59 := mkTFn Tryz.func59 (by kernel_rfl) rfl
instance tFn60 : TFn Tryz.prog 60 := mkTFn Tryz.func60 (by kernel_rfl) rfl
instance tFn61 : TFn Tryz.prog 61 := mkTFn Tryz.func61 (by kernel_rfl) rfl
instance tFn62 : TFn Tryz.prog 62 := mkTFn Tryz.func62 (by kernel_rfl) rfl
instance tFn63 : TFn Tryz.prog 63 := mkTFn Tryz.func63 (by kernel_rfl) rfl
instance tFn64 : TFn Tryz.prog 64 := mkTFn Tryz.func64 (by kernel_rfl) rfl
instance tFn65 : TFn Tryz.prog 65 := mkTFn Tryz.func65 (by kernel_rfl) rfl
instance tFn66 : TFn Tryz.prog 66 := mkTFn Tryz.func66 (by kernel_rfl) rfl
instance tFn67 : TFn Tryz.prog 67 := mkTFn Tryz.func67 (by kernel_rfl) rfl
instance tFn68 : TFn Tryz.prog 68 := mkTFn Tryz.func68 (by kernel_rfl) rfl
instance tFn69 : TFn Tryz.prog 69 := mkTFn Tryz.func69 (by kernel_rfl) rfl
instance tFn70 : TFn Tryz.prog 70 := mkTFn Tryz.func70 (by kernel_rfl) rfl
instance tFn71 : TFn Tryz.prog 71 := mkTFn Tryz.func71 (by kernel_rfl) rfl
instance tFn72 : TFn Tryz.prog 72 := mkTFn Tryz.func72 (by kernel_rfl) rfl
instance tFn73 : TFn Tryz.prog 73 := mkTFn Tryz.func73 (by kernel_rfl) rfl
instance tFn74 : TFn Tryz.prog 74 := mkTFn Tryz.func74 (by kernel_rfl) rfl
instance tFn75 : TFn Tryz.prog 75 := mkTFn Tryz.func75 (by kernel_rfl) rfl
instance tFn76 : TFn Tryz.prog 76 := mkTFn Tryz.func76 (by kernel_rfl) rfl
instance tFn77 : TFn Tryz.prog 77 := mkTFn Tryz.func77 (by kernel_rfl) rfl
instance tFn78 : TFn Tryz.prog 78 := mkTFn Tryz.func78 (by kernel_rfl) rfl
instance tFn79 : TFn Tryz.prog 79 := mkTFn Tryz.func79 (by kernel_rfl) rfl
instance tFn80 : TFn Tryz.prog 80 := mkTFn Tryz.func80 (by kernel_rfl) rfl
instance tFn81 : TFn Tryz.prog 81 := mkTFn Tryz.func81 (by kernel_rfl) rfl
instance tFn82 : TFn Tryz.prog 82 := mkTFn Tryz.func82 (by kernel_rfl) rfl
instance tFn83 : TFn Tryz.prog 83 := mkTFn Tryz.func83 (by kernel_rfl) rfl
instance tFn84 : TFn Tryz.prog 84 := mkTFn Tryz.func84 (by kernel_rfl) rfl
instance tFn85 : TFn Tryz.prog 85 := mkTFn Tryz.func85 (by kernel_rfl) rfl
instance tFn86 : TFn Tryz.prog 86 := mkTFn Tryz.func86 (by kernel_rfl) rfl
instance tFn87 : TFn Tryz.prog 87 := mkTFn Tryz.func87 (by kernel_rfl) rfl
instance tFn88 : TFn Tryz.prog 88 := mkTFn Tryz.func88 (by kernel_rfl) rfl
instance tFn89 : TFn Tryz.prog 89 := mkTFn Tryz.func89 (by kernel_rfl) rfl
instance tFn90 : TFn Tryz.prog 90 := mkTFn Tryz.func90 (by kernel_rfl) rfl
instance tFn91 : TFn Tryz.prog 91 := mkTFn Tryz.func91 (by kernel_rfl) rfl
instance tFn92 : TFn Tryz.prog 92 := mkTFn Tryz.func92 (by kernel_rfl) rfl
instance tFn93 : TFn Tryz.prog 93 := mkTFn Tryz.func93 (by kernel_rfl) rfl
instance tFn94 : TFn Tryz.prog 94 := mkTFn Tryz.func94 (by kernel_rfl) rfl
instance tFn95 : TFn Tryz.prog 95 := mkTFn Tryz.func95 (by kernel_rfl) rfl
instance tFn96 : TFn Tryz.prog 96 := mkTFn Tryz.func96 (by kernel_rfl) rfl
instance tFn97 : TFn Tryz.prog 97 := mkTFn Tryz.func97 (by kernel_rfl) rfl
instance tFn98 : TFn Tryz.prog 98 := mkTFn Tryz.func98 (by kernel_rfl) rfl
instance tFn99 : TFn Tryz.prog 99 := mkTFn Tryz.func99 (by kernel_rfl) rfl
instance tFn100 : TFn Tryz.prog 100 := mkTFn Tryz.func100 (by kernel_rfl) rfl
instance tFn101 : TFn Tryz.prog 101 := mkTFn Tryz.func101 (by kernel_rfl) rfl
instance tFn102 : TFn Tryz.prog 102 := mkTFn Tryz.func102 (by kernel_rfl) rfl
instance tFn103 : TFn Tryz.prog 103 := mkTFn Tryz.func103 (by kernel_rfl) rfl
instance tFn104 : TFn Tryz.prog 104 := mkTFn Tryz.func104 (by kernel_rfl) rfl
instance tFn105 : TFn Tryz.prog 105 := mkTFn Tryz.func105 (by kernel_rfl) rfl
instance tFn106 : TFn Tryz.prog 106 := mkTFn Tryz.func106 (by kernel_rfl) rfl
instance tFn107 : TFn Tryz.prog 107 := mkTFn Tryz.func107 (by kernel_rfl) rfl
instance tFn108 : TFn Tryz.prog 108 := mkTFn Tryz.func108 (by kernel_rfl) rfl
instance tFn109 : TFn Tryz.prog 109 := mkTFn Tryz.func109 (by kernel_rfl) rfl
instance tFn110 : TFn Tryz.prog 110 := mkTFn Tryz.func110 (by kernel_rfl) rfl
instance tFn111 : TFn Tryz.prog 111 := mkTFn Tryz.func111 (by kernel_rfl) rfl
instance tFn112 : TFn Tryz.prog 112 := mkTFn Tryz.func112 (by kernel_rfl) rfl
instance tFn113 : TFn Tryz.prog 113 := mkTFn Tryz.func113 (by kernel_rfl) rfl
instance tFn114 : TFn Tryz.prog 114 := mkTFn Tryz.func114 (by kernel_rfl) rfl
instance tFn115 : TFn Tryz.prog 115 := mkTFn Tryz.func115 (by kernel_rfl) rfl
instance tFn116 : TFn Tryz.prog 116 := mkTFn Tryz.func116 (by kernel_rfl) rfl
instance tFn117 : TFn Tryz.prog 117 := mkTFn Tryz.func117 (by kernel_rfl) rfl
instance tFn118 : TFn Tryz.prog 118 := mkTFn Tryz.func118 (by kernel_rfl) rfl
instance tFn119 : TFn Tryz.prog 119 := mkTFn Tryz.func119 (by kernel_rfl) rfl
instance tFn120 : TFn Tryz.prog 120 := mkTFn Tryz.func120 (by kernel_rfl) rfl
instance tFn121 : TFn Tryz.prog 121 := mkTFn Tryz.func121 (by kernel_rfl) rfl
instance tFn122 : TFn Tryz.prog 122 := mkTFn Tryz.func122 (by kernel_rfl) rfl
instance tFn123 : TFn Tryz.prog 123 := mkTFn Tryz.func123 (by kernel_rfl) rfl
instance tFn124 : TFn Tryz.prog 124 := mkTFn Tryz.func124 (by kernel_rfl) rfl
instance tFn125 : TFn Tryz.prog 125 := mkTFn Tryz.func125 (by kernel_rfl) rfl
instance tFn126 : TFn Tryz.prog 126 := mkTFn Tryz.func126 (by kernel_rfl) rfl
instance tFn127 : TFn Tryz.prog 127 := mkTFn Tryz.func127 (by kernel_rfl) rfl
instance tFn128 : TFn Tryz.prog 128 := mkTFn Tryz.func128 (by kernel_rfl) rfl
instance tFn129 : TFn Tryz.prog 129 := mkTFn Tryz.func129 (by kernel_rfl) rfl
instance tFn130 : TFn Tryz.prog 130 := mkTFn Tryz.func130 (by kernel_rfl) rfl
instance tFn131 : TFn Tryz.prog 131 := mkTFn Tryz.func131 (by kernel_rfl) rfl
instance tFn132 : TFn Tryz.prog 132 := mkTFn Tryz.func132 (by kernel_rfl) rfl
instance tFn133 : TFn Tryz.prog 133 := mkTFn Tryz.func133 (by kernel_rfl) rfl
instance tFn134 : TFn Tryz.prog 134 := mkTFn Tryz.func134 (by kernel_rfl) rfl
instance tFn135 : TFn Tryz.prog 135 := mkTFn Tryz.func135 (by kernel_rfl) rfl
instance tFn136 : TFn Tryz.prog 136 := mkTFn Tryz.func136 (by kernel_rfl) rfl
instance tFn137 : TFn Tryz.prog 137 := mkTFn Tryz.func137 (by kernel_rfl) rfl
instance tFn138 : TFn Tryz.prog 138 := mkTFn Tryz.func138 (by kernel_rfl) rfl
instance tFn139 : TFn Tryz.prog 139 := mkTFn Tryz.func139 (by kernel_rfl) rfl
instance tFn140 : TFn Tryz.prog 140 := mkTFn Tryz.func140 (by kernel_rfl) rfl
instance tFn141 : TFn Tryz.prog 141 := mkTFn Tryz.func141 (by kernel_rfl) rfl
instance tFn142 : TFn Tryz.prog 142 := mkTFn Tryz.func142 (by kernel_rfl) rfl
instance tFn143 : TFn Tryz.prog 143 := mkTFn Tryz.func143 (by kernel_rfl) rfl
instance tFn144 : TFn Tryz.prog 144 := mkTFn Tryz.func144 (by kernel_rfl) rfl
instance tFn145 : TFn Tryz.prog 145 := mkTFn Tryz.func145 (by kernel_rfl) rfl
instance tFn146 : TFn Tryz.prog 146 := mkTFn Tryz.func146 (by kernel_rfl) rfl
instance tFn147 : TFn Tryz.prog 147 := mkTFn Tryz.func147 (by kernel_rfl) rfl
instance tFn148 : TFn Tryz.prog 148 := mkTFn Tryz.func148 (by kernel_rfl) rfl
instance tFn149 : TFn Tryz.prog 149 := mkTFn Tryz.func149 (by kernel_rfl) rfl
instance tFn150 : TFn Tryz.prog 150 := mkTFn Tryz.func150 (by kernel_rfl) rfl
instance tFn151 : TFn Tryz.prog 151 := mkTFn Tryz.func151 (by kernel_rfl) rfl
instance tFn152 : TFn Tryz.prog 152 := mkTFn Tryz.func152 (by kernel_rfl) rfl
instance tFn153 : TFn Tryz.prog 153 := mkTFn Tryz.func153 (by kernel_rfl) rfl
instance tFn154 : TFn Tryz.prog 154 := mkTFn Tryz.func154 (by kernel_rfl) rfl
instance tFn155 : TFn Tryz.prog 155 := mkTFn Tryz.func155 (by kernel_rfl) rfl
instance tFn156 : TFn Tryz.prog 156 := mkTFn Tryz.func156 (by kernel_rfl) rfl
instance tFn157 : TFn Tryz.prog 157 := mkTFn Tryz.func157 (by kernel_rfl) rfl
instance tFn158 : TFn Tryz.prog 158 := mkTFn Tryz.func158 (by kernel_rfl) rfl
instance tFn159 : TFn Tryz.prog 159 := mkTFn Tryz.func159 (by kernel_rfl) rfl
instance tFn160 : TFn Tryz.prog 160 := mkTFn Tryz.func160 (by kernel_rfl) rfl
instance tFn161 : TFn Tryz.prog 161 := mkTFn Tryz.func161 (by kernel_rfl) rfl
instance tFn162 : TFn Tryz.prog 162 := mkTFn Tryz.func162 (by kernel_rfl) rfl
instance tFn163 : TFn Tryz.prog 163 := mkTFn Tryz.func163 (by kernel_rfl) rfl
instance tFn164 : TFn Tryz.prog 164 := mkTFn Tryz.func164 (by kernel_rfl) rfl
instance tFn165 : TFn Tryz.prog 165 := mkTFn Tryz.func165 (by kernel_rfl) rfl
instance tFn166 : TFn Tryz.prog 166 := mkTFn Tryz.func166 (by kernel_rfl) rfl
instance tFn167 : TFn Tryz.prog 167 := mkTFn Tryz.func167 (by kernel_rfl) rfl
instance tFn168 : TFn Tryz.prog 168 := mkTFn Tryz.func168 (by kernel_rfl) rfl
instance tFn169 : TFn Tryz.prog 169 := mkTFn Tryz.func169 (by kernel_rfl) rfl
instance tFn170 : TFn Tryz.prog 170 := mkTFn Tryz.func170 (by kernel_rfl) rfl
instance tFn171 : TFn Tryz.prog 171 := mkTFn Tryz.func171 (by kernel_rfl) rfl
instance tFn172 : TFn Tryz.prog 172 := mkTFn Tryz.func172 (by kernel_rfl) rfl
instance tFn173 : TFn Tryz.prog 173 := mkTFn Tryz.func173 (by kernel_rfl) rfl
instance tFn174 : TFn Tryz.prog 174 := mkTFn Tryz.func174 (by kernel_rfl) rfl
instance tFn175 : TFn Tryz.prog 175 := mkTFn Tryz.func175 (by kernel_rfl) rfl
instance tFn176 : TFn Tryz.prog 176 := mkTFn Tryz.func176 (by kernel_rfl) rfl
instance tFn177 : TFn Tryz.prog 177 := mkTFn Tryz.func177 (by kernel_rfl) rfl
instance tFn178 : TFn Tryz.prog 178 := mkTFn Tryz.func178 (by kernel_rfl) rfl
instance tFn179 : TFn Tryz.prog 179 := mkTFn Tryz.func179 (by kernel_rfl) rfl
instance tFn180 : TFn Tryz.prog 180 := mkTFn Tryz.func180 (by kernel_rfl) rfl
instance tFn181 : TFn Tryz.prog 181 := mkTFn Tryz.func181 (by kernel_rfl) rfl
instance tFn182 : TFn Tryz.prog 182 := mkTFn Tryz.func182 (by kernel_rfl) rfl
instance tFn183 : TFn Tryz.prog 183 := mkTFn Tryz.func183 (by kernel_rfl) rfl
instance tFn184 : TFn Tryz.prog 184 := mkTFn Tryz.func184 (by kernel_rfl) rfl
instance tFn185 : TFn Tryz.prog 185 := mkTFn Tryz.func185 (by kernel_rfl) rfl
instance tFn186 : TFn Tryz.prog 186 := mkTFn Tryz.func186 (by kernel_rfl) rfl
instance tFn187 : TFn Tryz.prog 187 := mkTFn Tryz.func187 (by kernel_rfl) rfl
instance tFn188 : TFn Tryz.prog 188 := mkTFn Tryz.func188 (by kernel_rfl) rfl
instance tFn189 : TFn Tryz.prog 189 := mkTFn Tryz.func189 (by kernel_rfl) rfl
instance tFn190 : TFn Tryz.prog 190 := mkTFn Tryz.func190 (by kernel_rfl) rfl
instance tFn191 : TFn Tryz.prog 191 := mkTFn Tryz.func191 (by kernel_rfl) rfl
instance tFn192 : TFn Tryz.prog 192 := mkTFn Tryz.func192 (by kernel_rfl) rfl
instance tFn193 : TFn Tryz.prog 193 := mkTFn Tryz.func193 (by kernel_rfl) rfl
instance tFn194 : TFn Tryz.prog 194 := mkTFn Tryz.func194 (by kernel_rfl) rfl
instance tFn195 : TFn Tryz.prog 195 := mkTFn Tryz.func195 (by kernel_rfl) rfl
instance tFn196 : TFn Tryz.prog 196 := mkTFn Tryz.func196 (by kernel_rfl) rfl
instance tFn197 : TFn Tryz.prog 197 := mkTFn Tryz.func197 (by kernel_rfl) rfl
instance tFn214 : TFn Tryz.prog 214 := mkTFn Tryz.func214 (by kernel_rfl) rfl
instance tFn216 : TFn Tryz.prog 216 := mkTFn Tryz.func216 (by kernel_rfl) rfl
instance tFn217 : TFn Tryz.prog 217 := mkTFn Tryz.func217 (by kernel_rfl) rfl
instance tFn222 : TFn Tryz.prog 222 := mkTFn Tryz.func222 (by kernel_rfl) rfl
instance tFn224 : TFn Tryz.prog 224 := mkTFn Tryz.func224 (by kernel_rfl) rfl
instance tFn225 : TFn Tryz.prog 225 := mkTFn Tryz.func225 (by kernel_rfl) rfl
instance tFn226 : TFn Tryz.prog 226 := mkTFn Tryz.func226 (by kernel_rfl) rfl
instance tFn227 : TFn Tryz.prog 227 := mkTFn Tryz.func227 (by kernel_rfl) rfl
instance tFn228 : TFn Tryz.prog 228 := mkTFn Tryz.func228 (by kernel_rfl) rfl
instance tFn229 : TFn Tryz.prog 229 := mkTFn Tryz.func229 (by kernel_rfl) rfl
instance tFn230 : TFn Tryz.prog 230 := mkTFn Tryz.func230 (by kernel_rfl) rfl
end Go.Proofs.YtmfmecgiaekelaaGreatDoor
namespace Go.Proofs.YtmfmecgiaekelaaGreatDoor
open Go
abbrev I (n : Int) : Value := .int .i64 n
abbrev bnd (a b : Int) : Value := .agg [I a, I b].toArray
abbrev ag3 (a b c : Int) : Value := .agg [I a, I b, I c].toArray
abbrev ag8 (a b c d e f g h : Int) : Value := .agg [I a, I b, I c, I d, I e, I f, I g, I h].toArray
abbrev vB (b : Bd) : Value := bnd b.lo b.hi
abbrev vP (p : Pt) : Value := bnd p.x p.y
abbrev vR (r : Rg) : Value := ag8 r.x.lo r.x.hi r.y.lo r.y.hi r.s.lo r.s.hi r.d.lo r.d.hi
abbrev tup (l : List Value) : Value := .tuple l.toArray
abbrev fnv (g : Nat) : Value := .func (.func g) #[] #[]
theorem Tryz.mixed : Tryz.prog.follows .mixedOrders = true := by kernel_rfl
theorem obf {p : Prop} {_ : Decidable p} (h : ¬ p) : Out.val (.bool false) = Out.val (.bool (decide p)) := by simp [h]
theorem obd {p q : Prop} {_ : Decidable p} {_ : Decidable q} (h : p ↔ q) : Out.val (.bool (decide p)) = Out.val (.bool (decide q)) := by
  congr 2; exact decide_eq_decide.2 h
end Go.Proofs.YtmfmecgiaekelaaGreatDoor
namespace Go.Proofs.YtmfmecgiaekelaaGreatDoor
open Go
set_option maxRecDepth 100000
theorem c_region_bounds (a b c d e f g h : Int) : VPure Tryz.prog 136 [ag8 a b c d e f g h] (ag8 a b c d e f g h) := by
 intro H
 refine CV 12 Tryz.func136 ?_
 refine KK2 ?_
 refine BX fun b1 => ?_
 refine AL fun b2 => ?_
 refine KK3 ?_
 refine QF ?_
 refine QN ?_
 refine QF ?_
 refine QN ?_
 refine QF ?_
 refine QN ?_
 refine QF ?_
 refine QN ?_
 refine QB ?_
 refine SN ?_
 refine vnil ?_
 refine vret (VN (H) Tryz.func136 ?_)
 exact ⟨rfl, rfl⟩
theorem c_region_four_region (a b c d e f g h : Int) : VPure Tryz.prog 160 [ag8 a b c d e f g h] (ag8 a b c d e f g h) := by
 intro H
 refine CV 12 Tryz.func160 ?_
 refine KK2 ?_
 refine BX fun b1 => ?_
 refine AL fun b2 => ?_
 refine KK3 ?_
 refine QQ (via rfl rfl (by omega)) rfl ?_
 refine QN ?_
 refine QQ (via rfl rfl (by omega)) rfl ?_
 refine QN ?_
 refine QQ (via rfl rfl (by omega)) rfl ?_
 refine QN ?_
 refine QQ (via rfl rfl (by omega)) rfl ?_
 refine QN ?_
 refine QB ?_
 refine SN ?_
 refine vnil ?_
 refine vret (VN (H) Tryz.func160 ?_)
 exact ⟨rfl, rfl⟩
theorem c_region_cut (a b c d : Int) : VPure Tryz.prog 197 [bnd a b, bnd c d] (bnd (max a c) (min b d)) := by
 intro H
 refine CV 16 Tryz.func197 ?_
 refine KK2 ?_
 refine BX fun b1 => ?_
 refine BX fun b2 => ?_
 refine AL fun b3 => ?_
 refine KK3 ?_
 refine QF ?_
 refine QL ?_
 refine QF ?_
 refine QL ?_
 refine QQ (vmax2 rfl rfl) rfl ?_
 refine QF ?_
 refine QL ?_
 refine QF ?_
 refine QL ?_
 refine QQ (vmin2 rfl rfl) rfl ?_
 refine QB ?_
 refine SN ?_
 refine vnil ?_
 refine vret (VN (H) Tryz.func197 ?_)
 exact ⟨rfl, rfl⟩
theorem c_region_span (a b c d : Int) : VPure Tryz.prog 187 [bnd a b, bnd c d] (bnd (min a c) (max b d)) := by
 intro H
 refine CV 16 Tryz.func187 ?_
 refine KK2 ?_
 refine BX fun b1 => ?_
 refine BX fun b2 => ?_
 refine AL fun b3 => ?_
 refine KK3 ?_
 refine QF ?_
 refine QL ?_
 refine QF ?_
 refine QL ?_
 refine QQ (vmin2 rfl rfl) rfl ?_
 refine QF ?_
 refine QL ?_
 refine QF ?_
 refine QL ?_
 refine QQ (vmax2 rfl rfl) rfl ?_
 refine QB ?_
 refine SN ?_
 refine vnil ?_
 refine vret (VN (H) Tryz.func187 ?_)
 exact ⟨rfl, rfl⟩
theorem c_region_plus (a b c d : Int) (h1 : InR (a + c)) (h2 : InR (b + d)) : VPure Tryz.prog 190 [bnd a b, bnd c d] (bnd (a + c) (b + d)) := by
 intro H
 refine CV 16 Tryz.func190 ?_
 refine KK2 ?_
 refine BX fun b1 => ?_
 refine BX fun b2 => ?_
 refine AL fun b3 => ?_
 refine KK3 ?_
 refine QF ?_
 refine QL ?_
 refine QF ?_
 refine QL ?_
 refine QQ (vadd rfl rfl (by assumption)) rfl ?_
 refine QF ?_
 refine QL ?_
 refine QF ?_
 refine QL ?_
 refine QQ (vadd rfl rfl (by assumption)) rfl ?_
 refine QB ?_
 refine SN ?_
 refine vnil ?_
 refine vret (VN (H) Tryz.func190 ?_)
 exact ⟨rfl, rfl⟩
theorem c_region_minus (a b c d : Int) (h1 : InR (a - d)) (h2 : InR (b - c)) : VPure Tryz.prog 158 [bnd a b, bnd c d] (bnd (a - d) (b - c)) := by
 intro H
 refine CV 16 Tryz.func158 ?_
 refine KK2 ?_
 refine BX fun b1 => ?_
 refine BX fun b2 => ?_
 refine AL fun b3 => ?_
 refine KK3 ?_
 refine QF ?_
 refine QL ?_
 refine QF ?_
 refine QL ?_
 refine QQ (vsub rfl rfl (by assumption)) rfl ?_
 refine QF ?_
 refine QL ?_
 refine QF ?_
 refine QL ?_
 refine QQ (vsub rfl rfl (by assumption)) rfl ?_
 refine QB ?_
 refine SN ?_
 refine vnil ?_
 refine vret (VN (H) Tryz.func158 ?_)
 exact ⟨rfl, rfl⟩
theorem c_region_limit_fits (l a b : Int) (hl : 0 ≤ l ∧ l ≤ 65536) : VPure Tryz.prog 159 [I l, bnd a b] (.bool (decide (-l ≤ a ∧ a ≤ b ∧ b ≤ l))) := by
 intro H
 refine CV 23 Tryz.func159 ?_
 refine KK2 ?_
 refine BX fun b1 => ?_
 refine QA ?_
 refine KK3 ?_
 refine QF ?_
 refine QL ?_
 refine QM ?_
 refine QQ (vneg rfl (by unfold InR; omega)) rfl ?_
 refine QQ (vgeq rfl rfl) rfl ?_
 refine QM ?_
 refine vsplitd (d := 10) rfl (fun h10 => ?_) (fun h10 => ?_)
 ·
  refine YF ?_
  refine YL ?_
  refine YF ?_
  refine YL ?_
  refine YY (vleq rfl rfl) rfl ?_
  refine QT ?_
  refine QM ?_
  refine vsplitd (d := 17) rfl (fun h17 => ?_) (fun h17 => ?_)
  ·
   refine YF ?_
   refine YL ?_
   refine YM ?_
   refine YY (vleq rfl rfl) rfl ?_
   refine QT ?_
   refine QA ?_
   refine vnil ?_
   refine vret (V1 (H) Tryz.func159 ?_)
   exact ⟨obd (by omega), rfl⟩
  ·
   refine NO ?_
   refine NO ?_
   refine NO ?_
   refine NO ?_
   refine QU ?_
   refine QA ?_
   refine vnil ?_
   refine vret (V1 (H) Tryz.func159 ?_)
   exact ⟨obf (by omega), rfl⟩
 ·
  refine NO ?_
  refine NO ?_
  refine NO ?_
  refine NO ?_
  refine NO ?_
  refine QU ?_
  refine QM ?_
  refine NO ?_
  refine NO ?_
  refine NO ?_
  refine NO ?_
  refine QU ?_
  refine QA ?_
  refine vnil ?_
  refine vret (V1 (H) Tryz.func159 ?_)
  exact ⟨obf (by omega), rfl⟩
theorem c_region_limit_into (l n : Int) (hl : 0 ≤ l ∧ l ≤ 65536) : VPure Tryz.prog 24 [I l, I n] (I (max (-l) (min n l))) := by
 intro H
 refine CV 11 Tryz.func24 ?_
 refine KK2 ?_
 refine QA ?_
 refine KK3 ?_
 refine QM ?_
 refine QQ (vneg rfl (by unfold InR; omega)) rfl ?_
 refine QM ?_
 refine QM ?_
 refine QQ (vmin2 rfl rfl) rfl ?_
 refine QQ (vmax2 rfl rfl) rfl ?_
 refine QA ?_
 refine vnil ?_
 refine vret (V1 (H) Tryz.func24 ?_)
 exact ⟨rfl, rfl⟩
theorem c_region_within (n a b : Int) : VPure Tryz.prog 53 [I n, I a, I b] (.bool (decide (a ≤ n ∧ n ≤ b))) := by
 intro H
 refine CV 15 Tryz.func53 ?_
 refine KK2 ?_
 refine QA ?_
 refine KK3 ?_
 refine QM ?_
 refine QM ?_
 refine QQ (vgeq rfl rfl) rfl ?_
 refine QM ?_
 refine vsplitd (d := 10) rfl (fun h10 => ?_) (fun h10 => ?_)
 ·
  refine YM ?_
  refine YM ?_
  refine YY (vleq rfl rfl) rfl ?_
  refine QT ?_
  refine QA ?_
  refine vnil ?_
  refine vret (V1 (H) Tryz.func53 ?_)
  exact ⟨obd (by omega), rfl⟩
 ·
  refine NO ?_
  refine NO ?_
  refine NO ?_
  refine QU ?_
  refine QA ?_
  refine vnil ?_
  refine vret (V1 (H) Tryz.func53 ?_)
  exact ⟨obf (by omega), rfl⟩
theorem c_ref00_Between (n a b : Int) : VPure Tryz.prog 15 [I n, I a, I b] (.bool (decide (a ≤ n ∧ n ≤ b))) := by
 intro H
 refine CV 15 Tryz.func15 ?_
 refine KK2 ?_
 refine QA ?_
 refine KK3 ?_
 refine QM ?_
 refine QM ?_
 refine QQ (vgeq rfl rfl) rfl ?_
 refine QM ?_
 refine vsplitd (d := 10) rfl (fun h10 => ?_) (fun h10 => ?_)
 ·
  refine YM ?_
  refine YM ?_
  refine YY (vleq rfl rfl) rfl ?_
  refine QT ?_
  refine QA ?_
  refine vnil ?_
  refine vret (V1 (H) Tryz.func15 ?_)
  exact ⟨obd (by omega), rfl⟩
 ·
  refine NO ?_
  refine NO ?_
  refine NO ?_
  refine QU ?_
  refine QA ?_
  refine vnil ?_
  refine vret (V1 (H) Tryz.func15 ?_)
  exact ⟨obf (by omega), rfl⟩
theorem c_region_of (x y : Int) (h1 : InR (x + y)) (h2 : InR (x - y)) : VPure Tryz.prog 186 [bnd x y] (ag8 x x y y (x + y) (x + y) (x - y) (x - y)) := by
 intro H
 refine CV 32 Tryz.func186 ?_
 refine KK2 ?_
 refine BX fun b1 => ?_
 refine AL fun b2 => ?_
 refine KK3 ?_
 refine AL fun b3 => ?_
 refine vnil (vseq (KK2 ?_))
 refine QF ?_
 refine QL ?_
 refine QF ?_
 refine QL ?_
 refine QF ?_
 refine QL ?_
 refine QF ?_
 refine QL ?_
 refine QQ (vadd rfl rfl (by first | assumption | (unfold InR; omega))) rfl ?_
 refine QF ?_
 refine QL ?_
 refine QF ?_
 refine QL ?_
 refine QQ (vsub rfl rfl (by first | assumption | (unfold InR; omega))) rfl ?_
 refine QB ?_
 refine QM ?_
 refine vnil (vblock ?_)
 refine vloop1 ?_
 refine KK2 ?_
 refine QS ?_
 refine vnil (vseq (vcondt rfl (vskip (vseq (vblock (KK2 ?_))))))
 refine QM ?_
 refine QQ (vixa1 rfl rfl (by omega) rfl) rfl ?_
 refine QA ?_
 refine QA ?_
 refine vnil (vregion ?_)
 refine QM ?_
 refine QM ?_
 refine QM ?_
 refine QB ?_
 refine QQ (via rfl rfl (by omega)) rfl ?_
 refine SN ?_
 refine vnil (vinblock (vregion ?_))
 refine QQ (vadd rfl rfl (by first | assumption | (unfold InR; omega))) rfl ?_
 refine QM ?_
 refine vnil ?_
 refine vinloop1 ?_
 refine KK2 ?_
 refine QS ?_
 refine vnil (vseq (vcondt rfl (vskip (vseq (vblock (KK2 ?_))))))
 refine QM ?_
 refine QQ (vixa1 rfl rfl (by omega) rfl) rfl ?_
 refine QA ?_
 refine QA ?_
 refine vnil (vregion ?_)
 refine QM ?_
 refine QM ?_
 refine QM ?_
 refine QB ?_
 refine QQ (via rfl rfl (by omega)) rfl ?_
 refine SN ?_
 refine vnil (vinblock (vregion ?_))
 refine QQ (vadd rfl rfl (by first | assumption | (unfold InR; omega))) rfl ?_
 refine QM ?_
 refine vnil ?_
 refine vinloop1 ?_
 refine KK2 ?_
 refine QS ?_
 refine vnil (vseq (vcondt rfl (vskip (vseq (vblock (KK2 ?_))))))
 refine QM ?_
 refine QQ (vixa1 rfl rfl (by omega) rfl) rfl ?_
 refine QA ?_
 refine QA ?_
 refine vnil (vregion ?_)
 refine QM ?_
 refine QM ?_
 refine QM ?_
 refine QB ?_
 refine QQ (via rfl rfl (by omega)) rfl ?_
 refine SN ?_
 refine vnil (vinblock (vregion ?_))
 refine QQ (vadd rfl rfl (by first | assumption | (unfold InR; omega))) rfl ?_
 refine QM ?_
 refine vnil ?_
 refine vinloop1 ?_
 refine KK2 ?_
 refine QS ?_
 refine vnil (vseq (vcondt rfl (vskip (vseq (vblock (KK2 ?_))))))
 refine QM ?_
 refine QQ (vixa1 rfl rfl (by omega) rfl) rfl ?_
 refine QA ?_
 refine QA ?_
 refine vnil (vregion ?_)
 refine QM ?_
 refine QM ?_
 refine QM ?_
 refine QB ?_
 refine QQ (via rfl rfl (by omega)) rfl ?_
 refine SN ?_
 refine vnil (vinblock (vregion ?_))
 refine QQ (vadd rfl rfl (by first | assumption | (unfold InR; omega))) rfl ?_
 refine QM ?_
 refine vnil ?_
 refine vinloop1 ?_
 refine KK2 ?_
 refine QS ?_
 refine vnil (vseq (vcondf rfl ?_))
 refine vexit (k' := _) rfl ?_
 refine KK2 ?_
 refine QN ?_
 refine SN ?_
 refine vnil ?_
 refine vret (VN (H) Tryz.func186 ?_)
 exact ⟨rfl, rfl⟩
theorem c_region_four_combined (g : Nat) [TFn Tryz.prog g] (a b c d e f' g' h a' b' c' d' e' f2 g2 h' r1 r2 r3 r4 r5 r6 r7 r8 : Int) (h1 : VPure Tryz.prog g [bnd a b, bnd a' b'] (bnd r1 r2)) (h2 : VPure Tryz.prog g [bnd c d, bnd c' d'] (bnd r3 r4)) (h3 : VPure Tryz.prog g [bnd e f', bnd e' f2] (bnd r5 r6)) (h4 : VPure Tryz.prog g [bnd g' h, bnd g2 h'] (bnd r7 r8)) : VPure Tryz.prog 157 [ag8 a b c d e f' g' h, ag8 a' b' c' d' e' f2 g2 h', fnv g] (ag8 r1 r2 r3 r4 r5 r6 r7 r8) := by
 intro H
 refine CV 23 Tryz.func157 ?_
 refine KK2 ?_
 refine BX fun b1 => ?_
 refine BX fun b2 => ?_
 refine AL fun b3 => ?_
 refine vnil (vseq (KK2 ?_))
 refine QM ?_
 refine vnil (vblock ?_)
 refine vloop1 ?_
 refine KK2 ?_
 refine QS ?_
 refine vnil (vseq (vcondt rfl (vskip (vseq (vblock (KK2 ?_))))))
 refine QM ?_
 refine QA ?_
 refine vnil ?_
 refine DR [(.q, 0), (.q, 1), (.q, 2), (.q, 3), (.q, 4), (.q, 5), (.q, 6), (.q, 7), (.q, 8), (.q, 9), (.c, 10)] Tryz.mixed ?_
 refine DM ?_
 refine DM ?_
 refine DM ?_
 refine DD (via rfl rfl (by omega)) rfl ?_
 refine DN ?_
 refine DM ?_
 refine DD (via rfl rfl (by omega)) rfl ?_
 refine DN ?_
 refine DD (vcp rfl rfl rfl ((by first | exact h1 | exact h2 | exact h3 | exact h4))) rfl ?_
 refine DD (via rfl rfl (by omega)) rfl ?_
 refine vdcs (mone rfl) (vstn rfl rfl rfl rfl rfl) rfl ?_
 refine vdend rfl (vinblock (vregion ?_))
 refine QQ (vadd rfl rfl (by unfold InR; omega)) rfl ?_
 refine QM ?_
 refine vnil ?_
 refine vinloop1 ?_
 refine KK2 ?_
 refine QS ?_
 refine vnil (vseq (vcondt rfl (vskip (vseq (vblock (KK2 ?_))))))
 refine QM ?_
 refine QA ?_
 refine vnil ?_
 refine DR [(.q, 0), (.q, 1), (.q, 2), (.q, 3), (.q, 4), (.q, 5), (.q, 6), (.q, 7), (.q, 8), (.q, 9), (.c, 10)] Tryz.mixed ?_
 refine DM ?_
 refine DM ?_
 refine DM ?_
 refine DD (via rfl rfl (by omega)) rfl ?_
 refine DN ?_
 refine DM ?_
 refine DD (via rfl rfl (by omega)) rfl ?_
 refine DN ?_
 refine DD (vcp rfl rfl rfl ((by first | exact h1 | exact h2 | exact h3 | exact h4))) rfl ?_
 refine DD (via rfl rfl (by omega)) rfl ?_
 refine vdcs (mone rfl) (vstn rfl rfl rfl rfl rfl) rfl ?_
 refine vdend rfl (vinblock (vregion ?_))
 refine QQ (vadd rfl rfl (by unfold InR; omega)) rfl ?_
 refine QM ?_
 refine vnil ?_
 refine vinloop1 ?_
 refine KK2 ?_
 refine QS ?_
 refine vnil (vseq (vcondt rfl (vskip (vseq (vblock (KK2 ?_))))))
 refine QM ?_
 refine QA ?_
 refine vnil ?_
 refine DR [(.q, 0), (.q, 1), (.q, 2), (.q, 3), (.q, 4), (.q, 5), (.q, 6), (.q, 7), (.q, 8), (.q, 9), (.c, 10)] Tryz.mixed ?_
 refine DM ?_
 refine DM ?_
 refine DM ?_
 refine DD (via rfl rfl (by omega)) rfl ?_
 refine DN ?_
 refine DM ?_
 refine DD (via rfl rfl (by omega)) rfl ?_
 refine DN ?_
 refine DD (vcp rfl rfl rfl ((by first | exact h1 | exact h2 | exact h3 | exact h4))) rfl ?_
 refine DD (via rfl rfl (by omega)) rfl ?_
 refine vdcs (mone rfl) (vstn rfl rfl rfl rfl rfl) rfl ?_
 refine vdend rfl (vinblock (vregion ?_))
 refine QQ (vadd rfl rfl (by unfold InR; omega)) rfl ?_
 refine QM ?_
 refine vnil ?_
 refine vinloop1 ?_
 refine KK2 ?_
 refine QS ?_
 refine vnil (vseq (vcondt rfl (vskip (vseq (vblock (KK2 ?_))))))
 refine QM ?_
 refine QA ?_
 refine vnil ?_
 refine DR [(.q, 0), (.q, 1), (.q, 2), (.q, 3), (.q, 4), (.q, 5), (.q, 6), (.q, 7), (.q, 8), (.q, 9), (.c, 10)] Tryz.mixed ?_
 refine DM ?_
 refine DM ?_
 refine DM ?_
 refine DD (via rfl rfl (by omega)) rfl ?_
 refine DN ?_
 refine DM ?_
 refine DD (via rfl rfl (by omega)) rfl ?_
 refine DN ?_
 refine DD (vcp rfl rfl rfl ((by first | exact h1 | exact h2 | exact h3 | exact h4))) rfl ?_
 refine DD (via rfl rfl (by omega)) rfl ?_
 refine vdcs (mone rfl) (vstn rfl rfl rfl rfl rfl) rfl ?_
 refine vdend rfl (vinblock (vregion ?_))
 refine QQ (vadd rfl rfl (by unfold InR; omega)) rfl ?_
 refine QM ?_
 refine vnil ?_
 refine vinloop1 ?_
 refine KK2 ?_
 refine QS ?_
 refine vnil (vseq (vcondf rfl ?_))
 refine vexit (k' := _) rfl ?_
 refine KK2 ?_
 refine QN ?_
 refine SN ?_
 refine vnil ?_
 refine vret (VN (H) Tryz.func157 ?_)
 exact ⟨rfl, rfl⟩
end Go.Proofs.YtmfmecgiaekelaaGreatDoor
namespace Go.Proofs.YtmfmecgiaekelaaGreatDoor
open Go
set_option maxRecDepth 100000
abbrev ptr (b : Nat) : Value := .pointer (some ⟨b, 0, Option.none⟩)
abbrev clR (r : Rg) : List Value := [I r.x.lo, I r.x.hi, I r.y.lo, I r.y.hi, I r.s.lo, I r.s.hi, I r.d.lo, I r.d.hi]
abbrev vW (w : Rw) : Value := ag3 w.x w.a w.b
theorem rowsN_end {r : Rg} {x : Int} (h1 : r.x.lo ≤ x) (h2 : x = r.x.lo ∨ x ≤ r.x.hi + 1) (h3 : ¬ x ≤ r.x.hi) : rowsN r (x - r.x.lo).toNat = rows r := by
  unfold rows Bd.len; congr 1; omega
theorem rowsN_next {r : Rg} {x : Int} (h1 : r.x.lo ≤ x) : rowsN r (x + 1 - r.x.lo).toNat = rowsN r (x - r.x.lo).toNat ++ rowL r x := by
  rw [show (x + 1 - r.x.lo).toNat = (x - r.x.lo).toNat + 1 by omega, rowsN_succ, show r.x.lo + ((x - r.x.lo).toNat : Int) = x by omega]
theorem rowsN_nil {r : Rg} {x : Int} (h1 : r.x.lo ≤ x) (h : ¬ (rowOf r x).a ≤ (rowOf r x).b) : rowsN r (x + 1 - r.x.lo).toNat = rowsN r (x - r.x.lo).toNat := by
  rw [rowsN_next h1, rowL, if_neg h, List.append_nil]
theorem rowsN_one {r : Rg} {x : Int} (h1 : r.x.lo ≤ x) (h : (rowOf r x).a ≤ (rowOf r x).b) : rowsN r (x + 1 - r.x.lo).toNat = rowsN r (x - r.x.lo).toNat ++ [rowOf r x] := by
  rw [rowsN_next h1, rowL, if_pos h]
theorem rows_at {r : Rg} {x : Int} (h1 : r.x.lo ≤ x) (h2 : x ≤ r.x.hi) (h : (rowOf r x).a ≤ (rowOf r x).b) : ∃ post, rows r = rowsN r (x - r.x.lo).toNat ++ rowOf r x :: post := by
  have := rows_split r (x - r.x.lo).toNat (by unfold Bd.len; omega) (by rw [show r.x.lo + ((x - r.x.lo).toNat : Int) = x by omega]; exact h)
  rwa [show r.x.lo + ((x - r.x.lo).toNat : Int) = x by omega] at this
abbrev bR (b : Nat) (r : Rg) : Nat × Obj := (b, blk (clR r) 257)
theorem it_rows (r : Rg) (hs : r.sm 1099511627776) (b : Nat) : VIt Tryz.prog 191 [ptr b] (fun w => [vW w]) (rows r) [bR b r] := by
 unfold Rg.sm Bd.sm at hs
 intro yf ya yc J Jx Hc0 hJ0 hy
 change VCall _ _ _ (bR b r :: Hc0) _
 refine CV 56 Tryz.func191 ?_
 refine KK2 ?_
 refine QQ (via rfl rfl (by omega)) rfl ?_
 refine QF ?_
 refine QL ?_
 refine QA ?_
 refine vnil (vblock ?_)
 refine vwhile (σ := Int × Heap) (fun ⟨x, Hc⟩ => (r.x.hi + 1 - x).toNat) (fun ⟨x, Hc⟩ => [(0, .func yf ya yc), (1, ptr b), (3, I x)]) (fun ⟨x, Hc⟩ => bR b r :: Hc) (fun ⟨x, Hc⟩ => (r.x.lo ≤ x ∧ (x = r.x.lo ∨ x ≤ r.x.hi + 1)) ∧ J (rowsN r (x - r.x.lo).toNat) Hc) (r.x.lo, Hc0) ⟨⟨by omega, .inl rfl⟩, by rw [Int.sub_self]; exact hJ0⟩ ⟨rfl, rfl, rfl, True.intro⟩ sb ?_
 rintro ⟨x, Hc⟩ ⟨⟨hx1, hx2⟩, hJ⟩ IH
 change VRun _ _ _ _ _ [(0, .func yf ya yc), (1, ptr b), (3, I x)] _ (bR b r :: Hc) _
 refine vseq (KK2 ?_)
 refine QM ?_
 refine QQ (via rfl rfl (by omega)) rfl ?_
 refine QF ?_
 refine QL ?_
 refine QQ (vleq rfl rfl) rfl ?_
 refine vnil ?_
 refine vcondd rfl (fun h12 => ?_) (fun h12 => ?_)
 ·
  refine vskip (vseq (vblock (KK2 ?_)))
  refine QM ?_
  refine QQ (via rfl rfl (by omega)) rfl ?_
  refine QF ?_
  refine QL ?_
  refine QQ (via rfl rfl (by omega)) rfl ?_
  refine QF ?_
  refine QL ?_
  refine QM ?_
  refine QQ (vsub rfl rfl (by unfold InR; omega)) rfl ?_
  refine QM ?_
  refine QQ (via rfl rfl (by omega)) rfl ?_
  refine QF ?_
  refine QL ?_
  refine QQ (vsub rfl rfl (by unfold InR; omega)) rfl ?_
  refine QQ (vmax3 rfl rfl rfl) rfl ?_
  refine QQ (via rfl rfl (by omega)) rfl ?_
  refine QF ?_
  refine QL ?_
  refine QQ (via rfl rfl (by omega)) rfl ?_
  refine QF ?_
  refine QL ?_
  refine QM ?_
  refine QQ (vsub rfl rfl (by unfold InR; omega)) rfl ?_
  refine QM ?_
  refine QQ (via rfl rfl (by omega)) rfl ?_
  refine QF ?_
  refine QL ?_
  refine QQ (vsub rfl rfl (by unfold InR; omega)) rfl ?_
  refine QQ (vmin3 rfl rfl rfl) rfl ?_
  refine QB ?_
  refine AL fun b1 => ?_
  refine SN ?_
  refine KK3 ?_
  refine QF ?_
  refine QL ?_
  refine QF ?_
  refine QL ?_
  refine QQ (vleq rfl rfl) rfl ?_
  refine QM ?_
  refine vsplitd (d := 50) rfl (fun h50 => ?_) (fun h50 => ?_)
  ·
   refine YM ?_
   refine YN ?_
   have hab : (rowOf r x).a ≤ (rowOf r x).b := h50
   obtain ⟨post, hps⟩ := rows_at hx1 h12 hab
   refine vyes rfl rfl rfl (vxg (vcy rfl rfl (VY.b2 (hy _ _ _ hps _ hJ))) rfl rfl ?_)
   rintro _ _ ⟨bb, rfl, Hc2, rfl, hJ2⟩
   rcases bb with _ | _
   ·
    refine YY (vnot rfl) rfl ?_
    refine QT ?_
    refine vnil (vcondt rfl ?_)
    refine vret (vr0 (H' := bR b r :: _) Tryz.func191 rfl  sb ?_)
    exact ⟨rfl, _, rfl, .inr hJ2⟩
   ·
    refine YY (vnot rfl) rfl ?_
    refine QT ?_
    refine vnil (vcondf rfl (vskip (vinblock (vregion ?_))))
    refine QM ?_
    refine QQ (vadd rfl rfl (by unfold InR; omega)) rfl ?_
    refine QA ?_
    refine vnil ?_
    exact vback (IH (x + 1, Hc2) ⟨⟨by omega, by omega⟩, by rw [rowsN_one hx1 hab]; exact hJ2⟩ (by show (_ : Int).toNat < (_ : Int).toNat; omega)) ⟨rfl, rfl, rfl, True.intro⟩ sb
  ·
   refine NO ?_
   refine NO ?_
   refine NO ?_
   refine NO ?_
   refine QU ?_
   refine vnil (vcondf rfl (vskip (vinblock (vregion ?_))))
   refine QM ?_
   refine QQ (vadd rfl rfl (by unfold InR; omega)) rfl ?_
   refine QA ?_
   refine vnil ?_
   exact vback (IH (x + 1, Hc) ⟨⟨by omega, by omega⟩, by rw [rowsN_nil hx1 (by assumption)]; exact hJ⟩ (by show (_ : Int).toNat < (_ : Int).toNat; omega)) ⟨rfl, rfl, rfl, True.intro⟩ sb
 ·
  refine vexit (k' := _) rfl ?_
  refine vend (vr0 (H' := bR b r :: _) Tryz.func191 rfl  sb ?_)
  exact ⟨rfl, _, rfl, .inl (by rw [← rowsN_end hx1 hx2 h12]; exact hJ)⟩
theorem n_rows (r : Rg) : VNew Tryz.prog 166 [vR r] (blk (clR r) 257) (fun b => .func (.func 191) #[] #[ptr b]) := by
 intro H
 refine CV 4 Tryz.func166 ?_
 refine KK2 ?_
 refine BX fun b1 => ?_
 refine QA ?_
 refine KK3 ?_
 refine QQ (vmf rfl) rfl ?_
 refine QA ?_
 refine vnil ?_
 refine vret (V1 (bR b1 r :: H) Tryz.func166 ?_)
 exact ⟨_, rfl, rfl⟩
theorem n_ends (r : Rg) : VNew Tryz.prog 162 [vR r] (blk (clR r) 257) (fun b => .func (.func 188) #[] #[ptr b]) := by
 intro H
 refine CV 4 Tryz.func162 ?_
 refine KK2 ?_
 refine BX fun b1 => ?_
 refine QA ?_
 refine KK3 ?_
 refine QQ (vmf rfl) rfl ?_
 refine QA ?_
 refine vnil ?_
 refine vret (V1 (bR b1 r :: H) Tryz.func162 ?_)
 exact ⟨_, rfl, rfl⟩
theorem flat_snoc (pre : List Rw) (x : Rw) : (pre ++ [x]).flatMap endL = pre.flatMap endL ++ endL x := by simp
theorem ends_at1 {r : Rg} {pre post : List Rw} {x : Rw} (h : rows r = pre ++ x :: post) : ∃ p2, endsOf r = pre.flatMap endL ++ ⟨x.x, x.a⟩ :: p2 := by
  unfold endsOf; rw [h]; simp only [List.flatMap_append, List.flatMap_cons]
  unfold endL; split <;> exact ⟨_, rfl⟩
theorem ends_at2 {r : Rg} {pre post : List Rw} {x : Rw} (h : rows r = pre ++ x :: post) (hne : x.a ≠ x.b) : ∃ p2, endsOf r = (pre.flatMap endL ++ [⟨x.x, x.a⟩]) ++ ⟨x.x, x.b⟩ :: p2 := by
  unfold endsOf; rw [h]; simp only [List.flatMap_append, List.flatMap_cons]
  have : endL x = [⟨x.x, x.a⟩, ⟨x.x, x.b⟩] := by unfold endL; rw [if_neg hne]
  rw [this]; exact ⟨_, by simp only [List.append_assoc]; rfl⟩
theorem ne_of_l {a b c : Int} (h : [a, b] ≠ [a, c]) : b ≠ c := fun e => h (by rw [e])
theorem eq_of_l {a b c : Int} (h : ¬ [a, b] ≠ [a, c]) : b = c := by
  have h := Classical.not_not.1 h; simpa using h
theorem it_ends (r : Rg) (hs : r.sm 1099511627776) (b : Nat) : VIt Tryz.prog 188 [ptr b] (fun p => [vP p]) (endsOf r) [bR b r] := by
 intro yf ya yc J Jx Hc0 hJ0 hy
 change VCall _ _ _ (bR b r :: Hc0) _
 refine CV 34 Tryz.func188 ?_
 refine KK2 ?_
 refine BX fun b1 => ?_
 refine KK3 ?_
 refine QN ?_
 refine vone rfl (vxg (vcnew rfl rfl rfl (n_rows _)) rfl rfl ?_)
 rintro _ _ ⟨b2, rfl, rfl⟩
 refine vnil (vblock ?_)
 refine vrange (enc := (fun w => [vW w])) (xs := (rows r)) (caps := [ptr b2]) (Hi := [bR b2 r]) (Hc := ((b1, blk [.func yf ya yc] 218) :: bR b r :: Hc0)) (ps := [8]) (fun pre H1 => ∃ Hc, H1 = (b1, blk [.func yf ya yc] 218) :: bR b r :: Hc ∧ J (pre.flatMap endL) Hc) (fun c H1 => c = .ret ∧ ∃ Hc, H1 = (b1, blk [.func yf ya yc] 218) :: bR b r :: Hc ∧ Jx Hc) rfl (it_rows r hs b2) (List.Perm.refl _) ⟨_, rfl, hJ0⟩ (fun _ => rfl) rfl ?_ ?_ ?_
 ·
  intro lp rec pre x post H1 hrs hxs hI
  obtain ⟨Hc, rfl, hJ⟩ := hI
  refine vregion ?_
  refine AL fun b3 => ?_
  refine SN ?_
  refine vnil ?_
  refine vbegin hrs ?_
  refine vblock (vseq ?_)
  refine vdraw [(.q, 0), (.q, 1), (.q, 2), (.q, 3), (.q, 4), (.q, 5), (.q, 6), (.q, 7), (.q, 8), (.q, 9), (.a (blk [.int .i64 0, .int .i64 0] 30), 10), (.a (blk [.int .i64 0, .int .i64 0] 30), 11), (.s, 12), (.s, 13)] Tryz.mixed (by kernel_rfl) ⟨⟨_, _, _, _, _, rfl, _, inferInstance, rfl⟩, ⟨⟨_, _, _, _, _, rfl, _, inferInstance, rfl⟩, True.intro⟩⟩ ?_
  refine DF ?_
  refine DL ?_
  refine DF ?_
  refine DL ?_
  refine DB ?_
  refine DF ?_
  refine DL ?_
  refine DF ?_
  refine DL ?_
  refine DB ?_
  refine vda rfl rfl (fun b4 => ?_)
  refine vda rfl rfl (fun b5 => ?_)
  refine vds (mone rfl) (vstn rfl rfl rfl rfl rfl) rfl ?_
  refine vds (mone rfl) (vstn rfl rfl rfl rfl rfl) rfl ?_
  refine vdend rfl (KK2 ?_)
  refine QL ?_
  refine QN ?_
  obtain ⟨p2, hps⟩ := ends_at1 hxs
  refine vone rfl (vxg (vcy rfl rfl (VY.b6 (hy _ _ _ hps _ hJ))) rfl rfl ?_)
  rintro _ _ ⟨bb, rfl, Hc, rfl, hJ⟩
  rcases bb with _ | _
  ·
   refine QQ (vnot rfl) rfl ?_
   refine QM ?_
   refine NO ?_
   refine NO ?_
   refine NO ?_
   refine NO ?_
   refine vnou rfl rfl rfl rfl rfl ?_
   refine vnou rfl rfl rfl rfl rfl ?_
   refine vnou rfl rfl rfl rfl rfl ?_
   refine vnou rfl rfl rfl rfl rfl ?_
   refine NO ?_
   refine QT ?_
   refine vnil (vcondt rfl ?_)
   refine vroundI_ret (H' := (b1, blk [.func yf ya yc] 218) :: bR b r :: Hc) sb ?_
   exact ⟨rfl, _, rfl, hJ⟩
  ·
   refine QQ (vnot rfl) rfl ?_
   refine QM ?_
   refine YN ?_
   refine YN ?_
   refine YY (vnes rfl rfl rfl rfl rfl rfl) rfl ?_
   refine YM ?_
   refine vsplitd (d := 27) rfl (fun h27 => ?_) (fun h27 => ?_)
   ·
    refine YL ?_
    refine YN ?_
    obtain ⟨p3, hps2⟩ := ends_at2 hxs (ne_of_l h27)
    refine vyes rfl rfl rfl (vxg (vcy rfl rfl (VY.b6 (hy _ _ _ hps2 _ hJ))) rfl rfl ?_)
    rintro _ _ ⟨bb2, rfl, Hc, rfl, hJ⟩
    rcases bb2 with _ | _
    ·
     refine YY (vnot rfl) rfl ?_
     refine YT ?_
     refine QU ?_
     refine vnil (vcondt rfl ?_)
     refine vroundI_ret (H' := (b1, blk [.func yf ya yc] 218) :: bR b r :: Hc) sb ?_
     exact ⟨rfl, _, rfl, hJ⟩
    ·
     refine YY (vnot rfl) rfl ?_
     refine YT ?_
     refine QU ?_
     refine vnil (vcondf rfl (vskip (vinblock ?_)))
     refine vroundI_end (H' := (b1, blk [.func yf ya yc] 218) :: bR b r :: Hc) sb ?_
     exact ⟨_, rfl, by rw [flat_snoc, show endL x = [⟨x.x, x.a⟩, ⟨x.x, x.b⟩] from if_neg (ne_of_l (by assumption))]; rw [List.append_assoc] at hJ; exact hJ⟩
   ·
    refine NO ?_
    refine NO ?_
    refine NO ?_
    refine NO ?_
    refine YU ?_
    refine QU ?_
    refine vnil (vcondf rfl (vskip (vinblock ?_)))
    refine vroundI_end (H' := (b1, blk [.func yf ya yc] 218) :: bR b r :: Hc) sb ?_
    exact ⟨_, rfl, by rw [flat_snoc, show endL x = [⟨x.x, x.a⟩] from if_pos (eq_of_l (by assumption))]; exact hJ⟩
 ·
  intro r1 H1 hI
  obtain ⟨Hc, rfl, hJ⟩ := hI
  change VRun _ _ _ _ _ _ _ ((r1, Obj.deferred (some [])) :: bR b2 r :: (b1, blk [.func yf ya yc] 218) :: bR b r :: Hc) _
  refine vinblock ?_
  refine vend (vret_mark (vr0 (H' := bR b r :: Hc) Tryz.func188 rfl  sb ?_))
  exact ⟨rfl, _, rfl, .inl hJ⟩
 ·
  intro r1 c H1 hI
  obtain ⟨rfl, Hc, rfl, hJ⟩ := hI
  change VRun _ _ _ _ _ _ _ ((r1, Obj.deferred (some [])) :: bR b2 r :: (b1, blk [.func yf ya yc] 218) :: bR b r :: Hc) _
  refine vret (vret_mark (vr0 (H' := bR b r :: Hc) Tryz.func188 rfl  sb ?_))
  exact ⟨rfl, _, rfl, .inr hJ⟩
end Go.Proofs.YtmfmecgiaekelaaGreatDoor
namespace Go.Proofs.YtmfmecgiaekelaaGreatDoor
open Go
set_option maxRecDepth 100000
theorem perm3 (A B C : Heap) : (A ++ (B ++ C)).Perm (B ++ (A ++ C)) := by
  rw [← List.append_assoc, ← List.append_assoc]; exact (List.perm_append_comm).append_right C
theorem perm4 (B A C : Heap) : (C ++ (B ++ A)).Perm (B ++ (A ++ C)) := by
  rw [← List.append_assoc B]; exact List.perm_append_comm
theorem oI {a b : Int} (h : a = b) : Out.val (I a) = Out.val (I b) := by rw [h]
theorem oV {a b : Value} (h : a = b) : Out.val a = Out.val b := by rw [h]
theorem oT {a b : List Value} (h : a = b) : Out.val (tup a) = Out.val (tup b) := by rw [h]
theorem VHas.fr1 {P : Program} {gf : FuncId} {al : List Value} {v : Value} {x1 y1 : Nat × Obj} {B : Heap} (h : VHas P gf al v [x1] [y1]) : VHas P gf al v (x1 :: B) (y1 :: B) := h.frame (B := B)
theorem VHas.fr2 {P : Program} {gf : FuncId} {al : List Value} {v : Value} {x1 x2 y1 y2 : Nat × Obj} {B : Heap} (h : VHas P gf al v [x1, x2] [y1, y2]) : VHas P gf al v (x1 :: x2 :: B) (y1 :: y2 :: B) := h.frame (B := B)
theorem VHas.fr3 {P : Program} {gf : FuncId} {al : List Value} {v : Value} {x1 x2 x3 y1 y2 y3 : Nat × Obj} {B : Heap} (h : VHas P gf al v [x1, x2, x3] [y1, y2, y3]) : VHas P gf al v (x1 :: x2 :: x3 :: B) (y1 :: y2 :: y3 :: B) := h.frame (B := B)
theorem c_of (p : Pt) (h : p.sm 1099511627776) : VPure Tryz.prog 186 [vP p] (vR (ofP p)) := c_region_of p.x p.y (by unfold Pt.sm at h; unfold InR; omega) (by unfold Pt.sm at h; unfold InR; omega)
theorem c_span4 (a b : Rg) : VPure Tryz.prog 157 [vR a, vR b, fnv 187] (vR (a.map2 Bd.span b)) :=
  c_region_four_combined _ _ _ _ _ _ _ _ _ _ _ _ _ _ _ _ _ _ _ _ _ _ _ _ _ (c_region_span _ _ _ _) (c_region_span _ _ _ _) (c_region_span _ _ _ _) (c_region_span _ _ _ _)
theorem c_cut4 (a b : Rg) : VPure Tryz.prog 157 [vR a, vR b, fnv 197] (vR (a.map2 Bd.cut b)) :=
  c_region_four_combined _ _ _ _ _ _ _ _ _ _ _ _ _ _ _ _ _ _ _ _ _ _ _ _ _ (c_region_cut _ _ _ _) (c_region_cut _ _ _ _) (c_region_cut _ _ _ _) (c_region_cut _ _ _ _)
theorem c_plus4 (a b : Rg) (ha : a.sm 1099511627776) (hb : b.sm 1099511627776) : VPure Tryz.prog 157 [vR a, vR b, fnv 190] (vR (a.map2 Bd.plus b)) := by
  unfold Rg.sm Bd.sm at ha hb
  exact c_region_four_combined _ _ _ _ _ _ _ _ _ _ _ _ _ _ _ _ _ _ _ _ _ _ _ _ _ (c_region_plus _ _ _ _ (by unfold InR; omega) (by unfold InR; omega)) (c_region_plus _ _ _ _ (by unfold InR; omega) (by unfold InR; omega)) (c_region_plus _ _ _ _ (by unfold InR; omega) (by unfold InR; omega)) (c_region_plus _ _ _ _ (by unfold InR; omega) (by unfold InR; omega))
theorem c_minus4 (a b : Rg) (ha : a.sm 1099511627776) (hb : b.sm 1099511627776) : VPure Tryz.prog 157 [vR a, vR b, fnv 158] (vR (a.map2 Bd.minus b)) := by
  unfold Rg.sm Bd.sm at ha hb
  exact c_region_four_combined _ _ _ _ _ _ _ _ _ _ _ _ _ _ _ _ _ _ _ _ _ _ _ _ _ (c_region_minus _ _ _ _ (by unfold InR; omega) (by unfold InR; omega)) (c_region_minus _ _ _ _ (by unfold InR; omega) (by unfold InR; omega)) (c_region_minus _ _ _ _ (by unfold InR; omega) (by unfold InR; omega)) (c_region_minus _ _ _ _ (by unfold InR; omega) (by unfold InR; omega))
theorem c_region_Check (r : Rg) : VPure Tryz.prog 134 [vR r] (I (chkR r)) := by
 intro H
 refine CV 24 Tryz.func134 ?_
 refine KK2 ?_
 refine BX fun b1 => ?_
 refine QA ?_
 refine KK3 ?_
 refine QQ (vmff rfl rfl) rfl ?_
 refine QQ (vmff rfl rfl) rfl ?_
 refine QQ (vmff rfl rfl) rfl ?_
 refine QQ (vmff rfl rfl) rfl ?_
 refine QB ?_
 refine AL fun b2 => ?_
 refine SN ?_
 refine vnil (vseq (KK2 ?_))
 refine QN ?_
 refine QQ (vcp rfl rfl rfl (c_region_bounds _ _ _ _ _ _ _ _)) rfl ?_
 refine QM ?_
 refine vnil (vblock ?_)
 refine vloop1 ?_
 refine KK2 ?_
 refine QS ?_
 refine vnil (vseq (vcondt rfl (vskip (vseq (vblock (KK2 ?_))))))
 refine QM ?_
 refine QQ (vixan rfl rfl (by omega) rfl) rfl ?_
 refine AL fun b3 => ?_
 refine QA ?_
 refine SN ?_
 refine vnil (vseq ?_)
 refine DR [(.q, 0), (.q, 1), (.q, 2), (.q, 3), (.q, 4), (.q, 5)] Tryz.mixed ?_
 refine DM ?_
 refine DD (via rfl rfl (by omega)) rfl ?_
 refine DL ?_
 refine DN ?_
 refine DD (vcpf rfl rfl rfl (c_region_limit_fits _ _ _ (by omega))) rfl ?_
 refine DD (vnotd rfl) rfl ?_
 refine vdend rfl ?_
 refine vcondd rfl (fun h22 => ?_) (fun h22 => ?_)
 ·
  refine KK2 ?_
  refine QA ?_
  refine vnil ?_
  refine vret (V1 (H) Tryz.func134 ?_)
  exact ⟨oI (chkR_no (by unfold Rg.ok Bd.fits; omega)).symm, rfl⟩
 ·
  refine vskip (vinblock (vregion ?_))
  refine QQ (vadd rfl rfl (by unfold InR; omega)) rfl ?_
  refine QM ?_
  refine vnil ?_
  refine vinloop1 ?_
  refine KK2 ?_
  refine QS ?_
  refine vnil (vseq (vcondt rfl (vskip (vseq (vblock (KK2 ?_))))))
  refine QM ?_
  refine QQ (vixan rfl rfl (by omega) rfl) rfl ?_
  refine AL fun b4 => ?_
  refine QA ?_
  refine SN ?_
  refine vnil (vseq ?_)
  refine DR [(.q, 0), (.q, 1), (.q, 2), (.q, 3), (.q, 4), (.q, 5)] Tryz.mixed ?_
  refine DM ?_
  refine DD (via rfl rfl (by omega)) rfl ?_
  refine DL ?_
  refine DN ?_
  refine DD (vcpf rfl rfl rfl (c_region_limit_fits _ _ _ (by omega))) rfl ?_
  refine DD (vnotd rfl) rfl ?_
  refine vdend rfl ?_
  refine vcondd rfl (fun h22 => ?_) (fun h22 => ?_)
  ·
   refine KK2 ?_
   refine QA ?_
   refine vnil ?_
   refine vret (V1 (H) Tryz.func134 ?_)
   exact ⟨oI (chkR_no (by unfold Rg.ok Bd.fits; omega)).symm, rfl⟩
  ·
   refine vskip (vinblock (vregion ?_))
   refine QQ (vadd rfl rfl (by unfold InR; omega)) rfl ?_
   refine QM ?_
   refine vnil ?_
   refine vinloop1 ?_
   refine KK2 ?_
   refine QS ?_
   refine vnil (vseq (vcondt rfl (vskip (vseq (vblock (KK2 ?_))))))
   refine QM ?_
   refine QQ (vixan rfl rfl (by omega) rfl) rfl ?_
   refine AL fun b5 => ?_
   refine QA ?_
   refine SN ?_
   refine vnil (vseq ?_)
   refine DR [(.q, 0), (.q, 1), (.q, 2), (.q, 3), (.q, 4), (.q, 5)] Tryz.mixed ?_
   refine DM ?_
   refine DD (via rfl rfl (by omega)) rfl ?_
   refine DL ?_
   refine DN ?_
   refine DD (vcpf rfl rfl rfl (c_region_limit_fits _ _ _ (by omega))) rfl ?_
   refine DD (vnotd rfl) rfl ?_
   refine vdend rfl ?_
   refine vcondd rfl (fun h22 => ?_) (fun h22 => ?_)
   ·
    refine KK2 ?_
    refine QA ?_
    refine vnil ?_
    refine vret (V1 (H) Tryz.func134 ?_)
    exact ⟨oI (chkR_no (by unfold Rg.ok Bd.fits; omega)).symm, rfl⟩
   ·
    refine vskip (vinblock (vregion ?_))
    refine QQ (vadd rfl rfl (by unfold InR; omega)) rfl ?_
    refine QM ?_
    refine vnil ?_
    refine vinloop1 ?_
    refine KK2 ?_
    refine QS ?_
    refine vnil (vseq (vcondt rfl (vskip (vseq (vblock (KK2 ?_))))))
    refine QM ?_
    refine QQ (vixan rfl rfl (by omega) rfl) rfl ?_
    refine AL fun b6 => ?_
    refine QA ?_
    refine SN ?_
    refine vnil (vseq ?_)
    refine DR [(.q, 0), (.q, 1), (.q, 2), (.q, 3), (.q, 4), (.q, 5)] Tryz.mixed ?_
    refine DM ?_
    refine DD (via rfl rfl (by omega)) rfl ?_
    refine DL ?_
    refine DN ?_
    refine DD (vcpf rfl rfl rfl (c_region_limit_fits _ _ _ (by omega))) rfl ?_
    refine DD (vnotd rfl) rfl ?_
    refine vdend rfl ?_
    refine vcondd rfl (fun h22 => ?_) (fun h22 => ?_)
    ·
     refine KK2 ?_
     refine QA ?_
     refine vnil ?_
     refine vret (V1 (H) Tryz.func134 ?_)
     exact ⟨oI (chkR_no (by unfold Rg.ok Bd.fits; omega)).symm, rfl⟩
    ·
     refine vskip (vinblock (vregion ?_))
     refine QQ (vadd rfl rfl (by unfold InR; omega)) rfl ?_
     refine QM ?_
     refine vnil ?_
     refine vinloop1 ?_
     refine KK2 ?_
     refine QS ?_
     refine vnil (vseq (vcondf rfl ?_))
     refine vexit (k' := _) rfl ?_
     refine KK2 ?_
     refine QA ?_
     refine vnil ?_
     refine vret (V1 (H) Tryz.func134 ?_)
     exact ⟨oI (chkR_ok (by unfold Rg.ok Bd.fits; omega)).symm, rfl⟩
theorem c_region_CheckPoint (p : Pt) : VPure Tryz.prog 8 [vP p] (I (chkP p)) := by
 intro H
 refine CV 18 Tryz.func8 ?_
 refine KK2 ?_
 refine BX fun b1 => ?_
 refine QA ?_
 refine vnil (vseq (KK2 ?_))
 refine QF ?_
 refine QL ?_
 refine QF ?_
 refine QL ?_
 refine QB ?_
 refine QM ?_
 refine vnil (vblock ?_)
 refine vloop1 ?_
 refine KK2 ?_
 refine QS ?_
 refine vnil (vseq (vcondt rfl (vskip (vseq (vblock (KK2 ?_))))))
 refine QQ (vixa1 rfl rfl (by omega) rfl) rfl ?_
 refine QA ?_
 refine KK3 ?_
 refine QM ?_
 refine QQ (vcp rfl rfl rfl (c_region_limit_into _ _ (by omega))) rfl ?_
 refine QM ?_
 refine QG ?_
 refine vnil ?_
 refine vcondd rfl (fun h16 => ?_) (fun h16 => ?_)
 ·
  refine KK2 ?_
  refine QA ?_
  refine vnil ?_
  refine vret (V1 (H) Tryz.func8 ?_)
  exact ⟨oI (chkP_no (by unfold Pt.ok; omega)).symm, rfl⟩
 ·
  refine vskip (vinblock (vregion ?_))
  refine QQ (vadd rfl rfl (by unfold InR; omega)) rfl ?_
  refine QM ?_
  refine vnil ?_
  refine vinloop1 ?_
  refine KK2 ?_
  refine QS ?_
  refine vnil (vseq (vcondt rfl (vskip (vseq (vblock (KK2 ?_))))))
  refine QQ (vixa1 rfl rfl (by omega) rfl) rfl ?_
  refine QA ?_
  refine KK3 ?_
  refine QM ?_
  refine QQ (vcp rfl rfl rfl (c_region_limit_into _ _ (by omega))) rfl ?_
  refine QM ?_
  refine QG ?_
  refine vnil ?_
  refine vcondd rfl (fun h16 => ?_) (fun h16 => ?_)
  ·
   refine KK2 ?_
   refine QA ?_
   refine vnil ?_
   refine vret (V1 (H) Tryz.func8 ?_)
   exact ⟨oI (chkP_no (by unfold Pt.ok; omega)).symm, rfl⟩
  ·
   refine vskip (vinblock (vregion ?_))
   refine QQ (vadd rfl rfl (by unfold InR; omega)) rfl ?_
   refine QM ?_
   refine vnil ?_
   refine vinloop1 ?_
   refine KK2 ?_
   refine QS ?_
   refine vnil (vseq (vcondf rfl ?_))
   refine vexit (k' := _) rfl ?_
   refine KK2 ?_
   refine QA ?_
   refine vnil ?_
   refine vret (V1 (H) Tryz.func8 ?_)
   exact ⟨oI (chkP_zero.2 (by unfold Pt.ok; omega)).symm, rfl⟩
theorem hull_eqN {pre : List Pt} {x : Pt} (h : (!(hullP pre).isSome) = true) : hullP (pre ++ [x]) = some ((ofP x).map2 Bd.span (ofP x)) := by
  rw [hullP_snoc, optN h]; rfl
theorem hull_eqS {pre : List Pt} {x : Pt} (h : (!(hullP pre).isSome) = false) : hullP (pre ++ [x]) = some (((hullP pre).getD zR).map2 Bd.span (ofP x)) := by
  obtain ⟨g, hg⟩ := optS h
  rw [hullP_snoc, hg]; rfl
theorem h_hull1 {kf : FuncId} [TFn Tryz.prog kf] {caps : List Value} {Hi : Heap} {xs : List Pt} (hit : VIt Tryz.prog kf caps (fun p => [vP p]) xs Hi) (hsm : ∀ p ∈ xs, p.sm 1099511627776) (bs : Nat) : VHas Tryz.prog 161 [.slice (some ⟨bs, 0, Option.none⟩) 1 1] (tup [vR ((hullP xs).getD zR), .bool (hullP xs).isSome]) ((bs, blk [.func (.func kf) #[] caps.toArray] 298) :: Hi) ((bs, blk [.func (.func kf) #[] caps.toArray] 298) :: Hi) := by
 refine CV 26 Tryz.func161 ?_
 refine KK2 ?_
 refine AL fun b1 => ?_
 refine AL fun b2 => ?_
 refine vnil (vseq (KK2 ?_))
 refine QM ?_
 refine QQ (vlen rfl) rfl ?_
 refine QM ?_
 refine vnil (vblock ?_)
 refine vloop1 ?_
 refine KK2 ?_
 refine QS ?_
 refine vnil (vseq (vcondt rfl (vskip (vseq (vblock (KK2 ?_))))))
 refine QQ (vis rfl rfl (by omega)) rfl ?_
 refine QL ?_
 refine QA ?_
 refine KK3 ?_
 refine QM ?_
 refine vnil (vblock ?_)
 refine vrange (enc := (fun p => [vP p])) (xs := xs) (caps := caps) (Hi := Hi) (Hc := [(b2, blk [.bool (hullP []).isSome] 4), (b1, blk (clR ((hullP []).getD zR)) 257), (bs, blk [.func (.func kf) #[] caps.toArray] 298)]) (ps := [14]) (fun pre H1 => H1 = [(b2, blk [.bool (hullP pre).isSome] 4), (b1, blk (clR ((hullP pre).getD zR)) 257), (bs, blk [.func (.func kf) #[] caps.toArray] 298)]) (fun _ _ => False) rfl (hit) (List.perm_append_comm (l₁ := [(b2, blk [.bool (hullP []).isSome] 4), (b1, blk (clR ((hullP []).getD zR)) 257), (bs, blk [.func (.func kf) #[] caps.toArray] 298)])) rfl (fun _ => rfl) rfl ?_ ?_ ?_
 ·
  intro lpa reca prea xa posta H1a hrsa hxsa hIa
  subst hIa
  have hsx := hsm xa (by rw [hxsa]; simp)
  refine vregion ?_
  refine AL fun b3 => ?_
  refine SN ?_
  refine vnil ?_
  refine vbegin hrsa ?_
  refine vblock (vseq (KK2 ?_))
  refine QL ?_
  refine QQ (vnot rfl) rfl ?_
  refine vnil ?_
  refine vcond rfl (fun h16 => ?_) (fun h16 => ?_)
  ·
   refine vregion ?_
   refine QN ?_
   refine QQ (vcp rfl rfl rfl (c_of xa hsx)) rfl ?_
   refine SN ?_
   refine SU ?_
   refine vnil ?_
   refine DR [(.q, 0), (.q, 1), (.q, 2), (.q, 3), (.c, 4)] Tryz.mixed ?_
   refine DN ?_
   refine DN ?_
   refine DD (vcp rfl rfl rfl (c_of xa hsx)) rfl ?_
   refine DD (vcp rfl rfl rfl (c_span4 ⟨⟨_, _⟩, ⟨_, _⟩, ⟨_, _⟩, ⟨_, _⟩⟩ ⟨⟨_, _⟩, ⟨_, _⟩, ⟨_, _⟩, ⟨_, _⟩⟩)) rfl ?_
   refine vdcs (mone rfl) (vstn rfl rfl rfl rfl rfl) rfl ?_
   refine vdend rfl (vinblock ?_)
   refine vroundI_end (H' := [(b2, _), (b1, _), (bs, _)]) sb ?_
   (rw [hull_eqN h16]; rfl)
  ·
   refine vskip ?_
   refine DR [(.q, 0), (.q, 1), (.q, 2), (.q, 3), (.c, 4)] Tryz.mixed ?_
   refine DN ?_
   refine DN ?_
   refine DD (vcp rfl rfl rfl (c_of xa hsx)) rfl ?_
   refine DD (vcp rfl rfl rfl (c_span4 ⟨⟨_, _⟩, ⟨_, _⟩, ⟨_, _⟩, ⟨_, _⟩⟩ ⟨⟨_, _⟩, ⟨_, _⟩, ⟨_, _⟩, ⟨_, _⟩⟩)) rfl ?_
   refine vdcs (mone rfl) (vstn rfl rfl rfl rfl rfl) rfl ?_
   refine vdend rfl (vinblock ?_)
   refine vroundI_end (H' := [(b2, _), (b1, _), (bs, _)]) sb ?_
   (have he := hull_eqS (x := xa) h16; obtain ⟨gg, hg⟩ := optS h16; rw [he, hg]; rfl)
 ·
  intro r1a H1a hIa
  subst hIa
  refine VRun.perm (H' := (r1a, Obj.deferred (some [])) :: (b2, blk [.bool (hullP xs).isSome] 4) :: (b1, blk (clR ((hullP xs).getD zR)) 257) :: (bs, blk [.func (.func kf) #[] caps.toArray] 298) :: Hi) ((List.perm_append_comm).cons _) ?_
  refine vinblock (vinblock (vregion ?_))
  refine QQ (vadd rfl rfl (by unfold InR; omega)) rfl ?_
  refine QM ?_
  refine vnil ?_
  refine vinloop1 ?_
  refine KK2 ?_
  refine QS ?_
  refine vnil (vseq (vcondf rfl ?_))
  refine vexit (k' := _) rfl ?_
  refine vseq ?_
  refine DR [(.q, 0), (.q, 1), (.q, 2), (.q, 3)] Tryz.mixed ?_
  refine DN ?_
  refine DL ?_
  refine vdqn (mone rfl) (vstns rfl rfl rfl rfl rfl) rfl ?_
  refine vdqn (mone rfl) (vst1s rfl rfl rfl rfl) rfl ?_
  refine vdend rfl ?_
  refine vret (vret_mark (vr2 (H' := (bs, blk [.func (.func kf) #[] caps.toArray] 298) :: Hi) Tryz.func161 rfl (.celln rfl rfl) (.cell1 rfl rfl) sb ?_))
  exact ⟨rfl, rfl⟩
 ·
  intro r1a ca H1a hIa
  exact hIa.elim
theorem h_hull2 {kf kf2 : FuncId} [TFn Tryz.prog kf] [TFn Tryz.prog kf2] {caps caps2 : List Value} {Hi Hi2 : Heap} {xs ys : List Pt} (hit : VIt Tryz.prog kf caps (fun p => [vP p]) xs Hi) (hit2 : VIt Tryz.prog kf2 caps2 (fun p => [vP p]) ys Hi2) (hsm : ∀ p ∈ xs, p.sm 1099511627776) (hsm2 : ∀ p ∈ ys, p.sm 1099511627776) (bs : Nat) : VHas Tryz.prog 161 [.slice (some ⟨bs, 0, Option.none⟩) 2 2] (tup [vR ((hullP (xs ++ ys)).getD zR), .bool (hullP (xs ++ ys)).isSome]) ((bs, blk [.func (.func kf) #[] caps.toArray, .func (.func kf2) #[] caps2.toArray] 298) :: (Hi ++ Hi2)) ((bs, blk [.func (.func kf) #[] caps.toArray, .func (.func kf2) #[] caps2.toArray] 298) :: (Hi ++ Hi2)) := by
 refine CV 26 Tryz.func161 ?_
 refine KK2 ?_
 refine AL fun b1 => ?_
 refine AL fun b2 => ?_
 refine vnil (vseq (KK2 ?_))
 refine QM ?_
 refine QQ (vlen rfl) rfl ?_
 refine QM ?_
 refine vnil (vblock ?_)
 refine vloop1 ?_
 refine KK2 ?_
 refine QS ?_
 refine vnil (vseq (vcondt rfl (vskip (vseq (vblock (KK2 ?_))))))
 refine QQ (vis rfl rfl (by omega)) rfl ?_
 refine QL ?_
 refine QA ?_
 refine KK3 ?_
 refine QM ?_
 refine vnil (vblock ?_)
 refine vrange (enc := (fun p => [vP p])) (xs := xs) (caps := caps) (Hi := Hi) (Hc := ([(b2, blk [.bool (hullP []).isSome] 4), (b1, blk (clR ((hullP []).getD zR)) 257), (bs, blk [.func (.func kf) #[] caps.toArray, .func (.func kf2) #[] caps2.toArray] 298)] ++ Hi2)) (ps := [14]) (fun pre H1 => H1 = [(b2, blk [.bool (hullP pre).isSome] 4), (b1, blk (clR ((hullP pre).getD zR)) 257), (bs, blk [.func (.func kf) #[] caps.toArray, .func (.func kf2) #[] caps2.toArray] 298)] ++ Hi2) (fun _ _ => False) rfl (hit) (perm3 Hi [(b2, blk [.bool (hullP []).isSome] 4), (b1, blk (clR ((hullP []).getD zR)) 257), (bs, blk [.func (.func kf) #[] caps.toArray, .func (.func kf2) #[] caps2.toArray] 298)] Hi2).symm rfl (fun _ => rfl) rfl ?_ ?_ ?_
 ·
  intro lpa reca prea xa posta H1a hrsa hxsa hIa
  subst hIa
  have hsx := hsm xa (by rw [hxsa]; simp)
  change VRun _ _ _ _ _ _ _ ((lpa, Obj.loop reca) :: (b2, blk [.bool (hullP prea).isSome] 4) :: (b1, blk (clR ((hullP prea).getD zR)) 257) :: (bs, blk [.func (.func kf) #[] caps.toArray, .func (.func kf2) #[] caps2.toArray] 298) :: Hi2) _
  refine vregion ?_
  refine AL fun b3 => ?_
  refine SN ?_
  refine vnil ?_
  refine vbegin hrsa ?_
  refine vblock (vseq (KK2 ?_))
  refine QL ?_
  refine QQ (vnot rfl) rfl ?_
  refine vnil ?_
  refine vcond rfl (fun h16 => ?_) (fun h16 => ?_)
  ·
   refine vregion ?_
   refine QN ?_
   refine QQ (vcp rfl rfl rfl (c_of _ hsx)) rfl ?_
   refine SN ?_
   refine SU ?_
   refine vnil ?_
   refine DR [(.q, 0), (.q, 1), (.q, 2), (.q, 3), (.c, 4)] Tryz.mixed ?_
   refine DN ?_
   refine DN ?_
   refine DD (vcp rfl rfl rfl (c_of _ hsx)) rfl ?_
   refine DD (vcp rfl rfl rfl (c_span4 ⟨⟨_, _⟩, ⟨_, _⟩, ⟨_, _⟩, ⟨_, _⟩⟩ ⟨⟨_, _⟩, ⟨_, _⟩, ⟨_, _⟩, ⟨_, _⟩⟩)) rfl ?_
   refine vdcs (mone rfl) (vstn rfl rfl rfl rfl rfl) rfl ?_
   refine vdend rfl (vinblock ?_)
   refine vroundI_end (H' := (b2, _) :: (b1, _) :: (bs, _) :: Hi2) sb ?_
   (rw [hull_eqN h16]; rfl)
  ·
   refine vskip ?_
   refine DR [(.q, 0), (.q, 1), (.q, 2), (.q, 3), (.c, 4)] Tryz.mixed ?_
   refine DN ?_
   refine DN ?_
   refine DD (vcp rfl rfl rfl (c_of _ hsx)) rfl ?_
   refine DD (vcp rfl rfl rfl (c_span4 ⟨⟨_, _⟩, ⟨_, _⟩, ⟨_, _⟩, ⟨_, _⟩⟩ ⟨⟨_, _⟩, ⟨_, _⟩, ⟨_, _⟩, ⟨_, _⟩⟩)) rfl ?_
   refine vdcs (mone rfl) (vstn rfl rfl rfl rfl rfl) rfl ?_
   refine vdend rfl (vinblock ?_)
   refine vroundI_end (H' := (b2, _) :: (b1, _) :: (bs, _) :: Hi2) sb ?_
   (have he := hull_eqS (x := xa) h16; obtain ⟨gg, hg⟩ := optS h16; rw [he, hg]; rfl)
 ·
  intro r1a H1a hIa
  subst hIa
  refine VRun.perm (H' := (r1a, Obj.deferred (some [])) :: (b2, blk [.bool (hullP xs).isSome] 4) :: (b1, blk (clR ((hullP xs).getD zR)) 257) :: (bs, blk [.func (.func kf) #[] caps.toArray, .func (.func kf2) #[] caps2.toArray] 298) :: (Hi ++ Hi2)) ((perm3 Hi _ Hi2).cons _) ?_
  refine vinblock (vinblock (vregion ?_))
  refine QQ (vadd rfl rfl (by unfold InR; omega)) rfl ?_
  refine QM ?_
  refine vnil ?_
  refine vinloop1 ?_
  refine KK2 ?_
  refine QS ?_
  refine vnil (vseq (vcondt rfl (vskip (vseq (vblock (KK2 ?_))))))
  refine QQ (vis rfl rfl (by omega)) rfl ?_
  refine QL ?_
  refine QA ?_
  refine KK3 ?_
  refine QM ?_
  refine vnil (vblock ?_)
  refine vrange (enc := (fun p => [vP p])) (xs := ys) (caps := caps2) (Hi := Hi2) (Hc := ((r1a, Obj.deferred (some [])) :: (b2, blk [.bool (hullP xs).isSome] 4) :: (b1, blk (clR ((hullP xs).getD zR)) 257) :: (bs, blk [.func (.func kf) #[] caps.toArray, .func (.func kf2) #[] caps2.toArray] 298) :: Hi)) (ps := [14]) (fun pre H1 => H1 = (r1a, Obj.deferred (some [])) :: (b2, blk [.bool (hullP (xs ++ pre)).isSome] 4) :: (b1, blk (clR ((hullP (xs ++ pre)).getD zR)) 257) :: (bs, blk [.func (.func kf) #[] caps.toArray, .func (.func kf2) #[] caps2.toArray] 298) :: Hi) (fun _ _ => False) rfl (hit2) (perm4 ((r1a, Obj.deferred (some [])) :: [(b2, blk [.bool (hullP xs).isSome] 4), (b1, blk (clR ((hullP xs).getD zR)) 257), (bs, blk [.func (.func kf) #[] caps.toArray, .func (.func kf2) #[] caps2.toArray] 298)]) Hi Hi2).symm (by rw [List.append_nil]) (fun _ => rfl) rfl ?_ ?_ ?_
  ·
   intro lpb recb preb xb postb H1b hrsb hxsb hIb
   subst hIb
   have hsx := hsm2 xb (by rw [hxsb]; simp)
   refine vregion ?_
   refine AL fun b4 => ?_
   refine SN ?_
   refine vnil ?_
   refine vbegin hrsb ?_
   refine vblock (vseq (KK2 ?_))
   refine QL ?_
   refine QQ (vnot rfl) rfl ?_
   refine vnil ?_
   refine vcond rfl (fun h16 => ?_) (fun h16 => ?_)
   ·
    refine vregion ?_
    refine QN ?_
    refine QQ (vcp rfl rfl rfl (c_of _ hsx)) rfl ?_
    refine SN ?_
    refine SU ?_
    refine vnil ?_
    refine DR [(.q, 0), (.q, 1), (.q, 2), (.q, 3), (.c, 4)] Tryz.mixed ?_
    refine DN ?_
    refine DN ?_
    refine DD (vcp rfl rfl rfl (c_of _ hsx)) rfl ?_
    refine DD (vcp rfl rfl rfl (c_span4 ⟨⟨_, _⟩, ⟨_, _⟩, ⟨_, _⟩, ⟨_, _⟩⟩ ⟨⟨_, _⟩, ⟨_, _⟩, ⟨_, _⟩, ⟨_, _⟩⟩)) rfl ?_
    refine vdcs (mone rfl) (vstn rfl rfl rfl rfl rfl) rfl ?_
    refine vdend rfl (vinblock ?_)
    refine vroundI_end (H' := (r1a, Obj.deferred (some [])) :: (b2, _) :: (b1, _) :: (bs, _) :: Hi) sb ?_
    (rw [← List.append_assoc, hull_eqN h16]; rfl)
   ·
    refine vskip ?_
    refine DR [(.q, 0), (.q, 1), (.q, 2), (.q, 3), (.c, 4)] Tryz.mixed ?_
    refine DN ?_
    refine DN ?_
    refine DD (vcp rfl rfl rfl (c_of _ hsx)) rfl ?_
    refine DD (vcp rfl rfl rfl (c_span4 ⟨⟨_, _⟩, ⟨_, _⟩, ⟨_, _⟩, ⟨_, _⟩⟩ ⟨⟨_, _⟩, ⟨_, _⟩, ⟨_, _⟩, ⟨_, _⟩⟩)) rfl ?_
    refine vdcs (mone rfl) (vstn rfl rfl rfl rfl rfl) rfl ?_
    refine vdend rfl (vinblock ?_)
    refine vroundI_end (H' := (r1a, Obj.deferred (some [])) :: (b2, _) :: (b1, _) :: (bs, _) :: Hi) sb ?_
    (have he := hull_eqS (x := xb) h16; obtain ⟨gg, hg⟩ := optS h16; rw [← List.append_assoc, he, hg]; rfl)
  ·
   intro r1b H1b hIb
   subst hIb
   refine VRun.perm (H' := (r1b, Obj.deferred (some [])) :: (r1a, Obj.deferred (some [])) :: (b2, blk [.bool (hullP (xs ++ ys)).isSome] 4) :: (b1, blk (clR ((hullP (xs ++ ys)).getD zR)) 257) :: (bs, blk [.func (.func kf) #[] caps.toArray, .func (.func kf2) #[] caps2.toArray] 298) :: (Hi ++ Hi2)) ((perm4 ((r1a, Obj.deferred (some [])) :: [(b2, blk [.bool (hullP (xs ++ ys)).isSome] 4), (b1, blk (clR ((hullP (xs ++ ys)).getD zR)) 257), (bs, blk [.func (.func kf) #[] caps.toArray, .func (.func kf2) #[] caps2.toArray] 298)]) Hi Hi2).cons _) ?_
   refine vinblock (vinblock (vregion ?_))
   refine QQ (vadd rfl rfl (by unfold InR; omega)) rfl ?_
   refine QM ?_
   refine vnil ?_
   refine vinloop1 ?_
   refine KK2 ?_
   refine QS ?_
   refine vnil (vseq (vcondf rfl ?_))
   refine vexit (k' := _) rfl ?_
   refine vseq ?_
   refine DR [(.q, 0), (.q, 1), (.q, 2), (.q, 3)] Tryz.mixed ?_
   refine DN ?_
   refine DL ?_
   refine vdqn (mone rfl) (vstns rfl rfl rfl rfl rfl) rfl ?_
   refine vdqn (mone rfl) (vst1s rfl rfl rfl rfl) rfl ?_
   refine vdend rfl ?_
   refine vret (vret_mark (vret_mark (vr2 (H' := (bs, blk [.func (.func kf) #[] caps.toArray, .func (.func kf2) #[] caps2.toArray] 298) :: (Hi ++ Hi2)) Tryz.func161 rfl (.celln rfl rfl) (.cell1 rfl rfl) sb ?_)))
   exact ⟨rfl, rfl⟩
  ·
   intro r1b cb H1b hIb
   exact hIb.elim
 ·
  intro r1a ca H1a hIa
  exact hIa.elim
theorem optE_n {h : Option Rg} (e : h = none) : optE h = (zR, 4) := by subst e; rfl
theorem optE_s {h : Option Rg} {g : Rg} (e : h = some g) : optE h = (g, 0) := by subst e; rfl
theorem c_tight (r : Rg) (hs : r.sm 1099511627776) : VPure Tryz.prog 137 [vR r] (tup [vR (optE (tightP r)).1, I (optE (tightP r)).2]) := by
 intro H
 refine CV 17 Tryz.func137 ?_
 refine KK2 ?_
 refine BX fun b1 => ?_
 refine AL fun b2 => ?_
 refine QA ?_
 refine KK3 ?_
 refine QN ?_
 refine vone rfl (vxg (vcnew rfl rfl rfl (n_ends _)) rfl rfl ?_)
 rintro _ _ ⟨b3, rfl, rfl⟩
 refine vone rfl (vxg (vbs rfl rfl rfl rfl rfl rfl) rfl rfl ?_)
 rintro _ _ ⟨b4, rfl, rfl⟩
 refine QQ (vcq rfl rfl rfl ((h_hull1 (it_ends r hs b3) (fun p hp => ends_sm hs hp) b4).fr2)) rfl ?_
 refine QM ?_
 refine QX ?_
 refine QX ?_
 refine AL fun b5 => ?_
 refine SN ?_
 refine QA ?_
 refine vnil (vseq (KK2 ?_))
 refine QM ?_
 refine QQ (vnot rfl) rfl ?_
 refine vnil ?_
 refine vcond rfl (fun h14 => ?_) (fun h14 => ?_)
 ·
  refine KK2 ?_
  refine QB ?_
  refine SN ?_
  refine QA ?_
  refine vnil ?_
  refine vret (vr2 (H' := H) Tryz.func137 rfl (.celln rfl rfl) (.tmp rfl) sb ?_)
  (have hh := optN (h := tightP r) h14; rw [optE_n hh]; exact ⟨rfl, rfl⟩)
 ·
  refine vskip (KK2 ?_)
  refine QN ?_
  refine SN ?_
  refine QA ?_
  refine vnil ?_
  refine vret (vr2 (H' := H) Tryz.func137 rfl (.celln rfl rfl) (.tmp rfl) sb ?_)
  (obtain ⟨gg, hh⟩ := optS (h := tightP r) h14; rw [optE_s hh, show hullP (endsOf r) = _ from hh]; exact ⟨rfl, rfl⟩)
theorem c_done (r : Rg) (e : Int) : VPure Tryz.prog 135 [vR r, I e] (tup [vR (if e = 0 then r else zR), I e]) := by
 intro H
 refine CV 12 Tryz.func135 ?_
 refine KK2 ?_
 refine BX fun b1 => ?_
 refine AL fun b2 => ?_
 refine QA ?_
 refine vnil (vseq (KK2 ?_))
 refine QM ?_
 refine QG ?_
 refine vnil ?_
 refine vcondd rfl (fun h7 => ?_) (fun h7 => ?_)
 ·
  refine KK2 ?_
  refine QB ?_
  refine QM ?_
  refine SN ?_
  refine QA ?_
  refine vnil ?_
  refine vret (vr2 (H' := H) Tryz.func135 rfl (.celln rfl rfl) (.tmp rfl) sb ?_)
  (rw [if_neg h7]; exact ⟨rfl, rfl⟩)
 ·
  refine vskip (KK2 ?_)
  refine QN ?_
  refine QQ (vcp rfl rfl rfl (c_region_four_region _ _ _ _ _ _ _ _)) rfl ?_
  refine SN ?_
  refine QA ?_
  refine vnil ?_
  refine vret (vr2 (H' := H) Tryz.func135 rfl (.celln rfl rfl) (.tmp rfl) sb ?_)
  (have h7 := Classical.not_not.1 h7; subst h7; exact ⟨rfl, rfl⟩)
theorem optE_if (h : Option Rg) : (if (optE h).2 = 0 then (optE h).1 else zR) = (optE h).1 := by
  cases h <;> rfl
end Go.Proofs.YtmfmecgiaekelaaGreatDoor
namespace Go.Proofs.YtmfmecgiaekelaaGreatDoor
open Go
set_option maxRecDepth 100000
theorem tightE_no {r : Rg} (h : ¬ r.ok) : tightE r = (zR, chkR r) := by rw [tightE, if_neg h, chkR_no h]
theorem tightE_ok {r : Rg} (h : ¬ chkR r ≠ 0) : tightE r = optE (tightP r) := if_pos (chkR_zero.1 (Classical.not_not.1 h))
theorem ok_of {r : Rg} (h : ¬ chkR r ≠ 0) : r.ok := chkR_zero.1 (Classical.not_not.1 h)
theorem sm_of {r : Rg} (h : ¬ chkR r ≠ 0) : r.sm 1099511627776 := (ok_of h).sm.mono (by decide)
theorem c_Tight (r : Rg) : VPure Tryz.prog 100 [vR r] (tup [vR (tightE r).1, I (tightE r).2]) := by
 intro H
 refine CV 19 Tryz.func100 ?_
 refine KK2 ?_
 refine BX fun b1 => ?_
 refine AL fun b2 => ?_
 refine QA ?_
 refine vnil (vseq (KK2 ?_))
 refine QN ?_
 refine QQ (vcp rfl rfl rfl (c_region_Check ⟨⟨_, _⟩, ⟨_, _⟩, ⟨_, _⟩, ⟨_, _⟩⟩)) rfl ?_
 refine QA ?_
 refine KK3 ?_
 refine QM ?_
 refine QG ?_
 refine vnil ?_
 refine vcondd rfl (fun h8 => ?_) (fun h8 => ?_)
 ·
  refine KK2 ?_
  refine QB ?_
  refine QM ?_
  refine SN ?_
  refine QA ?_
  refine vnil ?_
  refine vret (vr2 (H' := H) Tryz.func100 rfl (.celln rfl rfl) (.tmp rfl) sb ?_)
  (rw [tightE_no (chkR_nz.1 h8)]; exact ⟨rfl, rfl⟩)
 ·
  refine vskip (KK2 ?_)
  refine QN ?_
  refine QQ (vcp rfl rfl rfl (c_region_bounds _ _ _ _ _ _ _ _)) rfl ?_
  refine QQ (vcp rfl rfl rfl (c_tight ⟨⟨_, _⟩, ⟨_, _⟩, ⟨_, _⟩, ⟨_, _⟩⟩ (sm_of h8))) rfl ?_
  refine QX ?_
  refine QX ?_
  refine QQ (vcp rfl rfl rfl ((c_done (optE (tightP r)).1 (optE (tightP r)).2).cong (by rw [optE_if]))) rfl ?_
  refine QX ?_
  refine QX ?_
  refine SN ?_
  refine QA ?_
  refine vnil ?_
  refine vret (vr2 (H' := H) Tryz.func100 rfl (.celln rfl rfl) (.tmp rfl) sb ?_)
  (rw [tightE_ok h8]; exact ⟨rfl, rfl⟩)
end Go.Proofs.YtmfmecgiaekelaaGreatDoor
namespace Go.Proofs.YtmfmecgiaekelaaGreatDoor
open Go
set_option maxRecDepth 100000
abbrev encP (p : Pt) : List Value := [I p.x, I p.y]
abbrev sli (oa : Option Addr) (n c : Nat) : Value := .slice oa n c
def fst2 (a b : Int) : Int := if a ≠ 0 then a else b
theorem h_first2 (a b : Int) (bs : Nat) : VHas Tryz.prog 165 [.slice (some ⟨bs, 0, Option.none⟩) 2 2] (I (fst2 a b)) ([(bs, blk [I a, I b] 45)]) ([(bs, blk [I a, I b] 45)]) := by
 refine CV 15 Tryz.func165 ?_
 refine KK2 ?_
 refine QA ?_
 refine vnil (vseq (KK2 ?_))
 refine QM ?_
 refine QQ (vlen rfl) rfl ?_
 refine QM ?_
 refine vnil (vblock ?_)
 refine vloop1 ?_
 refine KK2 ?_
 refine QS ?_
 refine vnil (vseq (vcondt rfl (vskip (vseq (vblock (KK2 ?_))))))
 refine QQ (vis rfl rfl (by omega)) rfl ?_
 refine QL ?_
 refine QA ?_
 refine KK3 ?_
 refine QM ?_
 refine QG ?_
 refine vnil ?_
 refine vcondd rfl (fun h12 => ?_) (fun h12 => ?_)
 ·
  refine KK2 ?_
  refine QM ?_
  refine QA ?_
  refine vnil ?_
  refine vret (V1 ([(bs, blk [I a, I b] 45)]) Tryz.func165 ?_)
  exact ⟨oI (by unfold fst2; split <;> omega), rfl⟩
 ·
  refine vskip (vinblock (vregion ?_))
  refine QQ (vadd rfl rfl (by unfold InR; omega)) rfl ?_
  refine QM ?_
  refine vnil ?_
  refine vinloop1 ?_
  refine KK2 ?_
  refine QS ?_
  refine vnil (vseq (vcondt rfl (vskip (vseq (vblock (KK2 ?_))))))
  refine QQ (vis rfl rfl (by omega)) rfl ?_
  refine QL ?_
  refine QA ?_
  refine KK3 ?_
  refine QM ?_
  refine QG ?_
  refine vnil ?_
  refine vcondd rfl (fun h12 => ?_) (fun h12 => ?_)
  ·
   refine KK2 ?_
   refine QM ?_
   refine QA ?_
   refine vnil ?_
   refine vret (V1 ([(bs, blk [I a, I b] 45)]) Tryz.func165 ?_)
   exact ⟨oI (by unfold fst2; split <;> omega), rfl⟩
  ·
   refine vskip (vinblock (vregion ?_))
   refine QQ (vadd rfl rfl (by unfold InR; omega)) rfl ?_
   refine QM ?_
   refine vnil ?_
   refine vinloop1 ?_
   refine KK2 ?_
   refine QS ?_
   refine vnil (vseq (vcondf rfl ?_))
   refine vexit (k' := _) rfl ?_
   refine KK2 ?_
   refine QA ?_
   refine vnil ?_
   refine vret (V1 ([(bs, blk [I a, I b] 45)]) Tryz.func165 ?_)
   exact ⟨oI (by unfold fst2; split <;> omega), rfl⟩
end Go.Proofs.YtmfmecgiaekelaaGreatDoor
namespace Go.Proofs.YtmfmecgiaekelaaGreatDoor
open Go
set_option maxRecDepth 100000
theorem fst2_chk (a b : Rg) : fst2 (chkR a) (chkR b) = chk2 a b := by
  unfold fst2 chk2
  by_cases ha : a.ok
  · rw [chkR_ok ha]; simp only [ne_eq, not_true_eq_false, if_false]
    by_cases hb : b.ok
    · rw [chkR_ok hb, if_pos ⟨ha, hb⟩]
    · rw [chkR_no hb, if_neg (fun h => hb h.2)]
  · rw [chkR_no ha, if_pos (by decide), if_neg (fun h => ha h.1)]
theorem h_firstR (a b : Rg) (bs : Nat) : VHas Tryz.prog 165 [.slice (some ⟨bs, 0, Option.none⟩) 2 2] (I (chk2 a b)) [(bs, blk [I (chkR a), I (chkR b)] 45)] [(bs, blk [I (chkR a), I (chkR b)] 45)] :=
  (h_first2 (chkR a) (chkR b) bs).cong (by rw [fst2_chk])
theorem chk_n {a b : Rg} (h : ¬ chk2 a b ≠ 0) : chk2 a b = 0 := Classical.not_not.1 h
theorem sm2a {a b : Rg} (h : ¬ chk2 a b ≠ 0) : a.sm 1099511627776 := (chk2_zero.1 (chk_n h)).1.sm.mono (by decide)
theorem sm2b {a b : Rg} (h : ¬ chk2 a b ≠ 0) : b.sm 1099511627776 := (chk2_zero.1 (chk_n h)).2.sm.mono (by decide)
theorem nn {a : Int} (h : ¬ a ≠ 0) : a = 0 := Classical.not_not.1 h
theorem c_doneO (h : Option Rg) : VPure Tryz.prog 135 [vR (optE h).1, I (optE h).2] (tup [vR (optE h).1, I (optE h).2]) := (c_done (optE h).1 (optE h).2).cong (by rw [optE_if])
theorem c_inside (f : Rg) : VPure Tryz.prog 189 [vR f] (tup [vR (insideE f).1, I (insideE f).2]) := by
 intro H
 refine CV 17 Tryz.func189 ?_
 refine KK2 ?_
 refine BX fun b1 => ?_
 refine AL fun b2 => ?_
 refine QA ?_
 refine vnil (vseq (KK2 ?_))
 refine QQ (via rfl rfl (by omega)) rfl ?_
 refine QN ?_
 refine QQ (vcp rfl rfl rfl (c_region_limit_fits _ _ _ (by omega))) rfl ?_
 refine QQ (vnotd rfl) rfl ?_
 refine QM ?_
 refine vsplitd (d := 8) rfl (fun h8 => ?_) (fun h8 => ?_)
 ·
  refine NO ?_
  refine NO ?_
  refine NO ?_
  refine NO ?_
  refine QT ?_
  refine vnil (vcondt rfl (KK2 ?_))
  refine QB ?_
  refine SN ?_
  refine QA ?_
  refine vnil ?_
  refine vret (vr2 (H' := H) Tryz.func189 rfl (.celln rfl rfl) (.tmp rfl) sb ?_)
  (rw [show insideE f = (zR, 7) from if_neg (by unfold Bd.fits; omega)]; exact ⟨rfl, rfl⟩)
 ·
  refine YY (via rfl rfl (by omega)) rfl ?_
  refine YN ?_
  refine YY (vcp rfl rfl rfl (c_region_limit_fits _ _ _ (by omega))) rfl ?_
  refine YY (vnotd rfl) rfl ?_
  refine QU ?_
  refine vnil ?_
  refine vcondd rfl (fun h13 => ?_) (fun h13 => ?_)
  ·
   refine KK2 ?_
   refine QB ?_
   refine SN ?_
   refine QA ?_
   refine vnil ?_
   refine vret (vr2 (H' := H) Tryz.func189 rfl (.celln rfl rfl) (.tmp rfl) sb ?_)
   (rw [show insideE f = (zR, 7) from if_neg (by unfold Bd.fits; omega)]; exact ⟨rfl, rfl⟩)
  ·
   refine vskip (KK2 ?_)
   refine QN ?_
   refine QQ (vcp rfl rfl rfl (c_region_four_region _ _ _ _ _ _ _ _)) rfl ?_
   refine SN ?_
   refine QA ?_
   refine vnil ?_
   refine vret (vr2 (H' := H) Tryz.func189 rfl (.celln rfl rfl) (.tmp rfl) sb ?_)
   (rw [show insideE f = (f, 0) from if_pos (by unfold Bd.fits; omega)]; exact ⟨rfl, rfl⟩)
theorem c_Meet (a b : Rg) : VPure Tryz.prog 181 [vR a, vR b] (tup [vR (meetE a b).1, I (meetE a b).2]) := by
 intro H
 refine CV 28 Tryz.func181 ?_
 refine KK2 ?_
 refine BX fun b1 => ?_
 refine BX fun b2 => ?_
 refine AL fun b3 => ?_
 refine QA ?_
 refine vnil (vseq (vseq ?_))
 refine DR [(.q, 0), (.q, 1), (.q, 2), (.q, 3), (.m, 4), (.n, 5), (.q, 6)] Tryz.mixed ?_
 refine DN ?_
 refine DD (vcp rfl rfl rfl (c_region_Check a)) rfl ?_
 refine DN ?_
 refine DD (vcp rfl rfl rfl (c_region_Check b)) rfl ?_
 refine vdm (mone rfl) (vbsP rfl rfl rfl rfl rfl rfl) rfl rfl (fun b4 => ?_)
 refine vdn rfl (mone rfl) (vcq rfl rfl rfl ((h_firstR a b b4).fr1)) rfl rfl ?_
 refine DA ?_
 refine vdend rfl (KK2 ?_)
 refine QM ?_
 refine QG ?_
 refine vnil ?_
 refine vcondd rfl (fun h14 => ?_) (fun h14 => ?_)
 ·
  refine KK2 ?_
  refine QB ?_
  refine QM ?_
  refine SN ?_
  refine QA ?_
  refine vnil ?_
  refine vret (vr2 (H' := H) Tryz.func181 rfl (.celln rfl rfl) (.tmp rfl) sb ?_)
  (rw [show meetE a b = (zR, chk2 a b) from if_neg h14]; exact ⟨rfl, rfl⟩)
 ·
  refine vskip (vseq ?_)
  refine DR [(.q, 0), (.q, 1), (.q, 2), (.q, 3), (.q, 4), (.q, 5), (.q, 6), (.q, 7), (.q, 8), (.q, 9), (.q, 10), (.c, 11), (.q, 12)] Tryz.mixed ?_
  refine DN ?_
  refine DD (vcp rfl rfl rfl (c_region_bounds _ _ _ _ _ _ _ _)) rfl ?_
  refine DN ?_
  refine DD (vcp rfl rfl rfl (c_region_bounds _ _ _ _ _ _ _ _)) rfl ?_
  refine DD (vcp rfl rfl rfl (c_cut4 a b)) rfl ?_
  refine DD (vcp rfl rfl rfl (c_tight (a.map2 Bd.cut b) (cut_sm (sm2a h14) (sm2b h14)))) rfl ?_
  refine DX ?_
  refine DX ?_
  refine DD (vcp rfl rfl rfl (c_doneO (tightP (a.map2 Bd.cut b)))) rfl ?_
  refine DX ?_
  refine DX ?_
  refine vdcs (mone rfl) (vstn rfl rfl rfl rfl rfl) rfl ?_
  refine DA ?_
  refine vdend rfl ?_
  refine vret (vr2 (H' := H) Tryz.func181 rfl (.celln rfl rfl) (.tmp rfl) sb ?_)
  (rw [show meetE a b = optE (tightP (a.map2 Bd.cut b)) from if_pos (nn h14)]; exact ⟨rfl, rfl⟩)
theorem c_Join (a b : Rg) : VPure Tryz.prog 164 [vR a, vR b] (tup [vR (joinE a b).1, I (joinE a b).2]) := by
 intro H
 refine CV 35 Tryz.func164 ?_
 refine KK2 ?_
 refine BX fun b1 => ?_
 refine BX fun b2 => ?_
 refine AL fun b3 => ?_
 refine QA ?_
 refine vnil (vseq (vseq ?_))
 refine DR [(.q, 0), (.q, 1), (.q, 2), (.q, 3), (.m, 4), (.n, 5), (.q, 6)] Tryz.mixed ?_
 refine DN ?_
 refine DD (vcp rfl rfl rfl (c_region_Check a)) rfl ?_
 refine DN ?_
 refine DD (vcp rfl rfl rfl (c_region_Check b)) rfl ?_
 refine vdm (mone rfl) (vbsP rfl rfl rfl rfl rfl rfl) rfl rfl (fun b4 => ?_)
 refine vdn rfl (mone rfl) (vcq rfl rfl rfl ((h_firstR a b b4).fr1)) rfl rfl ?_
 refine DA ?_
 refine vdend rfl (KK2 ?_)
 refine QM ?_
 refine QG ?_
 refine vnil ?_
 refine vcondd rfl (fun h16 => ?_) (fun h16 => ?_)
 ·
  refine KK2 ?_
  refine QB ?_
  refine QM ?_
  refine SN ?_
  refine QA ?_
  refine vnil ?_
  refine vret (vr2 (H' := H) Tryz.func164 rfl (.celln rfl rfl) (.tmp rfl) sb ?_)
  (rw [show joinE a b = (zR, chk2 a b) from if_neg h16]; exact ⟨rfl, rfl⟩)
 ·
  refine vskip (vseq ?_)
  refine vdraw [(.q, 0), (.q, 1), (.q, 3), (.g, 2), (.q, 4), (.g, 5), (.m, 6), (.n, 7), (.q, 8), (.q, 9), (.q, 10), (.a (blk [.int .i64 0, .int .i64 0, .int .i64 0, .int .i64 0, .int .i64 0, .int .i64 0, .int .i64 0, .int .i64 0] 257), 11), (.s, 12), (.q, 13)] Tryz.mixed (by kernel_rfl) ⟨⟨_, _, _, _, _, rfl, _, inferInstance, rfl⟩, True.intro⟩ ?_
  refine DN ?_
  refine DD (vcp rfl rfl rfl (c_region_bounds _ _ _ _ _ _ _ _)) rfl ?_
  refine DN ?_
  refine vdg rfl (mone rfl) (vcnew rfl rfl rfl (n_ends a)) rfl rfl (fun b5 => ?_)
  refine DD (vcp rfl rfl rfl (c_region_bounds _ _ _ _ _ _ _ _)) rfl ?_
  refine vdg rfl (mone rfl) (vcnew rfl rfl rfl (n_ends b)) rfl rfl (fun b6 => ?_)
  refine vdm (mone rfl) (vbsP rfl rfl rfl rfl rfl rfl) rfl rfl (fun b7 => ?_)
  refine vdn rfl (mone rfl) (vcq rfl rfl rfl (((h_hull2 (it_ends a (sm2a h16) b5) (it_ends b (sm2b h16) b6) (fun p hp => ends_sm (sm2a h16) hp) (fun p hp => ends_sm (sm2b h16) hp) b7).perm ((List.Perm.swap _ _ _).cons _) ((List.Perm.swap _ _ _).cons _)).fr3)) rfl rfl ?_
  refine DM ?_
  refine DX ?_
  refine DX ?_
  refine vda rfl rfl (fun b8 => ?_)
  refine vds (mone rfl) (vstn rfl rfl rfl rfl rfl) rfl ?_
  refine DA ?_
  refine vdend rfl (vseq (KK2 ?_))
  refine QM ?_
  refine QQ (vnot rfl) rfl ?_
  refine vnil ?_
  refine vcond rfl (fun h31 => ?_) (fun h31 => ?_)
  ·
   refine KK2 ?_
   refine QB ?_
   refine SN ?_
   refine QA ?_
   refine vnil ?_
   refine vret (vr2 (H' := H) Tryz.func164 rfl (.celln rfl rfl) (.tmp rfl) sb ?_)
   (rw [show joinE a b = optE (hullP (endsOf a ++ endsOf b)) from if_pos (nn h16)]; first | (have hh := optN (h := (hullP (endsOf a ++ endsOf b))) h31; rw [optE_n hh]; exact ⟨rfl, rfl⟩) | (obtain ⟨gg, hh⟩ := optS (h := (hullP (endsOf a ++ endsOf b))) h31; rw [optE_s hh, hh]; exact ⟨rfl, rfl⟩))
  ·
   refine vskip (KK2 ?_)
   refine QN ?_
   refine QQ (vcp rfl rfl rfl (c_region_four_region _ _ _ _ _ _ _ _)) rfl ?_
   refine SN ?_
   refine QA ?_
   refine vnil ?_
   refine vret (vr2 (H' := H) Tryz.func164 rfl (.celln rfl rfl) (.tmp rfl) sb ?_)
   (rw [show joinE a b = optE (hullP (endsOf a ++ endsOf b)) from if_pos (nn h16)]; first | (have hh := optN (h := (hullP (endsOf a ++ endsOf b))) h31; rw [optE_n hh]; exact ⟨rfl, rfl⟩) | (obtain ⟨gg, hh⟩ := optS (h := (hullP (endsOf a ++ endsOf b))) h31; rw [optE_s hh, hh]; exact ⟨rfl, rfl⟩))
theorem twoE_n {a b : Rg} (h : chk2 a b ≠ 0) : twoE a b = (zR, zR, chk2 a b) := if_neg h
theorem twoE_e {a b : Rg} (h : ¬ chk2 a b ≠ 0) : twoE a b = (match tightP a, tightP b with | some x, some y => (x, y, 0) | _, _ => (zR, zR, 4)) := if_pos (nn h)
theorem errO_z {h : Option Rg} (e : errO h = 0) : ∃ g, h = some g := by cases h <;> simp_all [errO]
theorem errO_nz {h : Option Rg} (e : errO h ≠ 0) : h = none := by cases h <;> simp_all [errO]
theorem h_firstE (g h : Option Rg) (bs : Nat) : VHas Tryz.prog 165 [.slice (some ⟨bs, 0, Option.none⟩) 2 2] (I (fst2 (errO g) (errO h))) [(bs, blk [I (errO g), I (errO h)] 45)] [(bs, blk [I (errO g), I (errO h)] 45)] := h_first2 _ _ bs
theorem fstE_z {g h : Option Rg} (e : ¬ fst2 (errO g) (errO h) ≠ 0) : ∃ x y, g = some x ∧ h = some y := by
  cases g <;> cases h <;> simp_all [fst2, errO]
theorem fstE_nz {g h : Option Rg} (e : fst2 (errO g) (errO h) ≠ 0) : fst2 (errO g) (errO h) = 4 ∧ (g = none ∨ h = none) := by
  cases g <;> cases h <;> simp_all [fst2, errO]
theorem twoE_4 {a b : Rg} (h : ¬ chk2 a b ≠ 0) (e : tightP a = none ∨ tightP b = none) : twoE a b = (zR, zR, 4) := by
  rw [twoE_e h]; rcases e with e | e
  · rw [e]
  · rw [e]; cases tightP a <;> rfl
theorem twoE_0 {a b x y : Rg} (h : ¬ chk2 a b ≠ 0) (ea : tightP a = some x) (eb : tightP b = some y) : twoE a b = (x, y, 0) := by
  rw [twoE_e h, ea, eb]
theorem c_two (a b : Rg) : VPure Tryz.prog 155 [vR a, vR b] (tup [vR (twoE a b).1, vR (twoE a b).2.1, I (twoE a b).2.2]) := by
 intro H
 refine CV 44 Tryz.func155 ?_
 refine KK2 ?_
 refine BX fun b1 => ?_
 refine BX fun b2 => ?_
 refine AL fun b3 => ?_
 refine AL fun b4 => ?_
 refine QA ?_
 refine vnil (vseq (vseq ?_))
 refine DR [(.q, 0), (.q, 1), (.q, 2), (.q, 3), (.m, 4), (.n, 5), (.q, 6)] Tryz.mixed ?_
 refine DN ?_
 refine DD (vcp rfl rfl rfl (c_region_Check a)) rfl ?_
 refine DN ?_
 refine DD (vcp rfl rfl rfl (c_region_Check b)) rfl ?_
 refine vdm (mone rfl) (vbsP rfl rfl rfl rfl rfl rfl) rfl rfl (fun b5 => ?_)
 refine vdn rfl (mone rfl) (vcq rfl rfl rfl ((h_firstR a b b5).fr1)) rfl rfl ?_
 refine DA ?_
 refine vdend rfl (KK2 ?_)
 refine QM ?_
 refine QG ?_
 refine vnil ?_
 refine vcondd rfl (fun h17 => ?_) (fun h17 => ?_)
 ·
  refine KK2 ?_
  refine QB ?_
  refine QB ?_
  refine QM ?_
  refine SN ?_
  refine SN ?_
  refine QA ?_
  refine vnil ?_
  refine vret (vr3 (H' := H) Tryz.func155 rfl (.celln rfl rfl) (.celln rfl rfl) (.tmp rfl) sb ?_)
  (rw [twoE_n h17]; exact ⟨rfl, rfl⟩)
 ·
  refine vskip (KK2 ?_)
  refine QN ?_
  refine QQ (vcp rfl rfl rfl (c_region_bounds _ _ _ _ _ _ _ _)) rfl ?_
  refine QQ (vcp rfl rfl rfl (c_tight a (sm2a h17))) rfl ?_
  refine QM ?_
  refine QX ?_
  refine QX ?_
  refine SN ?_
  refine QA ?_
  refine KK3 ?_
  refine QN ?_
  refine QQ (vcp rfl rfl rfl (c_region_bounds _ _ _ _ _ _ _ _)) rfl ?_
  refine QQ (vcp rfl rfl rfl (c_tight b (sm2b h17))) rfl ?_
  refine QM ?_
  refine QX ?_
  refine QX ?_
  refine SN ?_
  refine QA ?_
  refine vnil (vseq (KK2 ?_))
  refine QM ?_
  refine QM ?_
  refine vone rfl (vxg (vbs rfl rfl rfl rfl rfl rfl) rfl rfl ?_)
  rintro _ _ ⟨b6, rfl, rfl⟩
  refine QQ (vcq rfl rfl rfl ((h_firstE (tightP a) (tightP b) b6).fr1)) rfl ?_
  refine QA ?_
  refine KK3 ?_
  refine QM ?_
  refine QG ?_
  refine vnil ?_
  refine vcondd rfl (fun h38 => ?_) (fun h38 => ?_)
  ·
   refine KK2 ?_
   refine QB ?_
   refine QB ?_
   refine QM ?_
   refine SN ?_
   refine SN ?_
   refine QA ?_
   refine vnil ?_
   refine vret (vr3 (H' := H) Tryz.func155 rfl (.celln rfl rfl) (.celln rfl rfl) (.tmp rfl) sb ?_)
   (obtain ⟨e4, eo⟩ := fstE_nz h38; rw [twoE_4 h17 eo, e4]; exact ⟨rfl, rfl⟩)
  ·
   refine vskip (vseq ?_)
   refine DR [(.q, 0), (.q, 1), (.q, 2), (.q, 3), (.q, 4)] Tryz.mixed ?_
   refine DN ?_
   refine DN ?_
   refine vdqn (mone rfl) (vstns rfl rfl rfl rfl rfl) rfl ?_
   refine vdqn (mone rfl) (vstns rfl rfl rfl rfl rfl) rfl ?_
   refine DA ?_
   refine vdend rfl ?_
   refine vret (vr3 (H' := H) Tryz.func155 rfl (.celln rfl rfl) (.celln rfl rfl) (.tmp rfl) sb ?_)
   (obtain ⟨gx, gy, ex, ey⟩ := fstE_z h38; rw [twoE_0 h17 ex ey, ex, ey]; exact ⟨rfl, rfl⟩)
theorem optE_sm {r : Rg} (h : r.ok) : (optE (tightP r)).1.sm 65536 := by
  cases e : tightP r with
  | none => exact zR_sm
  | some t => exact tight_sm e h.sm
theorem ok_c {r : Rg} (h : ¬ chkR r ≠ 0) : r.ok := chkR_zero.1 (nn h)
theorem moveE_11 {r : Rg} {v : Pt} (h : chkR r ≠ 0) : moveE r v = (zR, chkR r) := by rw [moveE, if_neg (chkR_nz.1 h), chkR_no (chkR_nz.1 h)]
theorem moveE_7 {r : Rg} {v : Pt} (h : ¬ chkR r ≠ 0) (hv : ¬ v.okV) : moveE r v = (zR, 7) := by rw [moveE, if_pos (ok_c h), if_neg hv]
theorem moveE_4 {r : Rg} {v : Pt} (h : ¬ chkR r ≠ 0) (hv : v.okV) (e : tightP r = none) : moveE r v = (zR, 4) := by rw [moveE, if_pos (ok_c h), if_pos hv, e]
theorem moveE_0 {r x : Rg} {v : Pt} (h : ¬ chkR r ≠ 0) (hv : v.okV) (e : tightP r = some x) : moveE r v = insideE (x.map2 Bd.plus (ofP v)) := by rw [moveE, if_pos (ok_c h), if_pos hv, e]
theorem okV_sm {v : Pt} (h : v.okV) : v.sm 1099511627776 := by unfold Pt.okV at h; unfold Pt.sm; omega
theorem c_Move (r : Rg) (v : Pt) : VPure Tryz.prog 163 [vR r, vP v] (tup [vR (moveE r v).1, I (moveE r v).2]) := by
 intro H
 refine CV 47 Tryz.func163 ?_
 refine KK2 ?_
 refine BX fun b1 => ?_
 refine BX fun b2 => ?_
 refine AL fun b3 => ?_
 refine QA ?_
 refine vnil (vseq (KK2 ?_))
 refine QN ?_
 refine QQ (vcp rfl rfl rfl (c_region_Check r)) rfl ?_
 refine QA ?_
 refine KK3 ?_
 refine QM ?_
 refine QG ?_
 refine vnil ?_
 refine vcondd rfl (fun h12 => ?_) (fun h12 => ?_)
 ·
  refine KK2 ?_
  refine QB ?_
  refine QM ?_
  refine SN ?_
  refine QA ?_
  refine vnil ?_
  refine vret (vr2 (H' := H) Tryz.func163 rfl (.celln rfl rfl) (.tmp rfl) sb ?_)
  (rw [moveE_11 h12]; exact ⟨rfl, rfl⟩)
 ·
  refine vskip (vseq (vseq ?_))
  refine DR [(.q, 0), (.q, 1), (.q, 2), (.q, 3), (.q, 4), (.q, 5), (.q, 6), (.q, 7), (.q, 8), (.q, 9), (.q, 10), (.q, 11), (.q, 12), (.q, 13)] Tryz.mixed ?_
  refine DF ?_
  refine DL ?_
  refine DD (vcp rfl rfl rfl (c_region_limit_into _ _ (by omega))) rfl ?_
  refine DF ?_
  refine DL ?_
  refine DG ?_
  refine DM ?_
  refine vdsplitd (d := 21) rfl (fun h21 => ?_) (fun h21 => ?_)
  ·
   refine NP ?_
   refine NP ?_
   refine NP ?_
   refine NP ?_
   refine NP ?_
   refine NP ?_
   refine DT ?_
   refine vdend rfl (vcondt rfl (KK2 ?_))
   refine QB ?_
   refine SN ?_
   refine QA ?_
   refine vnil ?_
   refine vret (vr2 (H' := H) Tryz.func163 rfl (.celln rfl rfl) (.tmp rfl) sb ?_)
   (rw [moveE_7 h12 (by unfold Pt.okV; omega)]; exact ⟨rfl, rfl⟩)
  ·
   refine WF ?_
   refine WL ?_
   refine WW (vcp rfl rfl rfl (c_region_limit_into _ _ (by omega))) rfl ?_
   refine WF ?_
   refine WL ?_
   refine WG ?_
   refine DU ?_
   refine vdend rfl ?_
   refine vcondd rfl (fun h28 => ?_) (fun h28 => ?_)
   ·
    refine KK2 ?_
    refine QB ?_
    refine SN ?_
    refine QA ?_
    refine vnil ?_
    refine vret (vr2 (H' := H) Tryz.func163 rfl (.celln rfl rfl) (.tmp rfl) sb ?_)
    (rw [moveE_7 h12 (by unfold Pt.okV; omega)]; exact ⟨rfl, rfl⟩)
   ·
    refine vskip (KK2 ?_)
    refine QN ?_
    refine QQ (vcp rfl rfl rfl (c_region_bounds _ _ _ _ _ _ _ _)) rfl ?_
    refine QQ (vcp rfl rfl rfl (c_tight r ((ok_c h12).sm.mono (by decide)))) rfl ?_
    refine QM ?_
    refine QX ?_
    refine QX ?_
    refine AL fun b4 => ?_
    refine SN ?_
    refine QA ?_
    refine vnil (vseq (KK2 ?_))
    refine QM ?_
    refine QG ?_
    refine vnil ?_
    refine vcondd rfl (fun h37 => ?_) (fun h37 => ?_)
    ·
     refine KK2 ?_
     refine QB ?_
     refine QM ?_
     refine SN ?_
     refine QA ?_
     refine vnil ?_
     refine vret (vr2 (H' := H) Tryz.func163 rfl (.celln rfl rfl) (.tmp rfl) sb ?_)
     (rw [moveE_4 h12 (by unfold Pt.okV; omega) (errO_nz h37), show (optE (tightP r)).2 = 4 from errO_none (errO_nz h37)]; exact ⟨rfl, rfl⟩)
    ·
     refine vskip (vseq ?_)
     refine DR [(.q, 0), (.q, 1), (.q, 2), (.q, 3), (.q, 4), (.q, 5), (.q, 6), (.c, 7), (.q, 8)] Tryz.mixed ?_
     refine DN ?_
     refine DN ?_
     refine DD (vcp rfl rfl rfl (c_of v (okV_sm (by unfold Pt.okV; omega)))) rfl ?_
     refine DD (vcp rfl rfl rfl (c_plus4 (optE (tightP r)).1 (ofP v) ((optE_sm (ok_c h12)).mono (by decide)) ((ofP_sm (by unfold Pt.okV; omega)).mono (by decide)))) rfl ?_
     refine DD (vcp rfl rfl rfl (c_inside ((optE (tightP r)).1.map2 Bd.plus (ofP v)))) rfl ?_
     refine DX ?_
     refine DX ?_
     refine vdcs (mone rfl) (vstn rfl rfl rfl rfl rfl) rfl ?_
     refine DA ?_
     refine vdend rfl ?_
     refine vret (vr2 (H' := H) Tryz.func163 rfl (.celln rfl rfl) (.tmp rfl) sb ?_)
     (obtain ⟨gx, ex⟩ := errO_z (nn h37); rw [moveE_0 h12 (by unfold Pt.okV; omega) ex, ex]; exact ⟨rfl, rfl⟩)
theorem c_Swept (r : Rg) (u v : Pt) : VPure Tryz.prog 138 [vR r, vP u, vP v] (tup [vR (sweptE r u v).1, I (sweptE r u v).2]) := by
 intro H
 refine CV 36 Tryz.func138 ?_
 refine KK2 ?_
 refine BX fun b1 => ?_
 refine BX fun b2 => ?_
 refine BX fun b3 => ?_
 refine AL fun b4 => ?_
 refine QA ?_
 refine KK3 ?_
 refine QN ?_
 refine QN ?_
 refine QQ (vcp rfl rfl rfl (c_Move r u)) rfl ?_
 refine QM ?_
 refine QX ?_
 refine QX ?_
 refine AL fun b5 => ?_
 refine SN ?_
 refine QA ?_
 refine vnil (vseq (KK2 ?_))
 refine QM ?_
 refine QG ?_
 refine vnil ?_
 refine vcondd rfl (fun h18 => ?_) (fun h18 => ?_)
 ·
  refine KK2 ?_
  refine QB ?_
  refine QM ?_
  refine SN ?_
  refine QA ?_
  refine vnil ?_
  refine vret (vr2 (H' := H) Tryz.func138 rfl (.celln rfl rfl) (.tmp rfl) sb ?_)
  (rw [show sweptE r u v = (zR, (moveE r u).2) from if_neg h18]; exact ⟨rfl, rfl⟩)
 ·
  refine vskip (KK2 ?_)
  refine QN ?_
  refine QN ?_
  refine QQ (vcp rfl rfl rfl (c_Move r v)) rfl ?_
  refine QM ?_
  refine QX ?_
  refine QX ?_
  refine AL fun b6 => ?_
  refine SN ?_
  refine QA ?_
  refine vnil (vseq (KK2 ?_))
  refine QM ?_
  refine QG ?_
  refine vnil ?_
  refine vcondd rfl (fun h28 => ?_) (fun h28 => ?_)
  ·
   refine KK2 ?_
   refine QB ?_
   refine QM ?_
   refine SN ?_
   refine QA ?_
   refine vnil ?_
   refine vret (vr2 (H' := H) Tryz.func138 rfl (.celln rfl rfl) (.tmp rfl) sb ?_)
   (rw [show sweptE r u v = (zR, (moveE r v).2) by rw [sweptE, if_pos (nn h18), if_neg h28]]; exact ⟨rfl, rfl⟩)
  ·
   refine vskip (KK2 ?_)
   refine QN ?_
   refine QN ?_
   refine QQ (vcp rfl rfl rfl (c_Join (moveE r u).1 (moveE r v).1)) rfl ?_
   refine QX ?_
   refine QX ?_
   refine SN ?_
   refine QA ?_
   refine vnil ?_
   refine vret (vr2 (H' := H) Tryz.func138 rfl (.celln rfl rfl) (.tmp rfl) sb ?_)
   (rw [show sweptE r u v = joinE (moveE r u).1 (moveE r v).1 by rw [sweptE, if_pos (nn h18), if_pos (nn h28)]]; exact ⟨rfl, rfl⟩)
end Go.Proofs.YtmfmecgiaekelaaGreatDoor
namespace Go.Proofs.YtmfmecgiaekelaaGreatDoor
open Go
set_option maxRecDepth 100000
theorem inR_mul {a b : Int} (ha : 0 ≤ a ∧ a ≤ 4194304) (hb : 0 ≤ b ∧ b ≤ 4194304) : InR (a * b) := by
  have := mul_bd ha hb; unfold InR; omega
theorem IsRt.bd {n r : Int} (h : IsRt n r) (hn : n ≤ 2199023255552) : r ≤ 2097152 := by
  obtain ⟨h1, h2, _⟩ := h
  rcases Int.lt_or_le 2097152 r with h3 | h3
  · have := sq_lt (by omega) h3; omega
  · exact h3
theorem c_root (n : Int) (hn : 0 ≤ n ∧ n ≤ 2199023255552) : VPure Tryz.prog 54 [I n] (I (rootP n)) := by
 intro H
 refine CV 22 Tryz.func54 ?_
 refine KK2 ?_
 refine QA ?_
 refine KK3 ?_
 refine QA ?_
 refine vnil (vseq (KK2 ?_))
 refine QA ?_
 refine vnil (vblock ?_)
 refine vwhile (σ := Int × Int) (fun ⟨r, bit⟩ => bit.toNat) (fun ⟨r, bit⟩ => [(0, I n), (3, I r), (4, I bit)]) (fun ⟨r, bit⟩ => H) (fun ⟨r, bit⟩ => RtInv n r bit) (0, 1048576) (RtInv.start (by omega)) ⟨rfl, rfl, rfl, True.intro⟩ sb ?_
 rintro ⟨r, bit⟩ hI IH
 change VRun _ _ _ _ _ [(0, I n), (3, I r), (4, I bit)] _ (H) _
 refine vseq (KK2 ?_)
 refine QM ?_
 refine QQ (vgtr rfl rfl) rfl ?_
 refine vnil ?_
 refine vcondd rfl (fun h6 => ?_) (fun h6 => ?_)
 ·
  have hbd := hI.bd
  refine vskip (vseq (vblock (KK2 ?_)))
  refine QM ?_
  refine QM ?_
  refine QQ (vadd rfl rfl (by unfold InR; omega)) rfl ?_
  refine QM ?_
  refine QM ?_
  refine QQ (vadd rfl rfl (by unfold InR; omega)) rfl ?_
  refine QQ (vmul rfl rfl (inR_mul (by omega) (by omega))) rfl ?_
  refine QM ?_
  refine QQ (vleq rfl rfl) rfl ?_
  refine vnil ?_
  refine vcondd rfl (fun h17 => ?_) (fun h17 => ?_)
  ·
   refine vregion ?_
   refine QM ?_
   refine QM ?_
   refine QQ (vadd rfl rfl (by unfold InR; omega)) rfl ?_
   refine QA ?_
   refine vnil (vinblock (vregion ?_))
   refine QM ?_
   refine QQ (vquop rfl rfl (by omega) (by omega) (by unfold InR; omega)) rfl ?_
   refine QA ?_
   refine vnil ?_
   exact vback (IH (r + bit, bit / 2) (hI.yes h6 h17) (by show (_ : Int).toNat < (_ : Int).toNat; omega)) ⟨rfl, rfl, rfl, True.intro⟩ sb
  ·
   refine vskip (vinblock (vregion ?_))
   refine QM ?_
   refine QQ (vquop rfl rfl (by omega) (by omega) (by unfold InR; omega)) rfl ?_
   refine QA ?_
   refine vnil ?_
   exact vback (IH (r, bit / 2) (hI.no h6 h17) (by show (_ : Int).toNat < (_ : Int).toNat; omega)) ⟨rfl, rfl, rfl, True.intro⟩ sb
 ·
  refine vexit (k' := _) rfl ?_
  refine KK2 ?_
  refine QM ?_
  refine QA ?_
  refine vnil ?_
  refine vret (V1 (H) Tryz.func54 ?_)
  exact ⟨oI (rootP_eq (hI.done h6)).symm, rfl⟩
theorem c_Root (n : Int) : VPure Tryz.prog 29 [I n] (tup [I (rootE n).1, I (rootE n).2]) := by
 intro H
 refine CV 9 Tryz.func29 ?_
 refine KK2 ?_
 refine QA ?_
 refine QA ?_
 refine vnil (vseq (KK2 ?_))
 refine QM ?_
 refine QQ (vcp rfl rfl rfl (c_region_within _ _ _)) rfl ?_
 refine QQ (vnotd rfl) rfl ?_
 refine vnil ?_
 refine vcondd rfl (fun h6 => ?_) (fun h6 => ?_)
 ·
  refine KK2 ?_
  refine QA ?_
  refine QA ?_
  refine vnil ?_
  refine vret (vr2 (H' := H) Tryz.func29 rfl (.tmp rfl) (.tmp rfl) sb ?_)
  (rw [show rootE n = (0, 7) from if_neg (by omega)]; exact ⟨rfl, rfl⟩)
 ·
  refine vskip (KK2 ?_)
  refine QM ?_
  refine QQ (vcp rfl rfl rfl (c_root n (by omega))) rfl ?_
  refine QA ?_
  refine QA ?_
  refine vnil ?_
  refine vret (vr2 (H' := H) Tryz.func29 rfl (.tmp rfl) (.tmp rfl) sb ?_)
  (rw [show rootE n = (rootP n, 0) from if_pos (by omega)]; exact ⟨rfl, rfl⟩)
theorem c_farthest (n : Int) (hn : 0 ≤ n ∧ n ≤ 32768) : VPure Tryz.prog 179 [I n] (I (farP n)) := by
 have h2n : 0 ≤ 2 * n * n ∧ 2 * n * n ≤ 2147483648 := by have := mul_bd (a := 2 * n) (b := n) (m := 65536) (by omega) (by omega); have h3 := mul_bd (a := n) (b := n) (m := 32768) (by omega) (by omega); rw [Int.mul_assoc]; omega
 have hnn := mul_bd (a := n) (b := n) (m := 32768) (by omega) (by omega)
 have hrt := rootP_is h2n.1
 intro H
 refine CV 31 Tryz.func179 ?_
 refine KK2 ?_
 refine QA ?_
 refine KK3 ?_
 refine QM ?_
 refine QQ (vmul rfl rfl (by unfold InR; omega)) rfl ?_
 refine QM ?_
 refine QQ (vmul rfl rfl (by unfold InR; omega)) rfl ?_
 refine QQ (vcp rfl rfl rfl (c_root (2 * n * n) (by omega))) rfl ?_
 refine QA ?_
 refine vnil (vseq (vblock ?_))
 refine vwhile (σ := Int) (fun s => s.toNat) (fun s => [(0, I n), (3, I s)]) (fun s => H) (fun s => (0 ≤ s ∧ s ≤ 2097152) ∧ ∀ s', s < s' → n * n < half2 s') (rootP (2 * n * n)) ⟨⟨hrt.1, hrt.bd (by omega)⟩, far_start hrt⟩ ⟨rfl, rfl, True.intro⟩ sb ?_
 rintro s ⟨⟨hs0, hs1⟩, hfar⟩ IH
 change VRun _ _ _ _ _ [(0, I n), (3, I s)] _ (H) _
 refine vseq (KK2 ?_)
 refine QM ?_
 refine QQ (vquop rfl rfl (by omega) (by omega) (by unfold InR; omega)) rfl ?_
 refine QM ?_
 refine QQ (vquop rfl rfl (by omega) (by omega) (by unfold InR; omega)) rfl ?_
 refine QQ (vmul rfl rfl (inR_mul (by omega) (by omega))) rfl ?_
 refine QM ?_
 refine QM ?_
 refine QQ (vquop rfl rfl (by omega) (by omega) (by unfold InR; omega)) rfl ?_
 refine QQ (vsub rfl rfl (by unfold InR; omega)) rfl ?_
 refine QM ?_
 refine QM ?_
 refine QQ (vquop rfl rfl (by omega) (by omega) (by unfold InR; omega)) rfl ?_
 refine QQ (vsub rfl rfl (by unfold InR; omega)) rfl ?_
 refine QQ (vmul rfl rfl (inR_mul (by omega) (by omega))) rfl ?_
 refine QQ (vadd rfl rfl (by have h1 := mul_bd (a := s / 2) (b := s / 2) (m := 4194304) (by omega) (by omega); have h2 := mul_bd (a := s - s / 2) (b := s - s / 2) (m := 4194304) (by omega) (by omega); unfold InR; omega)) rfl ?_
 refine QM ?_
 refine QM ?_
 refine QQ (vmul rfl rfl (inR_mul (by omega) (by omega))) rfl ?_
 refine QQ (vgtr rfl rfl) rfl ?_
 refine vnil ?_
 refine vcondd rfl (fun h27 => ?_) (fun h27 => ?_)
 ·
  refine vskip (vblock (vregion ?_))
  refine QM ?_
  refine QQ (vsub rfl rfl (by unfold InR; omega)) rfl ?_
  refine QA ?_
  refine vnil (vinblock ?_)
  have hpos : 0 < s := by
   rcases Int.lt_or_le 0 s with h | h
   · exact h
   ·
    have : s = 0 := by omega
    subst this; exact absurd h27 (by simp; omega)
  exact vback (IH (s - 1) ⟨by omega, fun s' hs' => by
    by_cases e : s' = s
    · subst e; exact h27
    · exact hfar s' (by omega)⟩ (by show (_ : Int).toNat < (_ : Int).toNat; omega)) ⟨rfl, rfl, True.intro⟩ sb
 ·
  refine vexit (k' := _) rfl ?_
  refine KK2 ?_
  refine QM ?_
  refine QA ?_
  refine vnil ?_
  refine vret (V1 (H) Tryz.func179 ?_)
  exact ⟨oI (farP_eq hn.1 ⟨hs0, Int.not_lt.1 h27, hfar⟩).symm, rfl⟩
structure WInv (n best x y : Int) : Prop where
  bd : (0 ≤ x ∧ x ≤ n + 1) ∧ (0 ≤ y ∧ y ≤ n) ∧ 0 ≤ best ∧ best ≤ 70000
  over : ∀ a b, x ≤ a → y < b → n * n < a * a + b * b
  all : ∀ a b, 0 ≤ a → a < x → 0 ≤ b → a * a + b * b ≤ n * n → a + b ≤ best
  some : ∃ a b, 0 ≤ a ∧ 0 ≤ b ∧ a * a + b * b ≤ n * n ∧ a + b = best
theorem WInv.start {n : Int} (hn : 0 ≤ n ∧ n ≤ 32768) : WInv n 0 0 n := by
  refine ⟨by omega, fun a b ha hb => ?_, fun a b ha hx => by omega, 0, 0, by omega, by omega, by have := sq_nn n; omega, by omega⟩
  have h1 := sq_lt hn.1 hb
  have h2 := sq_nn a
  omega
theorem WInv.less {n best x y : Int} (h : WInv n best x y) (hx : x ≤ n) (hg : x * x + y * y > n * n) : 0 < y ∧ WInv n best x (y - 1) := by
  have hb := h.bd
  have hpos : 0 < y := by
    rcases Int.lt_or_le 0 y with h0 | h0
    · exact h0
    · have e : y = 0 := by omega
      subst e
      have := sq_mono hb.1.1 hx
      omega
  refine ⟨hpos, by omega, fun a b ha hb' => ?_, h.all, h.some⟩
  by_cases e : b = y
  · subst e
    have := sq_mono hb.1.1 ha
    omega
  · exact h.over a b ha (by omega)
theorem WInv.next {n best x y : Int} (hn : n ≤ 32768) (h : WInv n best x y) (hx : x ≤ n) (hg : ¬ x * x + y * y > n * n) : WInv n (max best (x + y)) (x + 1) y := by
  have hb := h.bd
  refine ⟨by omega, fun a b ha hb' => h.over a b (by omega) hb', fun a b ha hax hb' hab => ?_, ?_⟩
  · by_cases e : a = x
    · subst e
      rcases Int.lt_or_le y b with h1 | h1
      · have := h.over a b (by omega) h1; omega
      · omega
    · have := h.all a b ha (by omega) hb' hab; omega
  · rcases Int.le_total best (x + y) with h1 | h1
    · exact ⟨x, y, hb.1.1, hb.2.1.1, by omega, by omega⟩
    · obtain ⟨a, b, h2, h3, h4, h5⟩ := h.some
      exact ⟨a, b, h2, h3, h4, by omega⟩
theorem WInv.done {n best x y : Int} (h : WInv n best x y) (hx : ¬ x ≤ n) (hn : 0 ≤ n) : farP n = best := by
  refine farP_eq hn (far_of_widest hn h.some fun a b ha hb hab => h.all a b ha ?_ hb hab)
  rcases Int.lt_or_le a x with h1 | h1
  · exact h1
  · have h2 := sq_lt hn (show n < a by omega)
    have h3 := sq_nn b
    omega
theorem reachE_11 {r : Rg} {n : Int} (h : chkR r ≠ 0) : reachE r n = (zR, chkR r) := by rw [reachE, if_neg (chkR_nz.1 h), chkR_no (chkR_nz.1 h)]
theorem reachE_7 {r : Rg} {n : Int} (h : ¬ chkR r ≠ 0) (hv : ¬ (0 ≤ n ∧ n ≤ 32768)) : reachE r n = (zR, 7) := by rw [reachE, if_pos (ok_c h), if_neg hv]
theorem reachE_4 {r : Rg} {n : Int} (h : ¬ chkR r ≠ 0) (hv : 0 ≤ n ∧ n ≤ 32768) (e : tightP r = none) : reachE r n = (zR, 4) := by rw [reachE, if_pos (ok_c h), if_pos hv, e]
theorem reachE_0 {r x : Rg} {n : Int} (h : ¬ chkR r ≠ 0) (hv : 0 ≤ n ∧ n ≤ 32768) (e : tightP r = some x) : reachE r n = optE (tightP (wideR x n (farP n))) := by rw [reachE, if_pos (ok_c h), if_pos hv, e]
theorem farP_bd {n : Int} (hn : 0 ≤ n ∧ n ≤ 32768) : 0 ≤ farP n ∧ farP n ≤ 65536 := by
  have h := farP_is hn.1
  have := far_bd h hn.1
  have := h.1
  omega
end Go.Proofs.YtmfmecgiaekelaaGreatDoor
namespace Go.Proofs.YtmfmecgiaekelaaGreatDoor
open Go
set_option maxRecDepth 100000
attribute [local irreducible] farP tightP hullP rootP
theorem c_Reach (r : Rg) (n : Int) : VPure Tryz.prog 152 [vR r, I n] (tup [vR (reachE r n).1, I (reachE r n).2]) := by
 intro H
 refine CV 78 Tryz.func152 ?_
 refine KK2 ?_
 refine BX fun b1 => ?_
 refine AL fun b2 => ?_
 refine QA ?_
 refine vnil (vseq (KK2 ?_))
 refine QN ?_
 refine QQ (vcp rfl rfl rfl (c_region_Check r)) rfl ?_
 refine QA ?_
 refine KK3 ?_
 refine QM ?_
 refine QG ?_
 refine vnil ?_
 refine vcondd rfl (fun h17 => ?_) (fun h17 => ?_)
 ·
  refine KK2 ?_
  refine QB ?_
  refine QM ?_
  refine SN ?_
  refine QA ?_
  refine vnil ?_
  refine vret (vr2 (H' := H) Tryz.func152 rfl (.celln rfl rfl) (.tmp rfl) sb ?_)
  (rw [reachE_11 h17]; exact ⟨rfl, rfl⟩)
 ·
  refine vskip (vseq (KK2 ?_))
  refine QM ?_
  refine QQ (vcp rfl rfl rfl (c_region_within _ _ _)) rfl ?_
  refine QQ (vnotd rfl) rfl ?_
  refine vnil ?_
  refine vcondd rfl (fun h22 => ?_) (fun h22 => ?_)
  ·
   refine KK2 ?_
   refine QB ?_
   refine SN ?_
   refine QA ?_
   refine vnil ?_
   refine vret (vr2 (H' := H) Tryz.func152 rfl (.celln rfl rfl) (.tmp rfl) sb ?_)
   (rw [reachE_7 h17 (by omega)]; exact ⟨rfl, rfl⟩)
  ·
   refine vskip (KK2 ?_)
   refine QN ?_
   refine QQ (vcp rfl rfl rfl (c_region_bounds _ _ _ _ _ _ _ _)) rfl ?_
   refine QQ (vcp rfl rfl rfl (c_tight r ((ok_c h17).sm.mono (by decide)))) rfl ?_
   refine QM ?_
   refine QX ?_
   refine QX ?_
   refine AL fun b3 => ?_
   refine SN ?_
   refine QA ?_
   refine vnil (vseq (KK2 ?_))
   refine QM ?_
   refine QG ?_
   refine vnil ?_
   refine vcondd rfl (fun h31 => ?_) (fun h31 => ?_)
   ·
    refine KK2 ?_
    refine QB ?_
    refine QM ?_
    refine SN ?_
    refine QA ?_
    refine vnil ?_
    refine vret (vr2 (H' := H) Tryz.func152 rfl (.celln rfl rfl) (.tmp rfl) sb ?_)
    (rw [reachE_4 h17 (by omega) (errO_nz h31), show (optE (tightP r)).2 = 4 from errO_none (errO_nz h31)]; exact ⟨rfl, rfl⟩)
   ·
    refine vskip (KK2 ?_)
    refine QM ?_
    refine QQ (vcp rfl rfl rfl (c_farthest n (by omega))) rfl ?_
    have hfb := farP_bd (n := n) (by omega)
    have hsm := optE_sm (ok_c h17)
    unfold Rg.sm Bd.sm at hsm
    refine QA ?_
    refine KK3 ?_
    refine QB ?_
    refine QM ?_
    refine QM ?_
    refine QM ?_
    refine QM ?_
    refine QB ?_
    refine AL fun b4 => ?_
    refine AL fun b5 => ?_
    refine SN ?_
    refine SN ?_
    refine vnil (vseq (KK2 ?_))
    refine QN ?_
    refine QM ?_
    refine vnil (vblock ?_)
    refine vloop1 ?_
    refine KK2 ?_
    refine QS ?_
    refine vnil (vseq (vcondt rfl (vskip (vseq (vblock (KK2 ?_))))))
    refine QM ?_
    refine QQ (vixan rfl rfl (by omega) rfl) rfl ?_
    refine AL fun b6 => ?_
    refine QA ?_
    refine SN ?_
    refine vnil ?_
    refine DR [(.q, 0), (.q, 1), (.q, 2), (.q, 3), (.q, 4), (.q, 5), (.q, 6), (.q, 7), (.q, 8), (.q, 9), (.q, 10), (.q, 11), (.q, 12), (.q, 13), (.q, 14), (.q, 15), (.q, 16), (.q, 17), (.q, 18), (.q, 19), (.q, 20), (.q, 21), (.q, 22), (.c, 23)] Tryz.mixed ?_
    refine DM ?_
    refine DM ?_
    refine DD (via rfl rfl (by omega)) rfl ?_
    refine DL ?_
    refine DF ?_
    refine DL ?_
    refine DM ?_
    refine DD (via rfl rfl (by omega)) rfl ?_
    refine DL ?_
    refine DD (vsub rfl rfl (by unfold InR; omega)) rfl ?_
    refine DD (vcp rfl rfl rfl (c_region_limit_into _ _ (by omega))) rfl ?_
    refine DM ?_
    refine DD (via rfl rfl (by omega)) rfl ?_
    refine DL ?_
    refine DF ?_
    refine DL ?_
    refine DM ?_
    refine DD (via rfl rfl (by omega)) rfl ?_
    refine DL ?_
    refine DD (vadd rfl rfl (by unfold InR; omega)) rfl ?_
    refine DD (vcp rfl rfl rfl (c_region_limit_into _ _ (by omega))) rfl ?_
    refine DB ?_
    refine DD (via rfl rfl (by omega)) rfl ?_
    refine vdcs (mone rfl) (vstn rfl rfl rfl rfl rfl) rfl ?_
    refine vdend rfl (vinblock (vregion ?_))
    refine QQ (vadd rfl rfl (by unfold InR; omega)) rfl ?_
    refine QM ?_
    refine vnil ?_
    refine vinloop1 ?_
    refine KK2 ?_
    refine QS ?_
    refine vnil (vseq (vcondt rfl (vskip (vseq (vblock (KK2 ?_))))))
    refine QM ?_
    refine QQ (vixan rfl rfl (by omega) rfl) rfl ?_
    refine AL fun b7 => ?_
    refine QA ?_
    refine SN ?_
    refine vnil ?_
    refine DR [(.q, 0), (.q, 1), (.q, 2), (.q, 3), (.q, 4), (.q, 5), (.q, 6), (.q, 7), (.q, 8), (.q, 9), (.q, 10), (.q, 11), (.q, 12), (.q, 13), (.q, 14), (.q, 15), (.q, 16), (.q, 17), (.q, 18), (.q, 19), (.q, 20), (.q, 21), (.q, 22), (.c, 23)] Tryz.mixed ?_
    refine DM ?_
    refine DM ?_
    refine DD (via rfl rfl (by omega)) rfl ?_
    refine DL ?_
    refine DF ?_
    refine DL ?_
    refine DM ?_
    refine DD (via rfl rfl (by omega)) rfl ?_
    refine DL ?_
    refine DD (vsub rfl rfl (by unfold InR; omega)) rfl ?_
    refine DD (vcp rfl rfl rfl (c_region_limit_into _ _ (by omega))) rfl ?_
    refine DM ?_
    refine DD (via rfl rfl (by omega)) rfl ?_
    refine DL ?_
    refine DF ?_
    refine DL ?_
    refine DM ?_
    refine DD (via rfl rfl (by omega)) rfl ?_
    refine DL ?_
    refine DD (vadd rfl rfl (by unfold InR; omega)) rfl ?_
    refine DD (vcp rfl rfl rfl (c_region_limit_into _ _ (by omega))) rfl ?_
    refine DB ?_
    refine DD (via rfl rfl (by omega)) rfl ?_
    refine vdcs (mone rfl) (vstn rfl rfl rfl rfl rfl) rfl ?_
    refine vdend rfl (vinblock (vregion ?_))
    refine QQ (vadd rfl rfl (by unfold InR; omega)) rfl ?_
    refine QM ?_
    refine vnil ?_
    refine vinloop1 ?_
    refine KK2 ?_
    refine QS ?_
    refine vnil (vseq (vcondt rfl (vskip (vseq (vblock (KK2 ?_))))))
    refine QM ?_
    refine QQ (vixan rfl rfl (by omega) rfl) rfl ?_
    refine AL fun b8 => ?_
    refine QA ?_
    refine SN ?_
    refine vnil ?_
    refine DR [(.q, 0), (.q, 1), (.q, 2), (.q, 3), (.q, 4), (.q, 5), (.q, 6), (.q, 7), (.q, 8), (.q, 9), (.q, 10), (.q, 11), (.q, 12), (.q, 13), (.q, 14), (.q, 15), (.q, 16), (.q, 17), (.q, 18), (.q, 19), (.q, 20), (.q, 21), (.q, 22), (.c, 23)] Tryz.mixed ?_
    refine DM ?_
    refine DM ?_
    refine DD (via rfl rfl (by omega)) rfl ?_
    refine DL ?_
    refine DF ?_
    refine DL ?_
    refine DM ?_
    refine DD (via rfl rfl (by omega)) rfl ?_
    refine DL ?_
    refine DD (vsub rfl rfl (by unfold InR; omega)) rfl ?_
    refine DD (vcp rfl rfl rfl (c_region_limit_into _ _ (by omega))) rfl ?_
    refine DM ?_
    refine DD (via rfl rfl (by omega)) rfl ?_
    refine DL ?_
    refine DF ?_
    refine DL ?_
    refine DM ?_
    refine DD (via rfl rfl (by omega)) rfl ?_
    refine DL ?_
    refine DD (vadd rfl rfl (by unfold InR; omega)) rfl ?_
    refine DD (vcp rfl rfl rfl (c_region_limit_into _ _ (by omega))) rfl ?_
    refine DB ?_
    refine DD (via rfl rfl (by omega)) rfl ?_
    refine vdcs (mone rfl) (vstn rfl rfl rfl rfl rfl) rfl ?_
    refine vdend rfl (vinblock (vregion ?_))
    refine QQ (vadd rfl rfl (by unfold InR; omega)) rfl ?_
    refine QM ?_
    refine vnil ?_
    refine vinloop1 ?_
    refine KK2 ?_
    refine QS ?_
    refine vnil (vseq (vcondt rfl (vskip (vseq (vblock (KK2 ?_))))))
    refine QM ?_
    refine QQ (vixan rfl rfl (by omega) rfl) rfl ?_
    refine AL fun b9 => ?_
    refine QA ?_
    refine SN ?_
    refine vnil ?_
    refine DR [(.q, 0), (.q, 1), (.q, 2), (.q, 3), (.q, 4), (.q, 5), (.q, 6), (.q, 7), (.q, 8), (.q, 9), (.q, 10), (.q, 11), (.q, 12), (.q, 13), (.q, 14), (.q, 15), (.q, 16), (.q, 17), (.q, 18), (.q, 19), (.q, 20), (.q, 21), (.q, 22), (.c, 23)] Tryz.mixed ?_
    refine DM ?_
    refine DM ?_
    refine DD (via rfl rfl (by omega)) rfl ?_
    refine DL ?_
    refine DF ?_
    refine DL ?_
    refine DM ?_
    refine DD (via rfl rfl (by omega)) rfl ?_
    refine DL ?_
    refine DD (vsub rfl rfl (by unfold InR; omega)) rfl ?_
    refine DD (vcp rfl rfl rfl (c_region_limit_into _ _ (by omega))) rfl ?_
    refine DM ?_
    refine DD (via rfl rfl (by omega)) rfl ?_
    refine DL ?_
    refine DF ?_
    refine DL ?_
    refine DM ?_
    refine DD (via rfl rfl (by omega)) rfl ?_
    refine DL ?_
    refine DD (vadd rfl rfl (by unfold InR; omega)) rfl ?_
    refine DD (vcp rfl rfl rfl (c_region_limit_into _ _ (by omega))) rfl ?_
    refine DB ?_
    refine DD (via rfl rfl (by omega)) rfl ?_
    refine vdcs (mone rfl) (vstn rfl rfl rfl rfl rfl) rfl ?_
    refine vdend rfl (vinblock (vregion ?_))
    refine QQ (vadd rfl rfl (by unfold InR; omega)) rfl ?_
    refine QM ?_
    refine vnil ?_
    refine vinloop1 ?_
    refine KK2 ?_
    refine QS ?_
    refine vnil (vseq (vcondf rfl ?_))
    refine vexit (k' := _) rfl ?_
    refine KK2 ?_
    refine QN ?_
    refine QQ (vcp rfl rfl rfl (c_tight (wideR (optE (tightP r)).1 n (farP n)) ((wideR_sm _ _ _).mono (by decide)))) rfl ?_
    refine QX ?_
    refine QX ?_
    refine QQ (vcp rfl rfl rfl (c_doneO (tightP (wideR (optE (tightP r)).1 n (farP n))))) rfl ?_
    refine QX ?_
    refine QX ?_
    refine SN ?_
    refine QA ?_
    refine vnil ?_
    refine vret (vr2 (H' := H) Tryz.func152 rfl (.celln rfl rfl) (.tmp rfl) sb ?_)
    (obtain ⟨gx, ex⟩ := errO_z (nn h31); rw [reachE_0 h17 (by omega) ex]; exact ⟨by rw [ex]; rfl, rfl⟩)
end Go.Proofs.YtmfmecgiaekelaaGreatDoor
namespace Go.Proofs.YtmfmecgiaekelaaGreatDoor
open Go
set_option maxRecDepth 100000
attribute [local irreducible] tightP hullP rootP farP rows endsOf
abbrev clB (x : Bd) : List Value := [I x.lo, I x.hi]
theorem h_pickBd {kf g : FuncId} [TFn Tryz.prog kf] [TFn Tryz.prog g] {caps : List Value} {Hi : Heap} {xs : List Bd} (better : Bd → Bd → Bool) (hit : VIt Tryz.prog kf caps (fun x => [vB x]) xs Hi) (hg : ∀ a b, VPure Tryz.prog g [vB a, vB b] (.bool (better a b))) : VHas Tryz.prog 183 [.func (.func kf) #[] caps.toArray, fnv g] (tup [vB ((pickL better xs).getD zB), .bool (pickL better xs).isSome]) Hi Hi := by
 refine CV 20 Tryz.func183 ?_
 refine KK2 ?_
 refine BX fun b1 => ?_
 refine AL fun b2 => ?_
 refine AL fun b3 => ?_
 refine vnil (vseq (KK2 ?_))
 refine QM ?_
 refine vnil (vblock ?_)
 refine vrange (enc := (fun x => [vB x])) (xs := xs) (caps := caps) (Hi := Hi) (Hc := [(b3, blk [.bool (pickL better []).isSome] 4), (b2, blk (clB ((pickL better []).getD zB)) 26), (b1, blk [fnv g] 324)]) (ps := [8]) (fun pre H1 => H1 = [(b3, blk [.bool (pickL better pre).isSome] 4), (b2, blk (clB ((pickL better pre).getD zB)) 26), (b1, blk [fnv g] 324)]) (fun _ _ => False) rfl (hit) (List.perm_append_comm (l₁ := [(b3, blk [.bool (pickL better []).isSome] 4), (b2, blk (clB ((pickL better []).getD zB)) 26), (b1, blk [fnv g] 324)])) rfl (fun _ => rfl) rfl ?_ ?_ ?_
 ·
  intro lp rec pre x post H1 hrs hxs hI
  subst hI
  refine vregion ?_
  refine AL fun b4 => ?_
  refine SN ?_
  refine vnil ?_
  refine vbegin hrs ?_
  refine vblock (KK2 ?_)
  refine QL ?_
  refine QQ (vnot rfl) rfl ?_
  refine QM ?_
  refine vsplit (d := 11) rfl (fun h11 => ?_) (fun h11 => ?_)
  ·
   refine NO ?_
   refine NO ?_
   refine NO ?_
   refine NO ?_
   refine QT ?_
   refine vnil (vcondt rfl (vregion ?_))
   refine QN ?_
   refine SN ?_
   refine SU ?_
   refine vnil (vinblock ?_)
   refine vroundI_end (H' := [(b3, _), (b2, _), (b1, _)]) sb ?_
   (rw [pick_n (x := x) h11]; rfl)
  ·
   refine YL ?_
   refine YN ?_
   refine YN ?_
   refine YY (vcp rfl rfl rfl (hg x ((pickL better pre).getD zB))) rfl ?_
   refine QU ?_
   refine vnil ?_
   refine vcond rfl (fun h16 => ?_) (fun h16 => ?_)
   ·
    refine vregion ?_
    refine QN ?_
    refine SN ?_
    refine SU ?_
    refine vnil (vinblock ?_)
    refine vroundI_end (H' := [(b3, _), (b2, _), (b1, _)]) sb ?_
    (rw [pick_y (z := zB) (x := x) h11 h16]; rfl)
   ·
    refine vskip (vinblock ?_)
    refine vroundI_end (H' := [(b3, _), (b2, _), (b1, _)]) sb ?_
    (rw [pick_k (z := zB) (x := x) h11 h16])
 ·
  intro r1 H1 hI
  subst hI
  refine VRun.perm (H' := (r1, Obj.deferred (some [])) :: (b3, blk [.bool (pickL better xs).isSome] 4) :: (b2, blk (clB ((pickL better xs).getD zB)) 26) :: (b1, blk [fnv g] 324) :: Hi) ((List.perm_append_comm).cons _) ?_
  refine vinblock (vseq ?_)
  refine DR [(.q, 0), (.q, 1), (.q, 2), (.q, 3)] Tryz.mixed ?_
  refine DN ?_
  refine DL ?_
  refine vdqn (mone rfl) (vstns rfl rfl rfl rfl rfl) rfl ?_
  refine vdqn (mone rfl) (vst1s rfl rfl rfl rfl) rfl ?_
  refine vdend rfl ?_
  refine vret (vret_mark (vr2 (H' := Hi) Tryz.func183 rfl (.celln rfl rfl) (.cell1 rfl rfl) sb ?_))
  exact ⟨rfl, rfl⟩
 ·
  intro r1 c H1 hI
  exact hI.elim
end Go.Proofs.YtmfmecgiaekelaaGreatDoor
