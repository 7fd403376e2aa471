/-
  Parts of the proof: rules of the engine, walks of functions, plain Lean. No condition.
-/
import Derived.Test.YtoebpndlbldfcaaGreatDoorProg
import Derived.Test.YtoebpndlbldfcaaGreatDoorTd04
namespace Go.Proofs.YtoebpndlbldfcaaGreatDoor
open Go
instance tSc3 : TSc Tryz.prog 3 := mSc
instance tZe3 : TZe Tryz.prog 3 [.int .i64 0] := mkTZe (z := .int .i64 0) (by kernel_rfl) rfl
instance tSc4 : TSc Tryz.prog 4 := mSc
instance tZe4 : TZe Tryz.prog 4 [.bool false] := mkTZe (z := .bool false) (by kernel_rfl) rfl
instance tSc5 : TSc Tryz.prog 5 := mSc
instance tSc9 : TSc Tryz.prog 9 := mSc
instance tZe9 : TZe Tryz.prog 9 [.string ByteArray.empty] := mkTZe (z := .string ByteArray.empty) (by kernel_rfl) rfl
instance tSc22 : TSc Tryz.prog 22 := mSc
instance tZe22 : TZe Tryz.prog 22 [.slice Option.none 0 0] := mkTZe (z := .slice Option.none 0 0) (by kernel_rfl) rfl
instance tSl22 : TSl Tryz.prog 22 3 1 := mSl
instance tSc23 : TSc Tryz.prog 23 := mSc
instance tZe23 : TZe Tryz.prog 23 [.int .i64 0] := mkTZe (z := .int .i64 0) (by kernel_rfl) rfl
instance tSc33 : TSc Tryz.prog 33 := mSc
instance tAg44 : TAg Tryz.prog 44 2 := mAg
instance tZe44 : TZe Tryz.prog 44 [.int .i64 0, .int .i64 0] := mkTZe (z := .agg #[.int .i64 0, .int .i64 0]) (by kernel_rfl) rfl
instance tFl44_0 : TFl Tryz.prog 44 0 0 := mFl
instance tFl44_1 : TFl Tryz.prog 44 1 1 := mFl
instance tBd44 : TBd Tryz.prog 44 [.int .i64 0, .int .i64 0] (fun i => [(0, 1), (1, 1)][i]?) := mkTBd (z := .agg #[.int .i64 0, .int .i64 0]) (by kernel_rfl) rfl (by kernel_rfl)
instance tEq44 : TEq Tryz.prog 44 2 := mkTEq (by kernel_rfl) (by kernel_rfl) (by kernel_rfl)
instance tAg46 : TAg Tryz.prog 46 4 := mAg
instance tZe46 : TZe Tryz.prog 46 [.int .i64 0, .int .i64 0, .int .i64 0, .int .i64 0] := mkTZe (z := .agg #[.int .i64 0, .int .i64 0, .int .i64 0, .int .i64 0]) (by kernel_rfl) rfl
instance tFl46_0 : TFl Tryz.prog 46 0 0 := mFl
instance tFl46_1 : TFl Tryz.prog 46 1 1 := mFl
instance tFl46_2 : TFl Tryz.prog 46 2 3 := mFl
instance tBd46 : TBd Tryz.prog 46 [.int .i64 0, .int .i64 0, .int .i64 0, .int .i64 0] (fun i => [(0, 1), (1, 2), (3, 1)][i]?) := mkTBd (z := .agg #[.int .i64 0, .int .i64 0, .int .i64 0, .int .i64 0]) (by kernel_rfl) rfl (by kernel_rfl)
instance tSl47 : TSl Tryz.prog 47 46 4 := mSl
instance tSl48 : TSl Tryz.prog 48 60 2 := mSl
instance tAg52 : TAg Tryz.prog 52 2 := mAg
instance tZe52 : TZe Tryz.prog 52 [.int .i64 0, .int .i64 0] := mkTZe (z := .agg #[.int .i64 0, .int .i64 0]) (by kernel_rfl) rfl
instance tBd52 : TBd Tryz.prog 52 [.int .i64 0, .int .i64 0] (fun i => [(0, 1), (1, 1)][i]?) := mkTBd (z := .agg #[.int .i64 0, .int .i64 0]) (by kernel_rfl) rfl (by kernel_rfl)
instance tEq52 : TEq Tryz.prog 52 2 := mkTEq (by kernel_rfl) (by kernel_rfl) (by kernel_rfl)
instance tAg56 : TAg Tryz.prog 56 2 := mAg
instance tZe56 : TZe Tryz.prog 56 [.int .i64 0, .int .i64 0] := mkTZe (z := .agg #[.int .i64 0, .int .i64 0]) (by kernel_rfl) rfl
instance tFl56_0 : TFl Tryz.prog 56 0 0 := mFl
instance tFl56_1 : TFl Tryz.prog 56 1 1 := mFl
instance tBd56 : TBd Tryz.prog 56 [.int .i64 0, .int .i64 0] (fun i => [(0, 1), (1, 1)][i]?) := mkTBd (z := .agg #[.int .i64 0, .int .i64 0]) (by kernel_rfl) rfl (by kernel_rfl)
instance tEq56 : TEq Tryz.prog 56 2 := mkTEq (by kernel_rfl) (by kernel_rfl) (by kernel_rfl)
instance tSc57 : TSc Tryz.prog 57 := mSc
instance tZe57 : TZe Tryz.prog 57 [.slice Option.none 0 0] := mkTZe (z := .slice Option.none 0 0) (by kernel_rfl) rfl
instance tSl57 : TSl Tryz.prog 57 56 2 := mSl
instance tAg59 : TAg Tryz.prog 59 6 := mAg
instance tFl59_0 : TFl Tryz.prog 59 0 0 := mFl
instance tFl59_1 : TFl Tryz.prog 59 1 2 := mFl
instance tFl59_2 : TFl Tryz.prog 59 2 3 := mFl
instance tFl59_3 : TFl Tryz.prog 59 3 4 := mFl
instance tFl59_4 : TFl Tryz.prog 59 4 5 := mFl
instance tBd59 : TBd Tryz.prog 59 [.int .i64 0, .int .i64 0, .int .i64 0, .int .i64 0, .int .i64 0, .slice Option.none 0 0] (fun i => [(0, 2), (2, 1), (3, 1), (4, 1), (5, 1)][i]?) := mkTBd (z := .agg #[.int .i64 0, .int .i64 0, .int .i64 0, .int .i64 0, .int .i64 0, .slice Option.none 0 0]) (by kernel_rfl) rfl (by kernel_rfl)
instance tAg60 : TAg Tryz.prog 60 2 := mAg
instance tZe60 : TZe Tryz.prog 60 [.int .i64 0, .int .i64 0] := mkTZe (z := .agg #[.int .i64 0, .int .i64 0]) (by kernel_rfl) rfl
instance tAv60 : TAv Tryz.prog 60 true 2 1 := mkTAv (b := false) (by kernel_rfl) (by simp)
instance tBd60 : TBd Tryz.prog 60 [.int .i64 0, .int .i64 0] (fun i => some (i * 1, 1)) := mkTBda (n := 2) (b := false) (z := .agg #[.int .i64 0, .int .i64 0]) (by kernel_rfl) rfl (by kernel_rfl)
instance tEq60 : TEq Tryz.prog 60 2 := mkTEq (by kernel_rfl) (by kernel_rfl) (by kernel_rfl)
instance tAg66 : TAg Tryz.prog 66 3 := mAg
instance tZe66 : TZe Tryz.prog 66 [.slice Option.none 0 0, .int .i64 0, .int .i64 0] := mkTZe (z := .agg #[.slice Option.none 0 0, .int .i64 0, .int .i64 0]) (by kernel_rfl) rfl
instance tFl66_0 : TFl Tryz.prog 66 0 0 := mFl
instance tFl66_1 : TFl Tryz.prog 66 1 1 := mFl
instance tFl66_2 : TFl Tryz.prog 66 2 2 := mFl
instance tBd66 : TBd Tryz.prog 66 [.slice Option.none 0 0, .int .i64 0, .int .i64 0] (fun i => [(0, 1), (1, 1), (2, 1)][i]?) := mkTBd (z := .agg #[.slice Option.none 0 0, .int .i64 0, .int .i64 0]) (by kernel_rfl) rfl (by kernel_rfl)
instance tSl69 : TSl Tryz.prog 69 73 3 := mSl
instance tAg73 : TAg Tryz.prog 73 3 := mAg
instance tZe73 : TZe Tryz.prog 73 [.int .i64 0, .int .i64 0, .int .i64 0] := mkTZe (z := .agg #[.int .i64 0, .int .i64 0, .int .i64 0]) (by kernel_rfl) rfl
instance tFl73_0 : TFl Tryz.prog 73 0 0 := mFl
instance tFl73_1 : TFl Tryz.prog 73 1 1 := mFl
instance tFl73_2 : TFl Tryz.prog 73 2 2 := mFl
instance tBd73 : TBd Tryz.prog 73 [.int .i64 0, .int .i64 0, .int .i64 0] (fun i => [(0, 1), (1, 1), (2, 1)][i]?) := mkTBd (z := .agg #[.int .i64 0, .int .i64 0, .int .i64 0]) (by kernel_rfl) rfl (by kernel_rfl)
instance tAg78 : TAg Tryz.prog 78 7 := mAg
instance tZe78 : TZe Tryz.prog 78 [.int .i64 0, .int .i64 0, .int .i64 0, .int .i64 0, .int .i64 0, .int .i64 0, .int .i64 0] := mkTZe (z := .agg #[.int .i64 0, .int .i64 0, .int .i64 0, .int .i64 0, .int .i64 0, .int .i64 0, .int .i64 0]) (by kernel_rfl) rfl
instance tFl78_0 : TFl Tryz.prog 78 0 0 := mFl
instance tFl78_1 : TFl Tryz.prog 78 1 1 := mFl
instance tFl78_2 : TFl Tryz.prog 78 2 2 := mFl
instance tFl78_3 : TFl Tryz.prog 78 3 3 := mFl
instance tFl78_4 : TFl Tryz.prog 78 4 4 := mFl
instance tFl78_5 : TFl Tryz.prog 78 5 5 := mFl
instance tFl78_6 : TFl Tryz.prog 78 6 6 := mFl
instance tBd78 : TBd Tryz.prog 78 [.int .i64 0, .int .i64 0, .int .i64 0, .int .i64 0, .int .i64 0, .int .i64 0, .int .i64 0] (fun i => [(0, 1), (1, 1), (2, 1), (3, 1), (4, 1), (5, 1), (6, 1)][i]?) := mkTBd (z := .agg #[.int .i64 0, .int .i64 0, .int .i64 0, .int .i64 0, .int .i64 0, .int .i64 0, .int .i64 0]) (by kernel_rfl) rfl (by kernel_rfl)
instance tSc79 : TSc Tryz.prog 79 := mSc
instance tSl79 : TSl Tryz.prog 79 134 8 := mSl
instance tSc80 : TSc Tryz.prog 80 := mSc
instance tZe80 : TZe Tryz.prog 80 [.slice Option.none 0 0] := mkTZe (z := .slice Option.none 0 0) (by kernel_rfl) rfl
instance tSl80 : TSl Tryz.prog 80 4 1 := mSl
instance tSc81 : TSc Tryz.prog 81 := mSc
instance tSl81 : TSl Tryz.prog 81 301 5 := mSl
instance tAg83 : TAg Tryz.prog 83 5 := mAg
instance tZe83 : TZe Tryz.prog 83 [.slice Option.none 0 0, .slice Option.none 0 0, .slice Option.none 0 0, .slice Option.none 0 0, .slice Option.none 0 0] := mkTZe (z := .agg #[.slice Option.none 0 0, .slice Option.none 0 0, .slice Option.none 0 0, .slice Option.none 0 0, .slice Option.none 0 0]) (by kernel_rfl) rfl
instance tFl83_0 : TFl Tryz.prog 83 0 0 := mFl
instance tFl83_1 : TFl Tryz.prog 83 1 1 := mFl
instance tFl83_2 : TFl Tryz.prog 83 2 2 := mFl
instance tFl83_3 : TFl Tryz.prog 83 3 3 := mFl
instance tFl83_4 : TFl Tryz.prog 83 4 4 := mFl
instance tBd83 : TBd Tryz.prog 83 [.slice Option.none 0 0, .slice Option.none 0 0, .slice Option.none 0 0, .slice Option.none 0 0, .slice Option.none 0 0] (fun i => [(0, 1), (1, 1), (2, 1), (3, 1), (4, 1)][i]?) := mkTBd (z := .agg #[.slice Option.none 0 0, .slice Option.none 0 0, .slice Option.none 0 0, .slice Option.none 0 0, .slice Option.none 0 0]) (by kernel_rfl) rfl (by kernel_rfl)
instance tSl87 : TSl Tryz.prog 87 93 3 := mSl
instance tAg91 : TAg Tryz.prog 91 5 := mAg
instance tFl91_0 : TFl Tryz.prog 91 0 0 := mFl
instance tFl91_1 : TFl Tryz.prog 91 1 1 := mFl
instance tFl91_2 : TFl Tryz.prog 91 2 2 := mFl
instance tFl91_3 : TFl Tryz.prog 91 3 3 := mFl
instance tFl91_4 : TFl Tryz.prog 91 4 4 := mFl
instance tBd91 : TBd Tryz.prog 91 [.int .i64 0, .int .i64 0, .int .i64 0, .int .i64 0, .int .i64 0] (fun i => [(0, 1), (1, 1), (2, 1), (3, 1), (4, 1)][i]?) := mkTBd (z := .agg #[.int .i64 0, .int .i64 0, .int .i64 0, .int .i64 0, .int .i64 0]) (by kernel_rfl) rfl (by kernel_rfl)
instance tAg93 : TAg Tryz.prog 93 3 := mAg
instance tZe93 : TZe Tryz.prog 93 [.int .i64 0, .int .i64 0, .bool false] := mkTZe (z := .agg #[.int .i64 0, .int .i64 0, .bool false]) (by kernel_rfl) rfl
instance tFl93_0 : TFl Tryz.prog 93 0 0 := mFl
instance tFl93_2 : TFl Tryz.prog 93 2 2 := mFl
instance tBd93 : TBd Tryz.prog 93 [.int .i64 0, .int .i64 0, .bool false] (fun i => [(0, 1), (1, 1), (2, 1)][i]?) := mkTBd (z := .agg #[.int .i64 0, .int .i64 0, .bool false]) (by kernel_rfl) rfl (by kernel_rfl)
instance tSc94 : TSc Tryz.prog 94 := mSc
instance tSc95 : TSc Tryz.prog 95 := mSc
instance tSl95 : TSl Tryz.prog 95 5 1 := mSl
instance tZe97 : TZe Tryz.prog 97 [.pointer Option.none, .slice Option.none 0 0] := mkTZe (z := .agg #[.pointer Option.none, .slice Option.none 0 0]) (by kernel_rfl) rfl
instance tFl97_0 : TFl Tryz.prog 97 0 0 := mFl
instance tFl97_1 : TFl Tryz.prog 97 1 1 := mFl
instance tSc106 : TSc Tryz.prog 106 := mSc
instance tAg109 : TAg Tryz.prog 109 5 := mAg
instance tFl109_0 : TFl Tryz.prog 109 0 0 := mFl
instance tBd109 : TBd Tryz.prog 109 [.slice Option.none 0 0, .slice Option.none 0 0, .slice Option.none 0 0, .slice Option.none 0 0, .slice Option.none 0 0] (fun i => [(0, 5)][i]?) := mkTBd (z := .agg #[.slice Option.none 0 0, .slice Option.none 0 0, .slice Option.none 0 0, .slice Option.none 0 0, .slice Option.none 0 0]) (by kernel_rfl) rfl (by kernel_rfl)
instance tAg111 : TAg Tryz.prog 111 13 := mAg
instance tZe111 : TZe Tryz.prog 111 [.slice Option.none 0 0, .slice Option.none 0 0, .slice Option.none 0 0, .slice Option.none 0 0, .slice Option.none 0 0, .int .i64 0, .int .i64 0, .int .i64 0, .int .i64 0, .int .i64 0, .int .i64 0, .int .i64 0, .slice Option.none 0 0] := mkTZe (z := .agg #[.slice Option.none 0 0, .slice Option.none 0 0, .slice Option.none 0 0, .slice Option.none 0 0, .slice Option.none 0 0, .int .i64 0, .int .i64 0, .int .i64 0, .int .i64 0, .int .i64 0, .int .i64 0, .int .i64 0, .slice Option.none 0 0]) (by kernel_rfl) rfl
instance tFl111_0 : TFl Tryz.prog 111 0 0 := mFl
instance tFl111_1 : TFl Tryz.prog 111 1 5 := mFl
instance tFl111_2 : TFl Tryz.prog 111 2 12 := mFl
instance tBd111 : TBd Tryz.prog 111 [.slice Option.none 0 0, .slice Option.none 0 0, .slice Option.none 0 0, .slice Option.none 0 0, .slice Option.none 0 0, .int .i64 0, .int .i64 0, .int .i64 0, .int .i64 0, .int .i64 0, .int .i64 0, .int .i64 0, .slice Option.none 0 0] (fun i => [(0, 5), (5, 7), (12, 1)][i]?) := mkTBd (z := .agg #[.slice Option.none 0 0, .slice Option.none 0 0, .slice Option.none 0 0, .slice Option.none 0 0, .slice Option.none 0 0, .int .i64 0, .int .i64 0, .int .i64 0, .int .i64 0, .int .i64 0, .int .i64 0, .int .i64 0, .slice Option.none 0 0]) (by kernel_rfl) rfl (by kernel_rfl)
instance tSc114 : TSc Tryz.prog 114 := mSc
instance tZe114 : TZe Tryz.prog 114 [.map Option.none] := mkTZe (z := .map Option.none) (by kernel_rfl) rfl
instance tSc115 : TSc Tryz.prog 115 := mSc
instance tZe115 : TZe Tryz.prog 115 [.nilFunc] := mkTZe (z := .nilFunc) (by kernel_rfl) rfl
instance tAg117 : TAg Tryz.prog 117 2 := mAg
instance tZe117 : TZe Tryz.prog 117 [.int .i64 0, .int .i64 0] := mkTZe (z := .agg #[.int .i64 0, .int .i64 0]) (by kernel_rfl) rfl
instance tFl117_0 : TFl Tryz.prog 117 0 0 := mFl
instance tFl117_1 : TFl Tryz.prog 117 1 1 := mFl
instance tBd117 : TBd Tryz.prog 117 [.int .i64 0, .int .i64 0] (fun i => [(0, 1), (1, 1)][i]?) := mkTBd (z := .agg #[.int .i64 0, .int .i64 0]) (by kernel_rfl) rfl (by kernel_rfl)
instance tAg119 : TAg Tryz.prog 119 3 := mAg
instance tZe119 : TZe Tryz.prog 119 [.int .i64 0, .int .i64 0, .int .i64 0] := mkTZe (z := .agg #[.int .i64 0, .int .i64 0, .int .i64 0]) (by kernel_rfl) rfl
instance tFl119_0 : TFl Tryz.prog 119 0 0 := mFl
instance tFl119_1 : TFl Tryz.prog 119 1 1 := mFl
instance tBd119 : TBd Tryz.prog 119 [.int .i64 0, .int .i64 0, .int .i64 0] (fun i => [(0, 1), (1, 2)][i]?) := mkTBd (z := .agg #[.int .i64 0, .int .i64 0, .int .i64 0]) (by kernel_rfl) rfl (by kernel_rfl)
instance tEq119 : TEq Tryz.prog 119 3 := mkTEq (by kernel_rfl) (by kernel_rfl) (by kernel_rfl)
instance tSc123 : TSc Tryz.prog 123 := mSc
instance tZe123 : TZe Tryz.prog 123 [.nilFunc] := mkTZe (z := .nilFunc) (by kernel_rfl) rfl
instance tAg128 : TAg Tryz.prog 128 4 := mAg
instance tZe128 : TZe Tryz.prog 128 [.int .i64 0, .int .i64 0, .int .i64 0, .int .i64 0] := mkTZe (z := .agg #[.int .i64 0, .int .i64 0, .int .i64 0, .int .i64 0]) (by kernel_rfl) rfl
instance tFl128_0 : TFl Tryz.prog 128 0 0 := mFl
instance tFl128_1 : TFl Tryz.prog 128 1 2 := mFl
instance tBd128 : TBd Tryz.prog 128 [.int .i64 0, .int .i64 0, .int .i64 0, .int .i64 0] (fun i => [(0, 2), (2, 2)][i]?) := mkTBd (z := .agg #[.int .i64 0, .int .i64 0, .int .i64 0, .int .i64 0]) (by kernel_rfl) rfl (by kernel_rfl)
instance tSc129 : TSc Tryz.prog 129 := mSc
instance tSl129 : TSl Tryz.prog 129 128 4 := mSl
instance tSc130 : TSc Tryz.prog 130 := mSc
instance tSl130 : TSl Tryz.prog 130 57 1 := mSl
instance tSc131 : TSc Tryz.prog 131 := mSc
instance tSl131 : TSl Tryz.prog 131 132 1 := mSl
instance tSc132 : TSc Tryz.prog 132 := mSc
instance tSl132 : TSl Tryz.prog 132 44 2 := mSl
instance tAg134 : TAg Tryz.prog 134 8 := mAg
instance tZe134 : TZe Tryz.prog 134 [.int .i64 0, .int .i64 0, .int .i64 0, .int .i64 0, .int .i64 0, .int .i64 0, .int .i64 0, .int .i64 0] := mkTZe (z := .agg #[.int .i64 0, .int .i64 0, .int .i64 0, .int .i64 0, .int .i64 0, .int .i64 0, .int .i64 0, .int .i64 0]) (by kernel_rfl) rfl
instance tFl134_0 : TFl Tryz.prog 134 0 0 := mFl
instance tFl134_1 : TFl Tryz.prog 134 1 2 := mFl
instance tFl134_2 : TFl Tryz.prog 134 2 4 := mFl
instance tFl134_3 : TFl Tryz.prog 134 3 6 := mFl
instance tBd134 : TBd Tryz.prog 134 [.int .i64 0, .int .i64 0, .int .i64 0, .int .i64 0, .int .i64 0, .int .i64 0, .int .i64 0, .int .i64 0] (fun i => [(0, 2), (2, 2), (4, 2), (6, 2)][i]?) := mkTBd (z := .agg #[.int .i64 0, .int .i64 0, .int .i64 0, .int .i64 0, .int .i64 0, .int .i64 0, .int .i64 0, .int .i64 0]) (by kernel_rfl) rfl (by kernel_rfl)
instance tEq134 : TEq Tryz.prog 134 8 := mkTEq (by kernel_rfl) (by kernel_rfl) (by kernel_rfl)
instance tAg136 : TAg Tryz.prog 136 3 := mAg
instance tAg138 : TAg Tryz.prog 138 17 := mAg
instance tZe138 : TZe Tryz.prog 138 [.slice Option.none 0 0, .slice Option.none 0 0, .slice Option.none 0 0, .int .i64 0, .int .i64 0, .int .i64 0, .int .i64 0, .int .i64 0, .int .i64 0, .int .i64 0, .int .i64 0, .int .i64 0, .int .i64 0, .int .i64 0, .int .i64 0, .int .i64 0, .slice Option.none 0 0] := mkTZe (z := .agg #[.slice Option.none 0 0, .slice Option.none 0 0, .slice Option.none 0 0, .int .i64 0, .int .i64 0, .int .i64 0, .int .i64 0, .int .i64 0, .int .i64 0, .int .i64 0, .int .i64 0, .int .i64 0, .int .i64 0, .int .i64 0, .int .i64 0, .int .i64 0, .slice Option.none 0 0]) (by kernel_rfl) rfl
instance tFl138_0 : TFl Tryz.prog 138 0 0 := mFl
instance tFl138_1 : TFl Tryz.prog 138 1 1 := mFl
instance tFl138_2 : TFl Tryz.prog 138 2 2 := mFl
instance tFl138_3 : TFl Tryz.prog 138 3 3 := mFl
instance tFl138_4 : TFl Tryz.prog 138 4 11 := mFl
instance tFl138_5 : TFl Tryz.prog 138 5 14 := mFl
instance tFl138_6 : TFl Tryz.prog 138 6 15 := mFl
instance tFl138_7 : TFl Tryz.prog 138 7 16 := mFl
instance tBd138 : TBd Tryz.prog 138 [.slice Option.none 0 0, .slice Option.none 0 0, .slice Option.none 0 0, .int .i64 0, .int .i64 0, .int .i64 0, .int .i64 0, .int .i64 0, .int .i64 0, .int .i64 0, .int .i64 0, .int .i64 0, .int .i64 0, .int .i64 0, .int .i64 0, .int .i64 0, .slice Option.none 0 0] (fun i => [(0, 1), (1, 1), (2, 1), (3, 8), (11, 3), (14, 1), (15, 1), (16, 1)][i]?) := mkTBd (z := .agg #[.slice Option.none 0 0, .slice Option.none 0 0, .slice Option.none 0 0, .int .i64 0, .int .i64 0, .int .i64 0, .int .i64 0, .int .i64 0, .int .i64 0, .int .i64 0, .int .i64 0, .int .i64 0, .int .i64 0, .int .i64 0, .int .i64 0, .int .i64 0, .slice Option.none 0 0]) (by kernel_rfl) rfl (by kernel_rfl)
instance tSc139 : TSc Tryz.prog 139 := mSc
instance tZe139 : TZe Tryz.prog 139 [.slice Option.none 0 0] := mkTZe (z := .slice Option.none 0 0) (by kernel_rfl) rfl
instance tSl139 : TSl Tryz.prog 139 178 2 := mSl
instance tAg145 : TAg Tryz.prog 145 14 := mAg
instance tZe145 : TZe Tryz.prog 145 [.int .i64 0, .int .i64 0, .int .i64 0, .int .i64 0, .int .i64 0, .int .i64 0, .int .i64 0, .int .i64 0, .int .i64 0, .int .i64 0, .int .i64 0, .int .i64 0, .int .i64 0, .int .i64 0] := mkTZe (z := .agg #[.int .i64 0, .int .i64 0, .int .i64 0, .int .i64 0, .int .i64 0, .int .i64 0, .int .i64 0, .int .i64 0, .int .i64 0, .int .i64 0, .int .i64 0, .int .i64 0, .int .i64 0, .int .i64 0]) (by kernel_rfl) rfl
instance tFl145_0 : TFl Tryz.prog 145 0 0 := mFl
instance tFl145_1 : TFl Tryz.prog 145 1 1 := mFl
instance tFl145_2 : TFl Tryz.prog 145 2 2 := mFl
instance tFl145_3 : TFl Tryz.prog 145 3 3 := mFl
instance tFl145_4 : TFl Tryz.prog 145 4 4 := mFl
instance tBd145 : TBd Tryz.prog 145 [.int .i64 0, .int .i64 0, .int .i64 0, .int .i64 0, .int .i64 0, .int .i64 0, .int .i64 0, .int .i64 0, .int .i64 0, .int .i64 0, .int .i64 0, .int .i64 0, .int .i64 0, .int .i64 0] (fun i => [(0, 1), (1, 1), (2, 1), (3, 1), (4, 1), (5, 1), (6, 8)][i]?) := mkTBd (z := .agg #[.int .i64 0, .int .i64 0, .int .i64 0, .int .i64 0, .int .i64 0, .int .i64 0, .int .i64 0, .int .i64 0, .int .i64 0, .int .i64 0, .int .i64 0, .int .i64 0, .int .i64 0, .int .i64 0]) (by kernel_rfl) rfl (by kernel_rfl)
instance tEq145 : TEq Tryz.prog 145 14 := mkTEq (by kernel_rfl) (by kernel_rfl) (by kernel_rfl)
instance tSc146 : TSc Tryz.prog 146 := mSc
instance tSl146 : TSl Tryz.prog 146 145 14 := mSl
instance tAg148 : TAg Tryz.prog 148 2 := mAg
instance tFl148_0 : TFl Tryz.prog 148 0 0 := mFl
instance tFl148_1 : TFl Tryz.prog 148 1 1 := mFl
instance tBd148 : TBd Tryz.prog 148 [.slice Option.none 0 0, .slice Option.none 0 0] (fun i => [(0, 1), (1, 1)][i]?) := mkTBd (z := .agg #[.slice Option.none 0 0, .slice Option.none 0 0]) (by kernel_rfl) rfl (by kernel_rfl)
instance tAg151 : TAg Tryz.prog 151 5 := mAg
instance tZe151 : TZe Tryz.prog 151 [.int .i64 0, .int .i64 0, .int .i64 0, .int .i64 0, .int .i64 0] := mkTZe (z := .agg #[.int .i64 0, .int .i64 0, .int .i64 0, .int .i64 0, .int .i64 0]) (by kernel_rfl) rfl
instance tFl151_0 : TFl Tryz.prog 151 0 0 := mFl
instance tFl151_1 : TFl Tryz.prog 151 1 1 := mFl
instance tFl151_2 : TFl Tryz.prog 151 2 2 := mFl
instance tFl151_3 : TFl Tryz.prog 151 3 3 := mFl
instance tFl151_4 : TFl Tryz.prog 151 4 4 := mFl
instance tBd151 : TBd Tryz.prog 151 [.int .i64 0, .int .i64 0, .int .i64 0, .int .i64 0, .int .i64 0] (fun i => [(0, 1), (1, 1), (2, 1), (3, 1), (4, 1)][i]?) := mkTBd (z := .agg #[.int .i64 0, .int .i64 0, .int .i64 0, .int .i64 0, .int .i64 0]) (by kernel_rfl) rfl (by kernel_rfl)
instance tSc152 : TSc Tryz.prog 152 := mSc
instance tSl152 : TSl Tryz.prog 152 151 5 := mSl
instance tAg154 : TAg Tryz.prog 154 5 := mAg
instance tFl154_0 : TFl Tryz.prog 154 0 0 := mFl
instance tFl154_1 : TFl Tryz.prog 154 1 1 := mFl
instance tFl154_2 : TFl Tryz.prog 154 2 2 := mFl
instance tFl154_3 : TFl Tryz.prog 154 3 4 := mFl
instance tBd154 : TBd Tryz.prog 154 [.int .i64 0, .slice Option.none 0 0, .int .i64 0, .int .i64 0, .int .i64 0] (fun i => [(0, 1), (1, 1), (2, 2), (4, 1)][i]?) := mkTBd (z := .agg #[.int .i64 0, .slice Option.none 0 0, .int .i64 0, .int .i64 0, .int .i64 0]) (by kernel_rfl) rfl (by kernel_rfl)
instance tSl155 : TSl Tryz.prog 155 9 1 := mSl
instance tAg161 : TAg Tryz.prog 161 4 := mAg
instance tZe161 : TZe Tryz.prog 161 [.int .i64 0, .int .i64 0, .int .i64 0, .int .i64 0] := mkTZe (z := .agg #[.int .i64 0, .int .i64 0, .int .i64 0, .int .i64 0]) (by kernel_rfl) rfl
instance tAr161 : TAr Tryz.prog 161 4 1 := mkTAr (b := false) (by kernel_rfl)
instance tAv161 : TAv Tryz.prog 161 true 4 1 := mkTAv (b := false) (by kernel_rfl) (by simp)
instance tBd161 : TBd Tryz.prog 161 [.int .i64 0, .int .i64 0, .int .i64 0, .int .i64 0] (fun i => some (i * 1, 1)) := mkTBda (n := 4) (b := false) (z := .agg #[.int .i64 0, .int .i64 0, .int .i64 0, .int .i64 0]) (by kernel_rfl) rfl (by kernel_rfl)
instance tSc162 : TSc Tryz.prog 162 := mSc
instance tSc165 : TSc Tryz.prog 165 := mSc
instance tSc166 : TSc Tryz.prog 166 := mSc
instance tAg168 : TAg Tryz.prog 168 2 := mAg
instance tZe168 : TZe Tryz.prog 168 [.pointer Option.none, .map Option.none] := mkTZe (z := .agg #[.pointer Option.none, .map Option.none]) (by kernel_rfl) rfl
instance tFl168_0 : TFl Tryz.prog 168 0 0 := mFl
instance tFl168_1 : TFl Tryz.prog 168 1 1 := mFl
instance tBd168 : TBd Tryz.prog 168 [.pointer Option.none, .map Option.none] (fun i => [(0, 1), (1, 1)][i]?) := mkTBd (z := .agg #[.pointer Option.none, .map Option.none]) (by kernel_rfl) rfl (by kernel_rfl)
instance tSc171 : TSc Tryz.prog 171 := mSc
instance tFl173_0 : TFl Tryz.prog 173 0 0 := mFl
instance tFl173_1 : TFl Tryz.prog 173 1 17 := mFl
instance tBd173 : TBd Tryz.prog 173 [.slice Option.none 0 0, .slice Option.none 0 0, .slice Option.none 0 0, .int .i64 0, .int .i64 0, .int .i64 0, .int .i64 0, .int .i64 0, .int .i64 0, .int .i64 0, .int .i64 0, .int .i64 0, .int .i64 0, .int .i64 0, .int .i64 0, .int .i64 0, .slice Option.none 0 0, .map Option.none] (fun i => [(0, 17), (17, 1)][i]?) := mkTBd (z := .agg #[.slice Option.none 0 0, .slice Option.none 0 0, .slice Option.none 0 0, .int .i64 0, .int .i64 0, .int .i64 0, .int .i64 0, .int .i64 0, .int .i64 0, .int .i64 0, .int .i64 0, .int .i64 0, .int .i64 0, .int .i64 0, .int .i64 0, .int .i64 0, .slice Option.none 0 0, .map Option.none]) (by kernel_rfl) rfl (by kernel_rfl)
instance tAg178 : TAg Tryz.prog 178 2 := mAg
instance tZe178 : TZe Tryz.prog 178 [.int .i64 0, .int .i64 0] := mkTZe (z := .agg #[.int .i64 0, .int .i64 0]) (by kernel_rfl) rfl
instance tFl178_0 : TFl Tryz.prog 178 0 0 := mFl
instance tFl178_1 : TFl Tryz.prog 178 1 1 := mFl
instance tBd178 : TBd Tryz.prog 178 [.int .i64 0, .int .i64 0] (fun i => [(0, 1), (1, 1)][i]?) := mkTBd (z := .agg #[.int .i64 0, .int .i64 0]) (by kernel_rfl) rfl (by kernel_rfl)
instance tSc180 : TSc Tryz.prog 180 := mSc
instance tZe180 : TZe Tryz.prog 180 [.nilFunc] := mkTZe (z := .nilFunc) (by kernel_rfl) rfl
instance tAg181 : TAg Tryz.prog 181 3 := mAg
instance tZe181 : TZe Tryz.prog 181 [.int .i64 0, .int .i64 0, .int .i64 0] := mkTZe (z := .agg #[.int .i64 0, .int .i64 0, .int .i64 0]) (by kernel_rfl) rfl
instance tFl181_0 : TFl Tryz.prog 181 0 0 := mFl
instance tFl181_1 : TFl Tryz.prog 181 1 2 := mFl
instance tBd181 : TBd Tryz.prog 181 [.int .i64 0, .int .i64 0, .int .i64 0] (fun i => [(0, 2), (2, 1)][i]?) := mkTBd (z := .agg #[.int .i64 0, .int .i64 0, .int .i64 0]) (by kernel_rfl) rfl (by kernel_rfl)
instance tAg183 : TAg Tryz.prog 183 4 := mAg
instance tZe183 : TZe Tryz.prog 183 [.int .i64 0, .int .i64 0, .int .i64 0, .int .i64 0] := mkTZe (z := .agg #[.int .i64 0, .int .i64 0, .int .i64 0, .int .i64 0]) (by kernel_rfl) rfl
instance tFl183_0 : TFl Tryz.prog 183 0 0 := mFl
instance tFl183_1 : TFl Tryz.prog 183 1 3 := mFl
instance tBd183 : TBd Tryz.prog 183 [.int .i64 0, .int .i64 0, .int .i64 0, .int .i64 0] (fun i => [(0, 3), (3, 1)][i]?) := mkTBd (z := .agg #[.int .i64 0, .int .i64 0, .int .i64 0, .int .i64 0]) (by kernel_rfl) rfl (by kernel_rfl)
instance tSc189 : TSc Tryz.prog 189 := mSc
instance tSl189 : TSl Tryz.prog 189 231 1 := mSl
instance tAg191 : TAg Tryz.prog 191 2 := mAg
instance tZe191 : TZe Tryz.prog 191 [.slice Option.none 0 0, .slice Option.none 0 0] := mkTZe (z := .agg #[.slice Option.none 0 0, .slice Option.none 0 0]) (by kernel_rfl) rfl
instance tFl191_0 : TFl Tryz.prog 191 0 0 := mFl
instance tFl191_1 : TFl Tryz.prog 191 1 1 := mFl
instance tAg198 : TAg Tryz.prog 198 5 := mAg
instance tZe198 : TZe Tryz.prog 198 [.int .i64 0, .slice Option.none 0 0, .int .i64 0, .int .i64 0, .int .i64 0] := mkTZe (z := .agg #[.int .i64 0, .slice Option.none 0 0, .int .i64 0, .int .i64 0, .int .i64 0]) (by kernel_rfl) rfl
instance tFl198_0 : TFl Tryz.prog 198 0 0 := mFl
instance tBd198 : TBd Tryz.prog 198 [.int .i64 0, .slice Option.none 0 0, .int .i64 0, .int .i64 0, .int .i64 0] (fun i => [(0, 5)][i]?) := mkTBd (z := .agg #[.int .i64 0, .slice Option.none 0 0, .int .i64 0, .int .i64 0, .int .i64 0]) (by kernel_rfl) rfl (by kernel_rfl)
instance tAg221 : TAg Tryz.prog 221 6 := mAg
instance tZe221 : TZe Tryz.prog 221 [.int .i64 0, .int .i64 0, .int .i64 0, .int .i64 0, .int .i64 0, .int .i64 0] := mkTZe (z := .agg #[.int .i64 0, .int .i64 0, .int .i64 0, .int .i64 0, .int .i64 0, .int .i64 0]) (by kernel_rfl) rfl
instance tBd221 : TBd Tryz.prog 221 [.int .i64 0, .int .i64 0, .int .i64 0, .int .i64 0, .int .i64 0, .int .i64 0] (fun i => some (i * 3, 3)) := mkTBda (n := 2) (b := true) (z := .agg #[.int .i64 0, .int .i64 0, .int .i64 0, .int .i64 0, .int .i64 0, .int .i64 0]) (by kernel_rfl) rfl (by kernel_rfl)
instance tEq221 : TEq Tryz.prog 221 6 := mkTEq (by kernel_rfl) (by kernel_rfl) (by kernel_rfl)
instance tAg223 : TAg Tryz.prog 223 2 := mAg
instance tZe223 : TZe Tryz.prog 223 [.slice Option.none 0 0, .int .i64 0] := mkTZe (z := .agg #[.slice Option.none 0 0, .int .i64 0]) (by kernel_rfl) rfl
instance tFl223_0 : TFl Tryz.prog 223 0 0 := mFl
instance tFl223_1 : TFl Tryz.prog 223 1 1 := mFl
instance tBd223 : TBd Tryz.prog 223 [.slice Option.none 0 0, .int .i64 0] (fun i => [(0, 1), (1, 1)][i]?) := mkTBd (z := .agg #[.slice Option.none 0 0, .int .i64 0]) (by kernel_rfl) rfl (by kernel_rfl)
instance tSc229 : TSc Tryz.prog 229 := mSc
instance tSc231 : TSc Tryz.prog 231 := mSc
instance tZe231 : TZe Tryz.prog 231 [.nilIface] := mkTZe (z := .nilIface) (by kernel_rfl) rfl
instance tZe238 : TZe Tryz.prog 238 [.int .u8 0, .int .u8 0, .int .u8 0, .int .u8 0, .int .u8 0, .int .u8 0, .int .u8 0, .int .u8 0, .int .u8 0, .int .u8 0, .int .u8 0, .int .u8 0, .int .u8 0, .int .u8 0, .int .u8 0, .int .u8 0, .int .u8 0, .int .u8 0, .int .u8 0, .int .u8 0, .int .u8 0, .int .u8 0, .int .u8 0, .int .u8 0] := mkTZe (z := .agg #[.int .u8 0, .int .u8 0, .int .u8 0, .int .u8 0, .int .u8 0, .int .u8 0, .int .u8 0, .int .u8 0, .int .u8 0, .int .u8 0, .int .u8 0, .int .u8 0, .int .u8 0, .int .u8 0, .int .u8 0, .int .u8 0, .int .u8 0, .int .u8 0, .int .u8 0, .int .u8 0, .int .u8 0, .int .u8 0, .int .u8 0, .int .u8 0]) (by kernel_rfl) rfl
instance tSc239 : TSc Tryz.prog 239 := mSc
instance tAg254 : TAg Tryz.prog 254 9 := mAg
instance tZe254 : TZe Tryz.prog 254 [.int .i64 0, .int .i64 0, .int .i64 0, .int .i64 0, .int .i64 0, .int .i64 0, .int .i64 0, .int .i64 0, .int .i64 0] := mkTZe (z := .agg #[.int .i64 0, .int .i64 0, .int .i64 0, .int .i64 0, .int .i64 0, .int .i64 0, .int .i64 0, .int .i64 0, .int .i64 0]) (by kernel_rfl) rfl
instance tFl254_0 : TFl Tryz.prog 254 0 0 := mFl
instance tFl254_1 : TFl Tryz.prog 254 1 8 := mFl
instance tBd254 : TBd Tryz.prog 254 [.int .i64 0, .int .i64 0, .int .i64 0, .int .i64 0, .int .i64 0, .int .i64 0, .int .i64 0, .int .i64 0, .int .i64 0] (fun i => [(0, 8), (8, 1)][i]?) := mkTBd (z := .agg #[.int .i64 0, .int .i64 0, .int .i64 0, .int .i64 0, .int .i64 0, .int .i64 0, .int .i64 0, .int .i64 0, .int .i64 0]) (by kernel_rfl) rfl (by kernel_rfl)
instance tAg262 : TAg Tryz.prog 262 4 := mAg
instance tZe262 : TZe Tryz.prog 262 [.int .i64 0, .int .i64 0, .int .i64 0, .int .i64 0] := mkTZe (z := .agg #[.int .i64 0, .int .i64 0, .int .i64 0, .int .i64 0]) (by kernel_rfl) rfl
instance tFl262_0 : TFl Tryz.prog 262 0 0 := mFl
instance tFl262_1 : TFl Tryz.prog 262 1 2 := mFl
instance tBd262 : TBd Tryz.prog 262 [.int .i64 0, .int .i64 0, .int .i64 0, .int .i64 0] (fun i => [(0, 2), (2, 2)][i]?) := mkTBd (z := .agg #[.int .i64 0, .int .i64 0, .int .i64 0, .int .i64 0]) (by kernel_rfl) rfl (by kernel_rfl)
instance tEq262 : TEq Tryz.prog 262 4 := mkTEq (by kernel_rfl) (by kernel_rfl) (by kernel_rfl)
instance tSc268 : TSc Tryz.prog 268 := mSc
instance tSc269 : TSc Tryz.prog 269 := mSc
instance tAg275 : TAg Tryz.prog 275 8 := mAg
instance tZe275 : TZe Tryz.prog 275 [.int .i64 0, .int .i64 0, .int .i64 0, .int .i64 0, .int .i64 0, .int .i64 0, .int .i64 0, .int .i64 0] := mkTZe (z := .agg #[.int .i64 0, .int .i64 0, .int .i64 0, .int .i64 0, .int .i64 0, .int .i64 0, .int .i64 0, .int .i64 0]) (by kernel_rfl) rfl
instance tAr275 : TAr Tryz.prog 275 4 2 := mkTAr (b := true) (by kernel_rfl)
instance tAv275 : TAv Tryz.prog 275 false 4 2 := mkTAv (b := true) (by kernel_rfl) (by simp)
instance tBd275 : TBd Tryz.prog 275 [.int .i64 0, .int .i64 0, .int .i64 0, .int .i64 0, .int .i64 0, .int .i64 0, .int .i64 0, .int .i64 0] (fun i => some (i * 2, 2)) := mkTBda (n := 4) (b := true) (z := .agg #[.int .i64 0, .int .i64 0, .int .i64 0, .int .i64 0, .int .i64 0, .int .i64 0, .int .i64 0, .int .i64 0]) (by kernel_rfl) rfl (by kernel_rfl)
instance tAg280 : TAg Tryz.prog 280 2 := mAg
instance tZe280 : TZe Tryz.prog 280 [.int .i64 0, .int .i64 0] := mkTZe (z := .agg #[.int .i64 0, .int .i64 0]) (by kernel_rfl) rfl
instance tFl280_0 : TFl Tryz.prog 280 0 0 := mFl
instance tFl280_1 : TFl Tryz.prog 280 1 1 := mFl
instance tBd280 : TBd Tryz.prog 280 [.int .i64 0, .int .i64 0] (fun i => [(0, 1), (1, 1)][i]?) := mkTBd (z := .agg #[.int .i64 0, .int .i64 0]) (by kernel_rfl) rfl (by kernel_rfl)
instance tAg282 : TAg Tryz.prog 282 4 := mAg
instance tZe282 : TZe Tryz.prog 282 [.int .i64 0, .int .i64 0, .int .i64 0, .int .i64 0] := mkTZe (z := .agg #[.int .i64 0, .int .i64 0, .int .i64 0, .int .i64 0]) (by kernel_rfl) rfl
instance tFl282_1 : TFl Tryz.prog 282 1 2 := mFl
instance tBd282 : TBd Tryz.prog 282 [.int .i64 0, .int .i64 0, .int .i64 0, .int .i64 0] (fun i => [(0, 2), (2, 2)][i]?) := mkTBd (z := .agg #[.int .i64 0, .int .i64 0, .int .i64 0, .int .i64 0]) (by kernel_rfl) rfl (by kernel_rfl)
instance tAr293 : TAr Tryz.prog 293 20 1 := mkTAr (b := false) (by kernel_rfl)
instance tZe294 : TZe Tryz.prog 294 [.int .u8 0, .int .u8 0, .int .u8 0, .int .u8 0, .int .u8 0, .int .u8 0, .int .u8 0, .int .u8 0, .int .u8 0, .int .u8 0, .int .u8 0, .int .u8 0, .int .u8 0, .int .u8 0, .int .u8 0, .int .u8 0, .int .u8 0, .int .u8 0, .int .u8 0, .int .u8 0, .int .u8 0, .int .u8 0, .int .u8 0, .int .u8 0, .int .u8 0, .int .u8 0, .int .u8 0, .int .u8 0, .int .u8 0, .int .u8 0, .int .u8 0, .int .u8 0, .int .u8 0, .int .u8 0, .int .u8 0, .int .u8 0, .int .u8 0, .int .u8 0, .int .u8 0, .int .u8 0, .int .u8 0, .int .u8 0, .int .u8 0, .int .u8 0, .int .u8 0, .int .u8 0, .int .u8 0, .int .u8 0, .int .u8 0, .int .u8 0, .int .u8 0, .int .u8 0, .int .u8 0, .int .u8 0, .int .u8 0, .int .u8 0, .int .u8 0, .int .u8 0, .int .u8 0, .int .u8 0, .int .u8 0, .int .u8 0, .int .u8 0, .int .u8 0, .int .u8 0] := mkTZe (z := .agg #[.int .u8 0, .int .u8 0, .int .u8 0, .int .u8 0, .int .u8 0, .int .u8 0, .int .u8 0, .int .u8 0, .int .u8 0, .int .u8 0, .int .u8 0, .int .u8 0, .int .u8 0, .int .u8 0, .int .u8 0, .int .u8 0, .int .u8 0, .int .u8 0, .int .u8 0, .int .u8 0, .int .u8 0, .int .u8 0, .int .u8 0, .int .u8 0, .int .u8 0, .int .u8 0, .int .u8 0, .int .u8 0, .int .u8 0, .int .u8 0, .int .u8 0, .int .u8 0, .int .u8 0, .int .u8 0, .int .u8 0, .int .u8 0, .int .u8 0, .int .u8 0, .int .u8 0, .int .u8 0, .int .u8 0, .int .u8 0, .int .u8 0, .int .u8 0, .int .u8 0, .int .u8 0, .int .u8 0, .int .u8 0, .int .u8 0, .int .u8 0, .int .u8 0, .int .u8 0, .int .u8 0, .int .u8 0, .int .u8 0, .int .u8 0, .int .u8 0, .int .u8 0, .int .u8 0, .int .u8 0, .int .u8 0, .int .u8 0, .int .u8 0, .int .u8 0, .int .u8 0]) (by kernel_rfl) rfl
instance tAr294 : TAr Tryz.prog 294 65 1 := mkTAr (b := false) (by kernel_rfl)
instance tAg301 : TAg Tryz.prog 301 5 := mAg
instance tZe301 : TZe Tryz.prog 301 [.int .i64 0, .string ByteArray.empty, .int .i64 0, .int .i64 0, .int .i64 0] := mkTZe (z := .agg #[.int .i64 0, .string ByteArray.empty, .int .i64 0, .int .i64 0, .int .i64 0]) (by kernel_rfl) rfl
instance tFl301_0 : TFl Tryz.prog 301 0 0 := mFl
instance tFl301_1 : TFl Tryz.prog 301 1 1 := mFl
instance tFl301_2 : TFl Tryz.prog 301 2 2 := mFl
instance tFl301_3 : TFl Tryz.prog 301 3 3 := mFl
instance tFl301_4 : TFl Tryz.prog 301 4 4 := mFl
instance tSc310 : TSc Tryz.prog 310 := mSc
instance tAv311 : TAv Tryz.prog 311 true 7 1 := mkTAv (b := false) (by kernel_rfl) (by simp)
instance tBd311 : TBd Tryz.prog 311 [.bool false, .bool false, .bool false, .bool false, .bool false, .bool false, .bool false] (fun i => some (i * 1, 1)) := mkTBda (n := 7) (b := false) (z := .agg #[.bool false, .bool false, .bool false, .bool false, .bool false, .bool false, .bool false]) (by kernel_rfl) rfl (by kernel_rfl)
instance tSc314 : TSc Tryz.prog 314 := mSc
instance tZe314 : TZe Tryz.prog 314 [.nilFunc] := mkTZe (z := .nilFunc) (by kernel_rfl) rfl
instance tSc315 : TSc Tryz.prog 315 := mSc
instance tZe315 : TZe Tryz.prog 315 [.nilFunc] := mkTZe (z := .nilFunc) (by kernel_rfl) rfl
instance tAg323 : TAg Tryz.prog 323 4 := mAg
instance tZe323 : TZe Tryz.prog 323 [.nilFunc, .nilFunc, .nilFunc, .nilFunc] := mkTZe (z := .agg #[.nilFunc, .nilFunc, .nilFunc, .nilFunc]) (by kernel_rfl) rfl
instance tAr323 : TAr Tryz.prog 323 4 1 := mkTAr (b := false) (by kernel_rfl)
instance tBd323 : TBd Tryz.prog 323 [.nilFunc, .nilFunc, .nilFunc, .nilFunc] (fun i => some (i * 1, 1)) := mkTBda (n := 4) (b := false) (z := .agg #[.nilFunc, .nilFunc, .nilFunc, .nilFunc]) (by kernel_rfl) rfl (by kernel_rfl)
instance tSc327 : TSc Tryz.prog 327 := mSc
instance tZe327 : TZe Tryz.prog 327 [.nilFunc] := mkTZe (z := .nilFunc) (by kernel_rfl) rfl
instance tAg338 : TAg Tryz.prog 338 4 := mAg
instance tZe338 : TZe Tryz.prog 338 [.int .i64 0, .int .i64 0, .int .i64 0, .int .i64 0] := mkTZe (z := .agg #[.int .i64 0, .int .i64 0, .int .i64 0, .int .i64 0]) (by kernel_rfl) rfl
instance tAr338 : TAr Tryz.prog 338 4 1 := mkTAr (b := false) (by kernel_rfl)
instance tBd338 : TBd Tryz.prog 338 [.int .i64 0, .int .i64 0, .int .i64 0, .int .i64 0] (fun i => some (i * 1, 1)) := mkTBda (n := 4) (b := false) (z := .agg #[.int .i64 0, .int .i64 0, .int .i64 0, .int .i64 0]) (by kernel_rfl) rfl (by kernel_rfl)
instance tAg347 : TAg Tryz.prog 347 3 := mAg
instance tZe347 : TZe Tryz.prog 347 [.int .i64 0, .int .i64 0, .int .i64 0] := mkTZe (z := .agg #[.int .i64 0, .int .i64 0, .int .i64 0]) (by kernel_rfl) rfl
instance tFl347_0 : TFl Tryz.prog 347 0 0 := mFl
instance tFl347_1 : TFl Tryz.prog 347 1 1 := mFl
instance tFl347_2 : TFl Tryz.prog 347 2 2 := mFl
instance tBd347 : TBd Tryz.prog 347 [.int .i64 0, .int .i64 0, .int .i64 0] (fun i => [(0, 1), (1, 1), (2, 1)][i]?) := mkTBd (z := .agg #[.int .i64 0, .int .i64 0, .int .i64 0]) (by kernel_rfl) rfl (by kernel_rfl)
instance tSc350 : TSc Tryz.prog 350 := mSc
instance tSc354 : TSc Tryz.prog 354 := mSc
instance tSl359 : TSl Tryz.prog 359 327 1 := mSl
instance tAr364 : TAr Tryz.prog 364 64 1 := mkTAr (b := false) (by kernel_rfl)
instance tSc367 : TSc Tryz.prog 367 := mSc
instance tAr368 : TAr Tryz.prog 368 8 1 := mkTAr (b := false) (by kernel_rfl)
instance tFl370_0 : TFl Tryz.prog 370 0 0 := mFl
instance tFl370_1 : TFl Tryz.prog 370 1 8 := mFl
instance tFl370_2 : TFl Tryz.prog 370 2 9 := mFl
instance tBd370 : TBd Tryz.prog 370 [.int .i64 0, .int .i64 0, .int .i64 0, .int .i64 0, .int .i64 0, .int .i64 0, .int .i64 0, .int .i64 0, .int .i64 0, .int .i64 0] (fun i => [(0, 8), (8, 1), (9, 1)][i]?) := mkTBd (z := .agg #[.int .i64 0, .int .i64 0, .int .i64 0, .int .i64 0, .int .i64 0, .int .i64 0, .int .i64 0, .int .i64 0, .int .i64 0, .int .i64 0]) (by kernel_rfl) rfl (by kernel_rfl)
instance tSl372 : TSl Tryz.prog 372 23 1 := mSl
instance tFn4 : TFn Tryz.prog 4 := mFn Tryz.func4
instance tFn5 : TFn Tryz.prog 5 := mFn Tryz.func5
instance tFn6 : TFn Tryz.prog 6 := mFn Tryz.func6
instance tFn7 : TFn Tryz.prog 7 := mFn Tryz.func7
instance tFn8 : TFn Tryz.prog 8 := mFn Tryz.func8
instance tFn9 : TFn Tryz.prog 9 := mFn Tryz.func9
instance tFn10 : TFn Tryz.prog 10 := mFn Tryz.func10
instance tFn11 : TFn Tryz.prog 11 := mFn Tryz.func11
instance tFn12 : TFn Tryz.prog 12 := mFn Tryz.func12
instance tFn13 : TFn Tryz.prog 13 := mFn Tryz.func13
instance tFn14 : TFn Tryz.prog 14 := mFn Tryz.func14
instance tFn15 : TFn Tryz.prog 15 := mFn Tryz.func15
instance tFn16 : TFn Tryz.prog 16 := mFn Tryz.func16
instance tFn17 : TFn Tryz.prog 17 := mFn Tryz.func17
instance tFn18 : TFn Tryz.prog 18 := mFn Tryz.func18
instance tFn19 : TFn Tryz.prog 19 := mFn Tryz.func19
instance tFn20 : TFn Tryz.prog 20 := mFn Tryz.func20
instance tFn21 : TFn Tryz.prog 21 := mFn Tryz.func21
instance tFn22 : TFn Tryz.prog 22 := mFn Tryz.func22
instance tFn23 : TFn Tryz.prog 23 := mFn Tryz.func23
instance tFn24 : TFn Tryz.prog 24 := mFn Tryz.func24
instance tFn25 : TFn Tryz.prog 25 := mFn Tryz.func25
instance tFn26 : TFn Tryz.prog 26 := mFn Tryz.func26
instance tFn27 : TFn Tryz.prog 27 := mFn Tryz.func27
instance tFn28 : TFn Tryz.prog 28 := mFn Tryz.func28
instance tFn29 : TFn Tryz.prog 29 := mFn Tryz.func29
instance tFn30 : TFn Tryz.prog 30 := mFn Tryz.func30
instance tFn31 : TFn Tryz.prog 31 := mFn Tryz.func31
instance tFn32 : TFn Tryz.prog 32 := mFn Tryz.func32
instance tFn33 : TFn Tryz.prog 33 := mFn Tryz.func33
instance tFn34 : TFn Tryz.prog 34 := mFn Tryz.func34
instance tFn35 : TFn Tryz.prog 35 := mFn Tryz.func35
instance tFn36 : TFn Tryz.prog 36 := mFn Tryz.func36
instance tFn37 : TFn Tryz.prog 37 := mFn Tryz.func37
instance tFn38 : TFn Tryz.prog 38 := mFn Tryz.func38
instance tFn39 : TFn Tryz.prog 39 := mFn Tryz.func39
instance tFn40 : TFn Tryz.prog 40 := mFn Tryz.func40
instance tFn41 : TFn Tryz.prog 41 := mFn Tryz.func41
instance tFn42 : TFn Tryz.prog 42 := mFn Tryz.func42
instance tFn43 : TFn Tryz.prog 43 := mFn Tryz.func43
instance tFn44 : TFn Tryz.prog 44 := mFn Tryz.func44
instance tFn45 : TFn Tryz.prog 45 := mFn Tryz.func45
instance tFn46 : TFn Tryz.prog 46 := mFn Tryz.func46
instance tFn47 : TFn Tryz.prog 47 := mFn Tryz.func47
instance tFn48 : TFn Tryz.prog 48 := mFn Tryz.func48
instance tFn49 : TFn Tryz.prog 49 := mFn Tryz.func49
instance tFn50 : TFn Tryz.prog 50 := mFn Tryz.func50
instance tFn51 : TFn Tryz.prog 51 := mFn Tryz.func51
instance tFn52 : TFn Tryz.prog 52 := mFn Tryz.func52
instance tFn53 : TFn Tryz.prog 53 := mFn Tryz.func53
instance tFn54 : TFn Tryz.prog 54 := mFn Tryz.func54
instance tFn55 : TFn Tryz.prog 55 := mFn Tryz.func55
instance tFn56 : TFn Tryz.prog 56 := mFn Tryz.func56
instance tFn57 : TFn Tryz.prog 57 := mFn Tryz.func57
instance tFn58 : TFn Tryz.prog 58 := mFn Tryz.func58
instance tFn59 : TFn Tryz.prog 59 := mFn Tryz.func59
instance tFn60 : TFn Tryz.prog 60 := mFn Tryz.func60
instance tFn61 : TFn Tryz.prog 61 := mFn Tryz.func61
instance tFn62 : TFn Tryz.prog 62 := mFn Tryz.func62
instance tFn63 : TFn Tryz.prog 63 := mFn Tryz.func63
instance tFn64 : TFn Tryz.prog 64 := mFn Tryz.func64
instance tFn65 : TFn Tryz.prog 65 := mFn Tryz.func65
instance tFn66 : TFn Tryz.prog 66 := mFn Tryz.func66
instance tFn67 : TFn Tryz.prog 67 := mFn Tryz.func67
instance tFn68 : TFn Tryz.prog 68 := mFn Tryz.func68
instance tFn69 : TFn Tryz.prog 69 := mFn Tryz.func69
instance tFn70 : TFn Tryz.prog 70 := mFn Tryz.func70
instance tFn71 : TFn Tryz.prog 71 := mFn Tryz.func71
instance tFn72 : TFn Tryz.prog 72 := mFn Tryz.func72
instance tFn73 : TFn Tryz.prog 73 := mFn Tryz.func73
instance tFn74 : TFn Tryz.prog 74 := mFn Tryz.func74
instance tFn75 : TFn Tryz.prog 75 := mFn Tryz.func75
instance tFn76 : TFn Tryz.prog 76 := mFn Tryz.func76
instance tFn77 : TFn Tryz.prog 77 := mFn Tryz.func77
instance tFn78 : TFn Tryz.prog 78 := mFn Tryz.func78
instance tFn79 : TFn Tryz.prog 79 := mFn Tryz.func79
instance tFn80 : TFn Tryz.prog 80 := mFn Tryz.func80
instance tFn81 : TFn Tryz.prog 81 := mFn Tryz.func81
instance tFn82 : TFn Tryz.prog 82 := mFn Tryz.func82
instance tFn83 : TFn Tryz.prog 83 := mFn Tryz.func83
instance tFn84 : TFn Tryz.prog 84 := mFn Tryz.func84
instance tFn85 : TFn Tryz.prog 85 := mFn Tryz.func85
instance tFn86 : TFn Tryz.prog 86 := mFn Tryz.func86
instance tFn87 : TFn Tryz.prog 87 := mFn Tryz.func87
instance tFn88 : TFn Tryz.prog 88 := mFn Tryz.func88
instance tFn89 : TFn Tryz.prog 89 := mFn Tryz.func89
instance tFn90 : TFn Tryz.prog 90 := mFn Tryz.func90
instance tFn91 : TFn Tryz.prog 91 := mFn Tryz.func91
instance tFn92 : TFn Tryz.prog 92 := mFn Tryz.func92
instance tFn93 : TFn Tryz.prog 93 := mFn Tryz.func93
instance tFn94 : TFn Tryz.prog 94 := mFn Tryz.func94
instance tFn95 : TFn Tryz.prog 95 := mFn Tryz.func95
instance tFn96 : TFn Tryz.prog 96 := mFn Tryz.func96
instance tFn99 : TFn Tryz.prog 99 := mFn Tryz.func99
instance tFn100 : TFn Tryz.prog 100 := mFn Tryz.func100
instance tFn103 : TFn Tryz.prog 103 := mFn Tryz.func103
instance tFn104 : TFn Tryz.prog 104 := mFn Tryz.func104
instance tFn105 : TFn Tryz.prog 105 := mFn Tryz.func105
instance tFn106 : TFn Tryz.prog 106 := mFn Tryz.func106
instance tFn107 : TFn Tryz.prog 107 := mFn Tryz.func107
instance tFn108 : TFn Tryz.prog 108 := mFn Tryz.func108
instance tFn109 : TFn Tryz.prog 109 := mFn Tryz.func109
instance tFn110 : TFn Tryz.prog 110 := mFn Tryz.func110
instance tFn111 : TFn Tryz.prog 111 := mFn Tryz.func111
instance tFn112 : TFn Tryz.prog 112 := mFn Tryz.func112
instance tFn113 : TFn Tryz.prog 113 := mFn Tryz.func113
instance tFn114 : TFn Tryz.prog 114 := mFn Tryz.func114
instance tFn115 : TFn Tryz.prog 115 := mFn Tryz.func115
instance tFn116 : TFn Tryz.prog 116 := mFn Tryz.func116
instance tFn117 : TFn Tryz.prog 117 := mFn Tryz.func117
instance tFn118 : TFn Tryz.prog 118 := mFn Tryz.func118
instance tFn119 : TFn Tryz.prog 119 := mFn Tryz.func119
instance tFn120 : TFn Tryz.prog 120 := mFn Tryz.func120
instance tFn121 : TFn Tryz.prog 121 := mFn Tryz.func121
instance tFn122 : TFn Tryz.prog 122 := mFn Tryz.func122
instance tFn123 : TFn Tryz.prog 123 := mFn Tryz.func123
instance tFn124 : TFn Tryz.prog 124 := mFn Tryz.func124
instance tFn125 : TFn Tryz.prog 125 := mFn Tryz.func125
instance tFn126 : TFn Tryz.prog 126 := mFn Tryz.func126
instance tFn127 : TFn Tryz.prog 127 := mFn Tryz.func127
instance tFn128 : TFn Tryz.prog 128 := mFn Tryz.func128
instance tFn129 : TFn Tryz.prog 129 := mFn Tryz.func129
instance tFn130 : TFn Tryz.prog 130 := mFn Tryz.func130
instance tFn131 : TFn Tryz.prog 131 := mFn Tryz.func131
instance tFn132 : TFn Tryz.prog 132 := mFn Tryz.func132
instance tFn138 : TFn Tryz.prog 138 := mFn Tryz.func138
instance tFn141 : TFn Tryz.prog 141 := mFn Tryz.func141
instance tFn142 : TFn Tryz.prog 142 := mFn Tryz.func142
instance tFn143 : TFn Tryz.prog 143 := mFn Tryz.func143
instance tFn144 : TFn Tryz.prog 144 := mFn Tryz.func144
instance tFn145 : TFn Tryz.prog 145 := mFn Tryz.func145
instance tFn146 : TFn Tryz.prog 146 := mFn Tryz.func146
instance tFn147 : TFn Tryz.prog 147 := mFn Tryz.func147
instance tFn148 : TFn Tryz.prog 148 := mFn Tryz.func148
instance tFn149 : TFn Tryz.prog 149 := mFn Tryz.func149
instance tFn150 : TFn Tryz.prog 150 := mFn Tryz.func150
instance tFn151 : TFn Tryz.prog 151 := mFn Tryz.func151
instance tFn152 : TFn Tryz.prog 152 := mFn Tryz.func152
instance tFn153 : TFn Tryz.prog 153 := mFn Tryz.func153
instance tFn154 : TFn Tryz.prog 154 := mFn Tryz.func154
instance tFn155 : TFn Tryz.prog 155 := mFn Tryz.func155
instance tFn156 : TFn Tryz.prog 156 := mFn Tryz.func156
instance tFn157 : TFn Tryz.prog 157 := mFn Tryz.func157
instance tFn158 : TFn Tryz.prog 158 := mFn Tryz.func158
instance tFn159 : TFn Tryz.prog 159 := mFn Tryz.func159
instance tFn160 : TFn Tryz.prog 160 := mFn Tryz.func160
instance tFn161 : TFn Tryz.prog 161 := mFn Tryz.func161
instance tFn162 : TFn Tryz.prog 162 := mFn Tryz.func162
instance tFn163 : TFn Tryz.prog 163 := mFn Tryz.func163
instance tFn164 : TFn Tryz.prog 164 := mFn Tryz.func164
instance tFn166 : TFn Tryz.prog 166 := mFn Tryz.func166
instance tFn169 : TFn Tryz.prog 169 := mFn Tryz.func169
instance tFn171 : TFn Tryz.prog 171 := mFn Tryz.func171
instance tFn172 : TFn Tryz.prog 172 := mFn Tryz.func172
instance tFn173 : TFn Tryz.prog 173 := mFn Tryz.func173
instance tFn174 : TFn Tryz.prog 174 := mFn Tryz.func174
instance tFn175 : TFn Tryz.prog 175 := mFn Tryz.func175
instance tFn176 : TFn Tryz.prog 176 := mFn Tryz.func176
instance tFn177 : TFn Tryz.prog 177 := mFn Tryz.func177
instance tFn178 : TFn Tryz.prog 178 := mFn Tryz.func178
instance tFn179 : TFn Tryz.prog 179 := mFn Tryz.func179
instance tFn180 : TFn Tryz.prog 180 := mFn Tryz.func180
instance tFn181 : TFn Tryz.prog 181 := mFn Tryz.func181
instance tFn182 : TFn Tryz.prog 182 := mFn Tryz.func182
instance tFn183 : TFn Tryz.prog 183 := mFn Tryz.func183
instance tFn184 : TFn Tryz.prog 184 := mFn Tryz.func184
instance tFn185 : TFn Tryz.prog 185 := mFn Tryz.func185
instance tFn186 : TFn Tryz.prog 186 := mFn Tryz.func186
instance tFn187 : TFn Tryz.prog 187 := mFn Tryz.func187
instance tFn188 : TFn Tryz.prog 188 := mFn Tryz.func188
instance tFn189 : TFn Tryz.prog 189 := mFn Tryz.func189
instance tFn190 : TFn Tryz.prog 190 := mFn Tryz.func190
instance tFn191 : TFn Tryz.prog 191 := mFn Tryz.func191
instance tFn192 : TFn Tryz.prog 192 := mFn Tryz.func192
instance tFn193 : TFn Tryz.prog 193 := mFn Tryz.func193
instance tFn194 : TFn Tryz.prog 194 := mFn Tryz.func194
instance tFn195 : TFn Tryz.prog 195 := mFn Tryz.func195
instance tFn196 : TFn Tryz.prog 196 := mFn Tryz.func196
instance tFn197 : TFn Tryz.prog 197 := mFn Tryz.func197
instance tFn198 : TFn Tryz.prog 198 := mFn Tryz.func198
instance tFn199 : TFn Tryz.prog 199 := mFn Tryz.func199
instance tFn200 : TFn Tryz.prog 200 := mFn Tryz.func200
instance tFn201 : TFn Tryz.prog 201 := mFn Tryz.func201
instance tFn203 : TFn Tryz.prog 203 := mFn Tryz.func203
instance tFn204 : TFn Tryz.prog 204 := mFn Tryz.func204
instance tFn205 : TFn Tryz.prog 205 := mFn Tryz.func205
instance tFn206 : TFn Tryz.prog 206 := mFn Tryz.func206
instance tFn207 : TFn Tryz.prog 207 := mFn Tryz.func207
instance tFn208 : TFn Tryz.prog 208 := mFn Tryz.func208
instance tFn209 : TFn Tryz.prog 209 := mFn Tryz.func209
instance tFn210 : TFn Tryz.prog 210 := mFn Tryz.func210
instance tFn211 : TFn Tryz.prog 211 := mFn Tryz.func211
instance tFn212 : TFn Tryz.prog 212 := mFn Tryz.func212
instance tFn213 : TFn Tryz.prog 213 := mFn Tryz.func213
instance tFn214 : TFn Tryz.prog 214 := mFn Tryz.func214
instance tFn215 : TFn Tryz.prog 215 := mFn Tryz.func215
instance tFn216 : TFn Tryz.prog 216 := mFn Tryz.func216
instance tFn217 : TFn Tryz.prog 217 := mFn Tryz.func217
instance tFn218 : TFn Tryz.prog 218 := mFn Tryz.func218
instance tFn219 : TFn Tryz.prog 219 := mFn Tryz.func219
instance tFn220 : TFn Tryz.prog 220 := mFn Tryz.func220
instance tFn221 : TFn Tryz.prog 221 := mFn Tryz.func221
instance tFn222 : TFn Tryz.prog 222 := mFn Tryz.func222
instance tFn223 : TFn Tryz.prog 223 := mFn Tryz.func223
instance tFn224 : TFn Tryz.prog 224 := mFn Tryz.func224
instance tFn225 : TFn Tryz.prog 225 := mFn Tryz.func225
instance tFn226 : TFn Tryz.prog 226 := mFn Tryz.func226
instance tFn227 : TFn Tryz.prog 227 := mFn Tryz.func227
instance tFn228 : TFn Tryz.prog 228 := mFn Tryz.func228
instance tFn229 : TFn Tryz.prog 229 := mFn Tryz.func229
instance tFn230 : TFn Tryz.prog 230 := mFn Tryz.func230
instance tFn231 : TFn Tryz.prog 231 := mFn Tryz.func231
instance tFn232 : TFn Tryz.prog 232 := mFn Tryz.func232
instance tFn233 : TFn Tryz.prog 233 := mFn Tryz.func233
instance tFn234 : TFn Tryz.prog 234 := mFn Tryz.func234
instance tFn235 : TFn Tryz.prog 235 := mFn Tryz.func235
instance tFn236 : TFn Tryz.prog 236 := mFn Tryz.func236
instance tFn237 : TFn Tryz.prog 237 := mFn Tryz.func237
instance tFn238 : TFn Tryz.prog 238 := mFn Tryz.func238
instance tFn239 : TFn Tryz.prog 239 := mFn Tryz.func239
instance tFn240 : TFn Tryz.prog 240 := mFn Tryz.func240
instance tFn241 : TFn Tryz.prog 241 := mFn Tryz.func241
instance tFn242 : TFn Tryz.prog 242 := mFn Tryz.func242
instance tFn260 : TFn Tryz.prog 260 := mFn Tryz.func260
instance tFn262 : TFn Tryz.prog 262 := mFn Tryz.func262
instance tFn263 : TFn Tryz.prog 263 := mFn Tryz.func263
instance tFn268 : TFn Tryz.prog 268 := mFn Tryz.func268
instance tFn270 : TFn Tryz.prog 270 := mFn Tryz.func270
instance tFn271 : TFn Tryz.prog 271 := mFn Tryz.func271
instance tFn272 : TFn Tryz.prog 272 := mFn Tryz.func272
instance tFn273 : TFn Tryz.prog 273 := mFn Tryz.func273
instance tFn274 : TFn Tryz.prog 274 := mFn Tryz.func274
instance tFn275 : TFn Tryz.prog 275 := mFn Tryz.func275
instance tFn276 : TFn Tryz.prog 276 := mFn Tryz.func276
end Go.Proofs.YtoebpndlbldfcaaGreatDoor
namespace Go.Proofs.YtoebpndlbldfcaaGreatDoor
open Go
abbrev I (n : Int) : Value := .int .i64 n
abbrev bnd (a b : Int) : Value := .agg [I a, I b].toArray
abbrev ag3 (a b c : Int) : Value := .agg [I a, I b, I c].toArray
abbrev ag8 (a b c d e f g h : Int) : Value := .agg [I a, I b, I c, I d, I e, I f, I g, I h].toArray
abbrev vB (b : Bd) : Value := bnd b.lo b.hi
abbrev vP (p : Pt) : Value := bnd p.x p.y
abbrev vR (r : Rg) : Value := ag8 r.x.lo r.x.hi r.y.lo r.y.hi r.s.lo r.s.hi r.d.lo r.d.hi
abbrev tup (l : List Value) : Value := .tuple l.toArray
abbrev fnv (g : Nat) : Value := .func (.func g) #[] #[]
theorem Tryz.mixed : Tryz.prog.follows .mixedOrders = true := by kernel_rfl
theorem obf {p : Prop} {_ : Decidable p} (h : ¬ p) : Out.val (.bool false) = Out.val (.bool (decide p)) := by simp [h]
theorem obd {p q : Prop} {_ : Decidable p} {_ : Decidable q} (h : p ↔ q) : Out.val (.bool (decide p)) = Out.val (.bool (decide q)) := by
  congr 2; exact decide_eq_decide.2 h
end Go.Proofs.YtoebpndlbldfcaaGreatDoor
namespace Go.Proofs.YtoebpndlbldfcaaGreatDoor
open Go
set_option maxRecDepth 100000
theorem c_region_bounds (a b c d e f g h : Int) : VPure Tryz.prog 158 [ag8 a b c d e f g h] (ag8 a b c d e f g h) := by
 intro H
 refine CV 12 Tryz.func158 ?_
 refine KK2 (BX fun b1 => ?_)
 refine AL fun b2 => (KK3 ?_)
 refine QF ?_
 refine QN ?_
 refine QF ?_
 refine QN ?_
 refine QF ?_
 refine QN ?_
 refine QF ?_
 refine QN ?_
 refine QB ?_
 refine SN (vnil ?_)
 refine vret (VN (H) Tryz.func158 ?_)
 exact ⟨rfl, rfl⟩
theorem c_region_four_region (a b c d e f g h : Int) : VPure Tryz.prog 195 [ag8 a b c d e f g h] (ag8 a b c d e f g h) := by
 intro H
 refine CV 12 Tryz.func195 ?_
 refine KK2 (BX fun b1 => ?_)
 refine AL fun b2 => (KK3 ?_)
 refine QQ (via rfl rfl (by omega)) rfl ?_
 refine QN ?_
 refine QQ (via rfl rfl (by omega)) rfl ?_
 refine QN ?_
 refine QQ (via rfl rfl (by omega)) rfl ?_
 refine QN ?_
 refine QQ (via rfl rfl (by omega)) rfl ?_
 refine QN ?_
 refine QB ?_
 refine SN (vnil ?_)
 refine vret (VN (H) Tryz.func195 ?_)
 exact ⟨rfl, rfl⟩
theorem c_region_cut (a b c d : Int) : VPure Tryz.prog 236 [bnd a b, bnd c d] (bnd (max a c) (min b d)) := by
 intro H
 refine CV 16 Tryz.func236 ?_
 refine KK2 (BX fun b1 => ?_)
 refine BX fun b2 => ?_
 refine AL fun b3 => (KK3 ?_)
 refine QF ?_
 refine QL ?_
 refine QF ?_
 refine QL ?_
 refine QQ (vmax2 rfl rfl) rfl ?_
 refine QF ?_
 refine QL ?_
 refine QF ?_
 refine QL ?_
 refine QQ (vmin2 rfl rfl) rfl ?_
 refine QB ?_
 refine SN (vnil ?_)
 refine vret (VN (H) Tryz.func236 ?_)
 exact ⟨rfl, rfl⟩
theorem c_region_span (a b c d : Int) : VPure Tryz.prog 230 [bnd a b, bnd c d] (bnd (min a c) (max b d)) := by
 intro H
 refine CV 16 Tryz.func230 ?_
 refine KK2 (BX fun b1 => ?_)
 refine BX fun b2 => ?_
 refine AL fun b3 => (KK3 ?_)
 refine QF ?_
 refine QL ?_
 refine QF ?_
 refine QL ?_
 refine QQ (vmin2 rfl rfl) rfl ?_
 refine QF ?_
 refine QL ?_
 refine QF ?_
 refine QL ?_
 refine QQ (vmax2 rfl rfl) rfl ?_
 refine QB ?_
 refine SN (vnil ?_)
 refine vret (VN (H) Tryz.func230 ?_)
 exact ⟨rfl, rfl⟩
theorem c_region_plus (a b c d : Int) (h1 : InR (a + c)) (h2 : InR (b + d)) : VPure Tryz.prog 241 [bnd a b, bnd c d] (bnd (a + c) (b + d)) := by
 intro H
 refine CV 16 Tryz.func241 ?_
 refine KK2 (BX fun b1 => ?_)
 refine BX fun b2 => ?_
 refine AL fun b3 => (KK3 ?_)
 refine QF ?_
 refine QL ?_
 refine QF ?_
 refine QL ?_
 refine QQ (vadd rfl rfl (by assumption)) rfl ?_
 refine QF ?_
 refine QL ?_
 refine QF ?_
 refine QL ?_
 refine QQ (vadd rfl rfl (by assumption)) rfl ?_
 refine QB ?_
 refine SN (vnil ?_)
 refine vret (VN (H) Tryz.func241 ?_)
 exact ⟨rfl, rfl⟩
theorem c_region_minus (a b c d : Int) (h1 : InR (a - d)) (h2 : InR (b - c)) : VPure Tryz.prog 180 [bnd a b, bnd c d] (bnd (a - d) (b - c)) := by
 intro H
 refine CV 16 Tryz.func180 ?_
 refine KK2 (BX fun b1 => ?_)
 refine BX fun b2 => ?_
 refine AL fun b3 => (KK3 ?_)
 refine QF ?_
 refine QL ?_
 refine QF ?_
 refine QL ?_
 refine QQ (vsub rfl rfl (by assumption)) rfl ?_
 refine QF ?_
 refine QL ?_
 refine QF ?_
 refine QL ?_
 refine QQ (vsub rfl rfl (by assumption)) rfl ?_
 refine QB ?_
 refine SN (vnil ?_)
 refine vret (VN (H) Tryz.func180 ?_)
 exact ⟨rfl, rfl⟩
theorem c_region_limit_fits (l a b : Int) (hl : 0 ≤ l ∧ l ≤ 65536) : VPure Tryz.prog 194 [I l, bnd a b] (.bool (decide (-l ≤ a ∧ a ≤ b ∧ b ≤ l))) := by
 intro H
 refine CV 23 Tryz.func194 ?_
 refine KK2 (BX fun b1 => ?_)
 refine QA (KK3 ?_)
 refine QF ?_
 refine QL ?_
 refine QM ?_
 refine QQ (vneg rfl (by unfold InR; omega)) rfl ?_
 refine QQ (vgeq rfl rfl) rfl ?_
 refine QM ?_
 refine vsplitd (d := 10) rfl (fun h10 => ?_) (fun h10 => ?_)
 ·
  refine YF ?_
  refine YL ?_
  refine YF ?_
  refine YL ?_
  refine YY (vleq rfl rfl) rfl ?_
  refine QT ?_
  refine QM ?_
  refine vsplitd (d := 17) rfl (fun h17 => ?_) (fun h17 => ?_)
  ·
   refine YF ?_
   refine YL ?_
   refine YM ?_
   refine YY (vleq rfl rfl) rfl ?_
   refine QT ?_
   refine QA (vnil ?_)
   refine vret (V1 (H) Tryz.func194 ?_)
   exact ⟨obd (by omega), rfl⟩
  ·
   refine NO4 ?_
   refine QU ?_
   refine QA (vnil ?_)
   refine vret (V1 (H) Tryz.func194 ?_)
   exact ⟨obf (by omega), rfl⟩
 ·
  refine NO4 ?_
  refine NO ?_
  refine QU ?_
  refine QM ?_
  refine NO4 ?_
  refine QU ?_
  refine QA (vnil ?_)
  refine vret (V1 (H) Tryz.func194 ?_)
  exact ⟨obf (by omega), rfl⟩
theorem c_region_limit_into (l n : Int) (hl : 0 ≤ l ∧ l ≤ 65536) : VPure Tryz.prog 54 [I l, I n] (I (max (-l) (min n l))) := by
 intro H
 refine CV 11 Tryz.func54 ?_
 refine KK2 (QA (KK3 ?_))
 refine QM ?_
 refine QQ (vneg rfl (by unfold InR; omega)) rfl ?_
 refine QM ?_
 refine QM ?_
 refine QQ (vmin2 rfl rfl) rfl ?_
 refine QQ (vmax2 rfl rfl) rfl ?_
 refine QA (vnil ?_)
 refine vret (V1 (H) Tryz.func54 ?_)
 exact ⟨rfl, rfl⟩
theorem c_region_within (n a b : Int) : VPure Tryz.prog 45 [I n, I a, I b] (.bool (decide (a ≤ n ∧ n ≤ b))) := by
 intro H
 refine CV 15 Tryz.func45 ?_
 refine KK2 (QA (KK3 ?_))
 refine QM ?_
 refine QM ?_
 refine QQ (vgeq rfl rfl) rfl ?_
 refine QM ?_
 refine vsplitd (d := 10) rfl (fun h10 => ?_) (fun h10 => ?_)
 ·
  refine YM ?_
  refine YM ?_
  refine YY (vleq rfl rfl) rfl ?_
  refine QT ?_
  refine QA (vnil ?_)
  refine vret (V1 (H) Tryz.func45 ?_)
  exact ⟨obd (by omega), rfl⟩
 ·
  refine NO3 ?_
  refine QU ?_
  refine QA (vnil ?_)
  refine vret (V1 (H) Tryz.func45 ?_)
  exact ⟨obf (by omega), rfl⟩
theorem c_region_of (x y : Int) (h1 : InR (x + y)) (h2 : InR (x - y)) : VPure Tryz.prog 229 [bnd x y] (ag8 x x y y (x + y) (x + y) (x - y) (x - y)) := by
 intro H
 refine CV 32 Tryz.func229 ?_
 refine KK2 (BX fun b1 => ?_)
 refine AL fun b2 => (KK3 ?_)
 refine AL fun b3 => (vnil (vseq (KK2 ?_)))
 refine QF ?_
 refine QL ?_
 refine QF ?_
 refine QL ?_
 refine QF ?_
 refine QL ?_
 refine QF ?_
 refine QL ?_
 refine QQ (vadd rfl rfl (by first | assumption | (unfold InR; omega))) rfl ?_
 refine QF ?_
 refine QL ?_
 refine QF ?_
 refine QL ?_
 refine QQ (vsub rfl rfl (by first | assumption | (unfold InR; omega))) rfl ?_
 refine QB ?_
 refine QM (vnil (vblock ?_))
 refine vloop1 ?_
 refine KK2 (QS (vnil (vseq ?_)))
 refine vcondt rfl (vskip (vseq (vblock (KK2 (QM ?_)))))
 refine QQ (vixa1 rfl rfl (by omega) rfl) rfl ?_
 refine QA ?_
 refine QA (vnil (vregion ?_))
 refine QM ?_
 refine QM ?_
 refine QM ?_
 refine QB ?_
 refine QQ (via rfl rfl (by omega)) rfl ?_
 refine SN (vnil (vinblock (vregion ?_)))
 refine QQ (vadd rfl rfl (by first | assumption | (unfold InR; omega))) rfl ?_
 refine QM (vnil ?_)
 refine vinloop1 ?_
 refine KK2 (QS (vnil (vseq ?_)))
 refine vcondt rfl (vskip (vseq (vblock (KK2 (QM ?_)))))
 refine QQ (vixa1 rfl rfl (by omega) rfl) rfl ?_
 refine QA ?_
 refine QA (vnil (vregion ?_))
 refine QM ?_
 refine QM ?_
 refine QM ?_
 refine QB ?_
 refine QQ (via rfl rfl (by omega)) rfl ?_
 refine SN (vnil (vinblock (vregion ?_)))
 refine QQ (vadd rfl rfl (by first | assumption | (unfold InR; omega))) rfl ?_
 refine QM (vnil ?_)
 refine vinloop1 ?_
 refine KK2 (QS (vnil (vseq ?_)))
 refine vcondt rfl (vskip (vseq (vblock (KK2 (QM ?_)))))
 refine QQ (vixa1 rfl rfl (by omega) rfl) rfl ?_
 refine QA ?_
 refine QA (vnil (vregion ?_))
 refine QM ?_
 refine QM ?_
 refine QM ?_
 refine QB ?_
 refine QQ (via rfl rfl (by omega)) rfl ?_
 refine SN (vnil (vinblock (vregion ?_)))
 refine QQ (vadd rfl rfl (by first | assumption | (unfold InR; omega))) rfl ?_
 refine QM (vnil ?_)
 refine vinloop1 ?_
 refine KK2 (QS (vnil (vseq ?_)))
 refine vcondt rfl (vskip (vseq (vblock (KK2 (QM ?_)))))
 refine QQ (vixa1 rfl rfl (by omega) rfl) rfl ?_
 refine QA ?_
 refine QA (vnil (vregion ?_))
 refine QM ?_
 refine QM ?_
 refine QM ?_
 refine QB ?_
 refine QQ (via rfl rfl (by omega)) rfl ?_
 refine SN (vnil (vinblock (vregion ?_)))
 refine QQ (vadd rfl rfl (by first | assumption | (unfold InR; omega))) rfl ?_
 refine QM (vnil ?_)
 refine vinloop1 ?_
 refine KK2 (QS (vnil (vseq ?_)))
 refine vcondf rfl ?_
 refine vexit (k' := _) rfl ?_
 refine KK2 (QN ?_)
 refine SN (vnil ?_)
 refine vret (VN (H) Tryz.func229 ?_)
 exact ⟨rfl, rfl⟩
theorem c_region_four_combined (g : Nat) [TFn Tryz.prog g] (a b c d e f' g' h a' b' c' d' e' f2 g2 h' r1 r2 r3 r4 r5 r6 r7 r8 : Int) (h1 : VPure Tryz.prog g [bnd a b, bnd a' b'] (bnd r1 r2)) (h2 : VPure Tryz.prog g [bnd c d, bnd c' d'] (bnd r3 r4)) (h3 : VPure Tryz.prog g [bnd e f', bnd e' f2] (bnd r5 r6)) (h4 : VPure Tryz.prog g [bnd g' h, bnd g2 h'] (bnd r7 r8)) : VPure Tryz.prog 179 [ag8 a b c d e f' g' h, ag8 a' b' c' d' e' f2 g2 h', fnv g] (ag8 r1 r2 r3 r4 r5 r6 r7 r8) := by
 intro H
 refine CV 23 Tryz.func179 ?_
 refine KK2 (BX fun b1 => ?_)
 refine BX fun b2 => ?_
 refine AL fun b3 => (vnil (vseq (KK2 ?_)))
 refine QM (vnil (vblock ?_))
 refine vloop1 ?_
 refine KK2 (QS (vnil (vseq ?_)))
 refine vcondt rfl (vskip (vseq (vblock (KK2 (QM ?_)))))
 refine QA (vnil ?_)
 refine DR [(.q, 0), (.q, 1), (.q, 2), (.q, 3), (.q, 4), (.q, 5), (.q, 6), (.q, 7), (.q, 8), (.q, 9), (.c, 10)] Tryz.mixed ?_
 refine DM ?_
 refine DM ?_
 refine DM ?_
 refine DD (via rfl rfl (by omega)) rfl ?_
 refine DN ?_
 refine DM ?_
 refine DD (via rfl rfl (by omega)) rfl ?_
 refine DN ?_
 refine DD (vcp rfl rfl rfl ((by first | exact h1 | exact h2 | exact h3 | exact h4))) rfl ?_
 refine DD (via rfl rfl (by omega)) rfl ?_
 refine vdcs (mone rfl) (vstn rfl rfl rfl rfl rfl) rfl ?_
 refine vdend rfl (vinblock (vregion (QQ (vadd rfl rfl (by unfold InR; omega)) rfl ?_)))
 refine QM (vnil ?_)
 refine vinloop1 ?_
 refine KK2 (QS (vnil (vseq ?_)))
 refine vcondt rfl (vskip (vseq (vblock (KK2 (QM ?_)))))
 refine QA (vnil ?_)
 refine DR [(.q, 0), (.q, 1), (.q, 2), (.q, 3), (.q, 4), (.q, 5), (.q, 6), (.q, 7), (.q, 8), (.q, 9), (.c, 10)] Tryz.mixed ?_
 refine DM ?_
 refine DM ?_
 refine DM ?_
 refine DD (via rfl rfl (by omega)) rfl ?_
 refine DN ?_
 refine DM ?_
 refine DD (via rfl rfl (by omega)) rfl ?_
 refine DN ?_
 refine DD (vcp rfl rfl rfl ((by first | exact h1 | exact h2 | exact h3 | exact h4))) rfl ?_
 refine DD (via rfl rfl (by omega)) rfl ?_
 refine vdcs (mone rfl) (vstn rfl rfl rfl rfl rfl) rfl ?_
 refine vdend rfl (vinblock (vregion (QQ (vadd rfl rfl (by unfold InR; omega)) rfl ?_)))
 refine QM (vnil ?_)
 refine vinloop1 ?_
 refine KK2 (QS (vnil (vseq ?_)))
 refine vcondt rfl (vskip (vseq (vblock (KK2 (QM ?_)))))
 refine QA (vnil ?_)
 refine DR [(.q, 0), (.q, 1), (.q, 2), (.q, 3), (.q, 4), (.q, 5), (.q, 6), (.q, 7), (.q, 8), (.q, 9), (.c, 10)] Tryz.mixed ?_
 refine DM ?_
 refine DM ?_
 refine DM ?_
 refine DD (via rfl rfl (by omega)) rfl ?_
 refine DN ?_
 refine DM ?_
 refine DD (via rfl rfl (by omega)) rfl ?_
 refine DN ?_
 refine DD (vcp rfl rfl rfl ((by first | exact h1 | exact h2 | exact h3 | exact h4))) rfl ?_
 refine DD (via rfl rfl (by omega)) rfl ?_
 refine vdcs (mone rfl) (vstn rfl rfl rfl rfl rfl) rfl ?_
 refine vdend rfl (vinblock (vregion (QQ (vadd rfl rfl (by unfold InR; omega)) rfl ?_)))
 refine QM (vnil ?_)
 refine vinloop1 ?_
 refine KK2 (QS (vnil (vseq ?_)))
 refine vcondt rfl (vskip (vseq (vblock (KK2 (QM ?_)))))
 refine QA (vnil ?_)
 refine DR [(.q, 0), (.q, 1), (.q, 2), (.q, 3), (.q, 4), (.q, 5), (.q, 6), (.q, 7), (.q, 8), (.q, 9), (.c, 10)] Tryz.mixed ?_
 refine DM ?_
 refine DM ?_
 refine DM ?_
 refine DD (via rfl rfl (by omega)) rfl ?_
 refine DN ?_
 refine DM ?_
 refine DD (via rfl rfl (by omega)) rfl ?_
 refine DN ?_
 refine DD (vcp rfl rfl rfl ((by first | exact h1 | exact h2 | exact h3 | exact h4))) rfl ?_
 refine DD (via rfl rfl (by omega)) rfl ?_
 refine vdcs (mone rfl) (vstn rfl rfl rfl rfl rfl) rfl ?_
 refine vdend rfl (vinblock (vregion (QQ (vadd rfl rfl (by unfold InR; omega)) rfl ?_)))
 refine QM (vnil ?_)
 refine vinloop1 ?_
 refine KK2 (QS (vnil (vseq ?_)))
 refine vcondf rfl ?_
 refine vexit (k' := _) rfl ?_
 refine KK2 (QN ?_)
 refine SN (vnil ?_)
 refine vret (VN (H) Tryz.func179 ?_)
 exact ⟨rfl, rfl⟩
end Go.Proofs.YtoebpndlbldfcaaGreatDoor
namespace Go.Proofs.YtoebpndlbldfcaaGreatDoor
open Go
set_option maxRecDepth 100000
abbrev ptr (b : Nat) : Value := .pointer (some ⟨b, 0, Option.none⟩)
abbrev clR (r : Rg) : List Value := [I r.x.lo, I r.x.hi, I r.y.lo, I r.y.hi, I r.s.lo, I r.s.hi, I r.d.lo, I r.d.hi]
abbrev vW (w : Rw) : Value := ag3 w.x w.a w.b
theorem rowsN_end {r : Rg} {x : Int} (h1 : r.x.lo ≤ x) (h2 : x = r.x.lo ∨ x ≤ r.x.hi + 1) (h3 : ¬ x ≤ r.x.hi) : rowsN r (x - r.x.lo).toNat = rows r := by
  unfold rows Bd.len; congr 1; omega
theorem rowsN_next {r : Rg} {x : Int} (h1 : r.x.lo ≤ x) : rowsN r (x + 1 - r.x.lo).toNat = rowsN r (x - r.x.lo).toNat ++ rowL r x := by
  rw [show (x + 1 - r.x.lo).toNat = (x - r.x.lo).toNat + 1 by omega, rowsN_succ, show r.x.lo + ((x - r.x.lo).toNat : Int) = x by omega]
theorem rowsN_nil {r : Rg} {x : Int} (h1 : r.x.lo ≤ x) (h : ¬ (rowOf r x).a ≤ (rowOf r x).b) : rowsN r (x + 1 - r.x.lo).toNat = rowsN r (x - r.x.lo).toNat := by
  rw [rowsN_next h1, rowL, if_neg h, List.append_nil]
theorem rowsN_one {r : Rg} {x : Int} (h1 : r.x.lo ≤ x) (h : (rowOf r x).a ≤ (rowOf r x).b) : rowsN r (x + 1 - r.x.lo).toNat = rowsN r (x - r.x.lo).toNat ++ [rowOf r x] := by
  rw [rowsN_next h1, rowL, if_pos h]
theorem rows_at {r : Rg} {x : Int} (h1 : r.x.lo ≤ x) (h2 : x ≤ r.x.hi) (h : (rowOf r x).a ≤ (rowOf r x).b) : ∃ post, rows r = rowsN r (x - r.x.lo).toNat ++ rowOf r x :: post := by
  have := rows_split r (x - r.x.lo).toNat (by unfold Bd.len; omega) (by rw [show r.x.lo + ((x - r.x.lo).toNat : Int) = x by omega]; exact h)
  rwa [show r.x.lo + ((x - r.x.lo).toNat : Int) = x by omega] at this
abbrev bR (b : Nat) (r : Rg) : Nat × Obj := (b, blk (clR r) 275)
theorem it_rows (r : Rg) (hs : r.sm 1099511627776) (b : Nat) : VIt Tryz.prog 237 [ptr b] (fun w => [vW w]) (rows r) [bR b r] := by
 unfold Rg.sm Bd.sm at hs
 intro yf ya yc J Jx Hc0 hJ0 hy
 change VCall _ _ _ (bR b r :: Hc0) _
 refine CV 56 Tryz.func237 ?_
 refine KK2 (QQ (via rfl rfl (by omega)) rfl ?_)
 refine QF ?_
 refine QL ?_
 refine QA (vnil (vblock ?_))
 refine vwhile (σ := Int × Heap) (fun ⟨x, Hc⟩ => (r.x.hi + 1 - x).toNat) (fun ⟨x, Hc⟩ => [(0, .func yf ya yc), (1, ptr b), (3, I x)]) (fun ⟨x, Hc⟩ => bR b r :: Hc) (fun ⟨x, Hc⟩ => (r.x.lo ≤ x ∧ (x = r.x.lo ∨ x ≤ r.x.hi + 1)) ∧ J (rowsN r (x - r.x.lo).toNat) Hc) (r.x.lo, Hc0) ⟨⟨by omega, .inl rfl⟩, by rw [Int.sub_self]; exact hJ0⟩ ⟨rfl, rfl, rfl, True.intro⟩ sb ?_
 rintro ⟨x, Hc⟩ ⟨⟨hx1, hx2⟩, hJ⟩ IH
 change VRun _ _ _ _ _ [(0, .func yf ya yc), (1, ptr b), (3, I x)] _ (bR b r :: Hc) _
 refine vseq (KK2 (QM ?_))
 refine QQ (via rfl rfl (by omega)) rfl ?_
 refine QF ?_
 refine QL ?_
 refine QQ (vleq rfl rfl) rfl (vnil ?_)
 refine vcondd rfl (fun h12 => ?_) (fun h12 => ?_)
 ·
  refine vskip (vseq (vblock (KK2 (QM ?_))))
  refine QQ (via rfl rfl (by omega)) rfl ?_
  refine QF ?_
  refine QL ?_
  refine QQ (via rfl rfl (by omega)) rfl ?_
  refine QF ?_
  refine QL ?_
  refine QM ?_
  refine QQ (vsub rfl rfl (by unfold InR; omega)) rfl ?_
  refine QM ?_
  refine QQ (via rfl rfl (by omega)) rfl ?_
  refine QF ?_
  refine QL ?_
  refine QQ (vsub rfl rfl (by unfold InR; omega)) rfl ?_
  refine QQ (vmax3 rfl rfl rfl) rfl ?_
  refine QQ (via rfl rfl (by omega)) rfl ?_
  refine QF ?_
  refine QL ?_
  refine QQ (via rfl rfl (by omega)) rfl ?_
  refine QF ?_
  refine QL ?_
  refine QM ?_
  refine QQ (vsub rfl rfl (by unfold InR; omega)) rfl ?_
  refine QM ?_
  refine QQ (via rfl rfl (by omega)) rfl ?_
  refine QF ?_
  refine QL ?_
  refine QQ (vsub rfl rfl (by unfold InR; omega)) rfl ?_
  refine QQ (vmin3 rfl rfl rfl) rfl ?_
  refine QB ?_
  refine AL fun b1 => ?_
  refine SN (KK3 ?_)
  refine QF ?_
  refine QL ?_
  refine QF ?_
  refine QL ?_
  refine QQ (vleq rfl rfl) rfl ?_
  refine QM ?_
  refine vsplitd (d := 50) rfl (fun h50 => ?_) (fun h50 => ?_)
  ·
   refine YM ?_
   refine YN ?_
   have hab : (rowOf r x).a ≤ (rowOf r x).b := h50
   obtain ⟨post, hps⟩ := rows_at hx1 h12 hab
   refine vyes rfl rfl rfl (vxg (vcy rfl rfl (VY.b2 (hy _ _ _ hps _ hJ))) rfl rfl ?_)
   rintro _ _ ⟨bb, rfl, Hc2, rfl, hJ2⟩
   rcases bb with _ | _
   ·
    refine YY (vnot rfl) rfl ?_
    refine QT (vnil ?_)
    refine vcondt rfl ?_
    refine vret (vr0 (H' := bR b r :: _) Tryz.func237 rfl  sb ?_)
    exact ⟨rfl, _, rfl, .inr hJ2⟩
   ·
    refine YY (vnot rfl) rfl ?_
    refine QT (vnil ?_)
    refine vcondf rfl (vskip (vinblock (vregion (QM ?_))))
    refine QQ (vadd rfl rfl (by unfold InR; omega)) rfl ?_
    refine QA (vnil ?_)
    exact vback (IH (x + 1, Hc2) ⟨⟨by omega, by omega⟩, by rw [rowsN_one hx1 hab]; exact hJ2⟩ (by show (_ : Int).toNat < (_ : Int).toNat; omega)) ⟨rfl, rfl, rfl, True.intro⟩ sb
  ·
   refine NO4 ?_
   refine QU (vnil ?_)
   refine vcondf rfl (vskip (vinblock (vregion (QM ?_))))
   refine QQ (vadd rfl rfl (by unfold InR; omega)) rfl ?_
   refine QA (vnil ?_)
   exact vback (IH (x + 1, Hc) ⟨⟨by omega, by omega⟩, by rw [rowsN_nil hx1 (by assumption)]; exact hJ⟩ (by show (_ : Int).toNat < (_ : Int).toNat; omega)) ⟨rfl, rfl, rfl, True.intro⟩ sb
 ·
  refine vexit (k' := _) rfl ?_
  refine vend (vr0 (H' := bR b r :: _) Tryz.func237 rfl  sb ?_)
  exact ⟨rfl, _, rfl, .inl (by rw [← rowsN_end hx1 hx2 h12]; exact hJ)⟩
theorem n_rows (r : Rg) : VNew Tryz.prog 213 [vR r] (blk (clR r) 275) (fun b => .func (.func 237) #[] #[ptr b]) := by
 intro H
 refine CV 4 Tryz.func213 ?_
 refine KK2 (BX fun b1 => ?_)
 refine QA (KK3 ?_)
 refine QQ (vmf rfl) rfl ?_
 refine QA (vnil ?_)
 refine vret (V1 (bR b1 r :: H) Tryz.func213 ?_)
 exact ⟨_, rfl, rfl⟩
theorem n_ends (r : Rg) : VNew Tryz.prog 197 [vR r] (blk (clR r) 275) (fun b => .func (.func 231) #[] #[ptr b]) := by
 intro H
 refine CV 4 Tryz.func197 ?_
 refine KK2 (BX fun b1 => ?_)
 refine QA (KK3 ?_)
 refine QQ (vmf rfl) rfl ?_
 refine QA (vnil ?_)
 refine vret (V1 (bR b1 r :: H) Tryz.func197 ?_)
 exact ⟨_, rfl, rfl⟩
theorem flat_snoc (pre : List Rw) (x : Rw) : (pre ++ [x]).flatMap endL = pre.flatMap endL ++ endL x := by simp
theorem ends_at1 {r : Rg} {pre post : List Rw} {x : Rw} (h : rows r = pre ++ x :: post) : ∃ p2, endsOf r = pre.flatMap endL ++ ⟨x.x, x.a⟩ :: p2 := by
  unfold endsOf; rw [h]; simp only [List.flatMap_append, List.flatMap_cons]
  unfold endL; split <;> exact ⟨_, rfl⟩
theorem ends_at2 {r : Rg} {pre post : List Rw} {x : Rw} (h : rows r = pre ++ x :: post) (hne : x.a ≠ x.b) : ∃ p2, endsOf r = (pre.flatMap endL ++ [⟨x.x, x.a⟩]) ++ ⟨x.x, x.b⟩ :: p2 := by
  unfold endsOf; rw [h]; simp only [List.flatMap_append, List.flatMap_cons]
  have : endL x = [⟨x.x, x.a⟩, ⟨x.x, x.b⟩] := by unfold endL; rw [if_neg hne]
  rw [this]; exact ⟨_, by simp only [List.append_assoc]; rfl⟩
theorem ne_of_l {a b c : Int} (h : [a, b] ≠ [a, c]) : b ≠ c := fun e => h (by rw [e])
theorem eq_of_l {a b c : Int} (h : ¬ [a, b] ≠ [a, c]) : b = c := by
  have h := Classical.not_not.1 h; simpa using h
theorem it_ends (r : Rg) (hs : r.sm 1099511627776) (b : Nat) : VIt Tryz.prog 231 [ptr b] (fun p => [vP p]) (endsOf r) [bR b r] := by
 intro yf ya yc J Jx Hc0 hJ0 hy
 change VCall _ _ _ (bR b r :: Hc0) _
 refine CV 34 Tryz.func231 ?_
 refine KK2 (BX fun b1 => (KK3 ?_))
 refine QN ?_
 refine vone rfl (vxg (vcnew rfl rfl rfl (n_rows _)) rfl rfl ?_)
 rintro _ _ ⟨b2, rfl, rfl⟩
 refine vnil (vblock ?_)
 refine vrange (enc := (fun w => [vW w])) (xs := (rows r)) (caps := [ptr b2]) (Hi := [bR b2 r]) (Hc := ((b1, blk [.func yf ya yc] 354) :: bR b r :: Hc0)) (ps := [8]) (fun pre H1 => ∃ Hc, H1 = (b1, blk [.func yf ya yc] 354) :: bR b r :: Hc ∧ J (pre.flatMap endL) Hc) (fun c H1 => c = .ret ∧ ∃ Hc, H1 = (b1, blk [.func yf ya yc] 354) :: bR b r :: Hc ∧ Jx Hc) rfl (it_rows r hs b2) (List.Perm.refl _) ⟨_, rfl, hJ0⟩ (fun _ => rfl) rfl ?_ ?_ ?_
 ·
  intro lp rec pre x post H1 hrs hxs hI
  obtain ⟨Hc, rfl, hJ⟩ := hI
  refine vregion (AL fun b3 => ?_)
  refine SN (vnil ?_)
  refine vbegin hrs ?_
  refine vblock (vseq ?_)
  refine vdraw [(.q, 0), (.q, 1), (.q, 2), (.q, 3), (.q, 4), (.q, 5), (.q, 6), (.q, 7), (.q, 8), (.q, 9), (.a (blk [.int .i64 0, .int .i64 0] (44)), 10), (.a (blk [.int .i64 0, .int .i64 0] (44)), 11), (.s, 12), (.s, 13)] Tryz.mixed (by kernel_rfl) ⟨⟨_, _, _, _, _, rfl, _, inferInstance, rfl⟩, ⟨⟨_, _, _, _, _, rfl, _, inferInstance, rfl⟩, True.intro⟩⟩ ?_
  refine DF ?_
  refine DL ?_
  refine DF ?_
  refine DL ?_
  refine DB ?_
  refine DF ?_
  refine DL ?_
  refine DF ?_
  refine DL ?_
  refine DB ?_
  refine vda rfl rfl (fun b4 => ?_)
  refine vda rfl rfl (fun b5 => ?_)
  refine vds (mone rfl) (vstn rfl rfl rfl rfl rfl) rfl ?_
  refine vds (mone rfl) (vstn rfl rfl rfl rfl rfl) rfl ?_
  refine vdend rfl (KK2 (QL ?_))
  refine QN ?_
  obtain ⟨p2, hps⟩ := ends_at1 hxs
  refine vone rfl (vxg (vcy rfl rfl (VY.b6 (hy _ _ _ hps _ hJ))) rfl rfl ?_)
  rintro _ _ ⟨bb, rfl, Hc, rfl, hJ⟩
  rcases bb with _ | _
  ·
   refine QQ (vnot rfl) rfl ?_
   refine QM ?_
   refine NO4 ?_
   refine vnou rfl rfl rfl rfl rfl ?_
   refine vnou rfl rfl rfl rfl rfl ?_
   refine vnou rfl rfl rfl rfl rfl ?_
   refine vnou rfl rfl rfl rfl rfl ?_
   refine NO ?_
   refine QT (vnil ?_)
   refine vcondt rfl ?_
   refine vroundI_ret (H' := (b1, blk [.func yf ya yc] 354) :: bR b r :: Hc) sb ?_
   exact ⟨rfl, _, rfl, hJ⟩
  ·
   refine QQ (vnot rfl) rfl ?_
   refine QM ?_
   refine YN ?_
   refine YN ?_
   refine YY (vnes rfl rfl rfl rfl rfl rfl) rfl ?_
   refine YM ?_
   refine vsplitd (d := 27) rfl (fun h27 => ?_) (fun h27 => ?_)
   ·
    refine YL ?_
    refine YN ?_
    obtain ⟨p3, hps2⟩ := ends_at2 hxs (ne_of_l h27)
    refine vyes rfl rfl rfl (vxg (vcy rfl rfl (VY.b6 (hy _ _ _ hps2 _ hJ))) rfl rfl ?_)
    rintro _ _ ⟨bb2, rfl, Hc, rfl, hJ⟩
    rcases bb2 with _ | _
    ·
     refine YY (vnot rfl) rfl ?_
     refine YT ?_
     refine QU (vnil ?_)
     refine vcondt rfl ?_
     refine vroundI_ret (H' := (b1, blk [.func yf ya yc] 354) :: bR b r :: Hc) sb ?_
     exact ⟨rfl, _, rfl, hJ⟩
    ·
     refine YY (vnot rfl) rfl ?_
     refine YT ?_
     refine QU (vnil ?_)
     refine vcondf rfl (vskip (vinblock ?_))
     refine vroundI_end (H' := (b1, blk [.func yf ya yc] 354) :: bR b r :: Hc) sb ?_
     exact ⟨_, rfl, by rw [flat_snoc, show endL x = [⟨x.x, x.a⟩, ⟨x.x, x.b⟩] from if_neg (ne_of_l (by assumption))]; rw [List.append_assoc] at hJ; exact hJ⟩
   ·
    refine NO4 ?_
    refine YU ?_
    refine QU (vnil ?_)
    refine vcondf rfl (vskip (vinblock ?_))
    refine vroundI_end (H' := (b1, blk [.func yf ya yc] 354) :: bR b r :: Hc) sb ?_
    exact ⟨_, rfl, by rw [flat_snoc, show endL x = [⟨x.x, x.a⟩] from if_pos (eq_of_l (by assumption))]; exact hJ⟩
 ·
  intro r1 H1 hI
  obtain ⟨Hc, rfl, hJ⟩ := hI
  change VRun _ _ _ _ _ _ _ ((r1, Obj.deferred (some [])) :: bR b2 r :: (b1, blk [.func yf ya yc] 354) :: bR b r :: Hc) _
  refine vinblock ?_
  refine vend (vret_mark (vr0 (H' := bR b r :: Hc) Tryz.func231 rfl  sb ?_))
  exact ⟨rfl, _, rfl, .inl hJ⟩
 ·
  intro r1 c H1 hI
  obtain ⟨rfl, Hc, rfl, hJ⟩ := hI
  change VRun _ _ _ _ _ _ _ ((r1, Obj.deferred (some [])) :: bR b2 r :: (b1, blk [.func yf ya yc] 354) :: bR b r :: Hc) _
  refine vret (vret_mark (vr0 (H' := bR b r :: Hc) Tryz.func231 rfl  sb ?_))
  exact ⟨rfl, _, rfl, .inr hJ⟩
end Go.Proofs.YtoebpndlbldfcaaGreatDoor
namespace Go.Proofs.YtoebpndlbldfcaaGreatDoor
open Go
set_option maxRecDepth 100000
theorem perm3 (A B C : Heap) : (A ++ (B ++ C)).Perm (B ++ (A ++ C)) := by
  rw [← List.append_assoc, ← List.append_assoc]; exact (List.perm_append_comm).append_right C
theorem perm4 (B A C : Heap) : (C ++ (B ++ A)).Perm (B ++ (A ++ C)) := by
  rw [← List.append_assoc B]; exact List.perm_append_comm
theorem oI {a b : Int} (h : a = b) : Out.val (I a) = Out.val (I b) := by rw [h]
theorem oV {a b : Value} (h : a = b) : Out.val a = Out.val b := by rw [h]
theorem oT {a b : List Value} (h : a = b) : Out.val (tup a) = Out.val (tup b) := by rw [h]
theorem VHas.fr1 {P : Program} {gf : FuncId} {al : List Value} {v : Value} {x1 y1 : Nat × Obj} {B : Heap} (h : VHas P gf al v [x1] [y1]) : VHas P gf al v (x1 :: B) (y1 :: B) := h.frame (B := B)
theorem VHas.fr2 {P : Program} {gf : FuncId} {al : List Value} {v : Value} {x1 x2 y1 y2 : Nat × Obj} {B : Heap} (h : VHas P gf al v [x1, x2] [y1, y2]) : VHas P gf al v (x1 :: x2 :: B) (y1 :: y2 :: B) := h.frame (B := B)
theorem VHas.fr3 {P : Program} {gf : FuncId} {al : List Value} {v : Value} {x1 x2 x3 y1 y2 y3 : Nat × Obj} {B : Heap} (h : VHas P gf al v [x1, x2, x3] [y1, y2, y3]) : VHas P gf al v (x1 :: x2 :: x3 :: B) (y1 :: y2 :: y3 :: B) := h.frame (B := B)
theorem c_of (p : Pt) (h : p.sm 1099511627776) : VPure Tryz.prog 229 [vP p] (vR (ofP p)) := c_region_of p.x p.y (by unfold Pt.sm at h; unfold InR; omega) (by unfold Pt.sm at h; unfold InR; omega)
theorem c_span4 (a b : Rg) : VPure Tryz.prog 179 [vR a, vR b, fnv 230] (vR (a.map2 Bd.span b)) :=
  c_region_four_combined _ _ _ _ _ _ _ _ _ _ _ _ _ _ _ _ _ _ _ _ _ _ _ _ _ (c_region_span _ _ _ _) (c_region_span _ _ _ _) (c_region_span _ _ _ _) (c_region_span _ _ _ _)
theorem c_cut4 (a b : Rg) : VPure Tryz.prog 179 [vR a, vR b, fnv 236] (vR (a.map2 Bd.cut b)) :=
  c_region_four_combined _ _ _ _ _ _ _ _ _ _ _ _ _ _ _ _ _ _ _ _ _ _ _ _ _ (c_region_cut _ _ _ _) (c_region_cut _ _ _ _) (c_region_cut _ _ _ _) (c_region_cut _ _ _ _)
theorem c_plus4 (a b : Rg) (ha : a.sm 1099511627776) (hb : b.sm 1099511627776) : VPure Tryz.prog 179 [vR a, vR b, fnv 241] (vR (a.map2 Bd.plus b)) := by
  unfold Rg.sm Bd.sm at ha hb
  exact c_region_four_combined _ _ _ _ _ _ _ _ _ _ _ _ _ _ _ _ _ _ _ _ _ _ _ _ _ (c_region_plus _ _ _ _ (by unfold InR; omega) (by unfold InR; omega)) (c_region_plus _ _ _ _ (by unfold InR; omega) (by unfold InR; omega)) (c_region_plus _ _ _ _ (by unfold InR; omega) (by unfold InR; omega)) (c_region_plus _ _ _ _ (by unfold InR; omega) (by unfold InR; omega))
theorem c_minus4 (a b : Rg) (ha : a.sm 1099511627776) (hb : b.sm 1099511627776) : VPure Tryz.prog 179 [vR a, vR b, fnv 180] (vR (a.map2 Bd.minus b)) := by
  unfold Rg.sm Bd.sm at ha hb
  exact c_region_four_combined _ _ _ _ _ _ _ _ _ _ _ _ _ _ _ _ _ _ _ _ _ _ _ _ _ (c_region_minus _ _ _ _ (by unfold InR; omega) (by unfold InR; omega)) (c_region_minus _ _ _ _ (by unfold InR; omega) (by unfold InR; omega)) (c_region_minus _ _ _ _ (by unfold InR; omega) (by unfold InR; omega)) (c_region_minus _ _ _ _ (by unfold InR; omega) (by unfold InR; omega))
theorem c_region_Check (r : Rg) : VPure Tryz.prog 156 [vR r] (I (chkR r)) := by
 intro H
 refine CV 24 Tryz.func156 ?_
 refine KK2 (BX fun b1 => ?_)
 refine QA (KK3 ?_)
 refine QQ (vmff rfl rfl) rfl ?_
 refine QQ (vmff rfl rfl) rfl ?_
 refine QQ (vmff rfl rfl) rfl ?_
 refine QQ (vmff rfl rfl) rfl ?_
 refine QB ?_
 refine AL fun b2 => ?_
 refine SN (vnil (vseq (KK2 ?_)))
 refine QN ?_
 refine QQ (vcp rfl rfl rfl (c_region_bounds _ _ _ _ _ _ _ _)) rfl ?_
 refine QM (vnil (vblock ?_))
 refine vloop1 ?_
 refine KK2 (QS (vnil (vseq ?_)))
 refine vcondt rfl (vskip (vseq (vblock (KK2 (QM ?_)))))
 refine QQ (vixan rfl rfl (by omega) rfl) rfl ?_
 refine AL fun b3 => ?_
 refine QA ?_
 refine SN (vnil (vseq ?_))
 refine DR [(.q, 0), (.q, 1), (.q, 2), (.q, 3), (.q, 4), (.q, 5)] Tryz.mixed ?_
 refine DM ?_
 refine DD (via rfl rfl (by omega)) rfl ?_
 refine DL ?_
 refine DN ?_
 refine DD (vcpf rfl rfl rfl (c_region_limit_fits _ _ _ (by omega))) rfl ?_
 refine DD (vnotd rfl) rfl (vdend rfl ?_)
 refine vcondd rfl (fun h22 => ?_) (fun h22 => ?_)
 ·
  refine KK2 (QA (vnil ?_))
  refine vret (V1 (H) Tryz.func156 ?_)
  exact ⟨oI (chkR_no (by unfold Rg.ok Bd.fits; omega)).symm, rfl⟩
 ·
  refine vskip (vinblock (vregion (QQ (vadd rfl rfl (by unfold InR; omega)) rfl ?_)))
  refine QM (vnil ?_)
  refine vinloop1 ?_
  refine KK2 (QS (vnil (vseq ?_)))
  refine vcondt rfl (vskip (vseq (vblock (KK2 (QM ?_)))))
  refine QQ (vixan rfl rfl (by omega) rfl) rfl ?_
  refine AL fun b4 => ?_
  refine QA ?_
  refine SN (vnil (vseq ?_))
  refine DR [(.q, 0), (.q, 1), (.q, 2), (.q, 3), (.q, 4), (.q, 5)] Tryz.mixed ?_
  refine DM ?_
  refine DD (via rfl rfl (by omega)) rfl ?_
  refine DL ?_
  refine DN ?_
  refine DD (vcpf rfl rfl rfl (c_region_limit_fits _ _ _ (by omega))) rfl ?_
  refine DD (vnotd rfl) rfl (vdend rfl ?_)
  refine vcondd rfl (fun h22 => ?_) (fun h22 => ?_)
  ·
   refine KK2 (QA (vnil ?_))
   refine vret (V1 (H) Tryz.func156 ?_)
   exact ⟨oI (chkR_no (by unfold Rg.ok Bd.fits; omega)).symm, rfl⟩
  ·
   refine vskip (vinblock (vregion (QQ (vadd rfl rfl (by unfold InR; omega)) rfl ?_)))
   refine QM (vnil ?_)
   refine vinloop1 ?_
   refine KK2 (QS (vnil (vseq ?_)))
   refine vcondt rfl (vskip (vseq (vblock (KK2 (QM ?_)))))
   refine QQ (vixan rfl rfl (by omega) rfl) rfl ?_
   refine AL fun b5 => ?_
   refine QA ?_
   refine SN (vnil (vseq ?_))
   refine DR [(.q, 0), (.q, 1), (.q, 2), (.q, 3), (.q, 4), (.q, 5)] Tryz.mixed ?_
   refine DM ?_
   refine DD (via rfl rfl (by omega)) rfl ?_
   refine DL ?_
   refine DN ?_
   refine DD (vcpf rfl rfl rfl (c_region_limit_fits _ _ _ (by omega))) rfl ?_
   refine DD (vnotd rfl) rfl (vdend rfl ?_)
   refine vcondd rfl (fun h22 => ?_) (fun h22 => ?_)
   ·
    refine KK2 (QA (vnil ?_))
    refine vret (V1 (H) Tryz.func156 ?_)
    exact ⟨oI (chkR_no (by unfold Rg.ok Bd.fits; omega)).symm, rfl⟩
   ·
    refine vskip (vinblock (vregion (QQ (vadd rfl rfl (by unfold InR; omega)) rfl ?_)))
    refine QM (vnil ?_)
    refine vinloop1 ?_
    refine KK2 (QS (vnil (vseq ?_)))
    refine vcondt rfl (vskip (vseq (vblock (KK2 (QM ?_)))))
    refine QQ (vixan rfl rfl (by omega) rfl) rfl ?_
    refine AL fun b6 => ?_
    refine QA ?_
    refine SN (vnil (vseq ?_))
    refine DR [(.q, 0), (.q, 1), (.q, 2), (.q, 3), (.q, 4), (.q, 5)] Tryz.mixed ?_
    refine DM ?_
    refine DD (via rfl rfl (by omega)) rfl ?_
    refine DL ?_
    refine DN ?_
    refine DD (vcpf rfl rfl rfl (c_region_limit_fits _ _ _ (by omega))) rfl ?_
    refine DD (vnotd rfl) rfl (vdend rfl ?_)
    refine vcondd rfl (fun h22 => ?_) (fun h22 => ?_)
    ·
     refine KK2 (QA (vnil ?_))
     refine vret (V1 (H) Tryz.func156 ?_)
     exact ⟨oI (chkR_no (by unfold Rg.ok Bd.fits; omega)).symm, rfl⟩
    ·
     refine vskip (vinblock (vregion (QQ (vadd rfl rfl (by unfold InR; omega)) rfl ?_)))
     refine QM (vnil ?_)
     refine vinloop1 ?_
     refine KK2 (QS (vnil (vseq ?_)))
     refine vcondf rfl ?_
     refine vexit (k' := _) rfl ?_
     refine KK2 (QA (vnil ?_))
     refine vret (V1 (H) Tryz.func156 ?_)
     exact ⟨oI (chkR_ok (by unfold Rg.ok Bd.fits; omega)).symm, rfl⟩
theorem c_region_CheckPoint (p : Pt) : VPure Tryz.prog 39 [vP p] (I (chkP p)) := by
 intro H
 refine CV 18 Tryz.func39 ?_
 refine KK2 (BX fun b1 => ?_)
 refine QA (vnil (vseq (KK2 ?_)))
 refine QF ?_
 refine QL ?_
 refine QF ?_
 refine QL ?_
 refine QB ?_
 refine QM (vnil (vblock ?_))
 refine vloop1 ?_
 refine KK2 (QS (vnil (vseq ?_)))
 refine vcondt rfl (vskip (vseq (vblock (KK2 (QQ (vixa1 rfl rfl (by omega) rfl) rfl ?_)))))
 refine QA (KK3 ?_)
 refine QM ?_
 refine QQ (vcp rfl rfl rfl (c_region_limit_into _ _ (by omega))) rfl ?_
 refine QM ?_
 refine QG (vnil ?_)
 refine vcondd rfl (fun h16 => ?_) (fun h16 => ?_)
 ·
  refine KK2 (QA (vnil ?_))
  refine vret (V1 (H) Tryz.func39 ?_)
  exact ⟨oI (chkP_no (by unfold Pt.ok; omega)).symm, rfl⟩
 ·
  refine vskip (vinblock (vregion (QQ (vadd rfl rfl (by unfold InR; omega)) rfl ?_)))
  refine QM (vnil ?_)
  refine vinloop1 ?_
  refine KK2 (QS (vnil (vseq ?_)))
  refine vcondt rfl (vskip (vseq (vblock (KK2 (QQ (vixa1 rfl rfl (by omega) rfl) rfl ?_)))))
  refine QA (KK3 ?_)
  refine QM ?_
  refine QQ (vcp rfl rfl rfl (c_region_limit_into _ _ (by omega))) rfl ?_
  refine QM ?_
  refine QG (vnil ?_)
  refine vcondd rfl (fun h16 => ?_) (fun h16 => ?_)
  ·
   refine KK2 (QA (vnil ?_))
   refine vret (V1 (H) Tryz.func39 ?_)
   exact ⟨oI (chkP_no (by unfold Pt.ok; omega)).symm, rfl⟩
  ·
   refine vskip (vinblock (vregion (QQ (vadd rfl rfl (by unfold InR; omega)) rfl ?_)))
   refine QM (vnil ?_)
   refine vinloop1 ?_
   refine KK2 (QS (vnil (vseq ?_)))
   refine vcondf rfl ?_
   refine vexit (k' := _) rfl ?_
   refine KK2 (QA (vnil ?_))
   refine vret (V1 (H) Tryz.func39 ?_)
   exact ⟨oI (chkP_zero.2 (by unfold Pt.ok; omega)).symm, rfl⟩
theorem hull_eqN {pre : List Pt} {x : Pt} (h : (!(hullP pre).isSome) = true) : hullP (pre ++ [x]) = some ((ofP x).map2 Bd.span (ofP x)) := by
  rw [hullP_snoc, optN h]; rfl
theorem hull_eqS {pre : List Pt} {x : Pt} (h : (!(hullP pre).isSome) = false) : hullP (pre ++ [x]) = some (((hullP pre).getD zR).map2 Bd.span (ofP x)) := by
  obtain ⟨g, hg⟩ := optS h
  rw [hullP_snoc, hg]; rfl
theorem h_hull1 {kf : FuncId} [TFn Tryz.prog kf] {caps : List Value} {Hi : Heap} {xs : List Pt} (hit : VIt Tryz.prog kf caps (fun p => [vP p]) xs Hi) (hsm : ∀ p ∈ xs, p.sm 1099511627776) (bs : Nat) : VHas Tryz.prog 196 [.slice (some ⟨bs, 0, Option.none⟩) 1 1] (tup [vR ((hullP xs).getD zR), .bool (hullP xs).isSome]) ((bs, blk [.func (.func kf) #[] caps.toArray] 327) :: Hi) ((bs, blk [.func (.func kf) #[] caps.toArray] 327) :: Hi) := by
 refine CV 26 Tryz.func196 ?_
 refine KK2 (AL fun b1 => ?_)
 refine AL fun b2 => (vnil (vseq (KK2 ?_)))
 refine QM ?_
 refine QQ (vlen rfl) rfl ?_
 refine QM (vnil (vblock ?_))
 refine vloop1 ?_
 refine KK2 (QS (vnil (vseq ?_)))
 refine vcondt rfl (vskip (vseq (vblock (KK2 (QQ (vis rfl rfl (by omega)) rfl ?_)))))
 refine QL ?_
 refine QA (KK3 ?_)
 refine QM (vnil (vblock ?_))
 refine vrange (enc := (fun p => [vP p])) (xs := xs) (caps := caps) (Hi := Hi) (Hc := [(b2, blk [.bool (hullP []).isSome] 4), (b1, blk (clR ((hullP []).getD zR)) 275), (bs, blk [.func (.func kf) #[] caps.toArray] 327)]) (ps := [14]) (fun pre H1 => H1 = [(b2, blk [.bool (hullP pre).isSome] 4), (b1, blk (clR ((hullP pre).getD zR)) 275), (bs, blk [.func (.func kf) #[] caps.toArray] 327)]) (fun _ _ => False) rfl (hit) (List.perm_append_comm (l₁ := [(b2, blk [.bool (hullP []).isSome] 4), (b1, blk (clR ((hullP []).getD zR)) 275), (bs, blk [.func (.func kf) #[] caps.toArray] 327)])) rfl (fun _ => rfl) rfl ?_ ?_ ?_
 ·
  intro lpa reca prea xa posta H1a hrsa hxsa hIa
  subst hIa
  have hsx := hsm xa (by rw [hxsa]; simp)
  refine vregion (AL fun b3 => ?_)
  refine SN (vnil ?_)
  refine vbegin hrsa ?_
  refine vblock (vseq (KK2 (QL ?_)))
  refine QQ (vnot rfl) rfl (vnil ?_)
  refine vcond rfl (fun h16 => ?_) (fun h16 => ?_)
  ·
   refine vregion (QN ?_)
   refine QQ (vcp rfl rfl rfl (c_of xa hsx)) rfl ?_
   refine SN ?_
   refine SU (vnil ?_)
   refine DR [(.q, 0), (.q, 1), (.q, 2), (.q, 3), (.c, 4)] Tryz.mixed ?_
   refine DN ?_
   refine DN ?_
   refine DD (vcp rfl rfl rfl (c_of xa hsx)) rfl ?_
   refine DD (vcp rfl rfl rfl (c_span4 ⟨⟨_, _⟩, ⟨_, _⟩, ⟨_, _⟩, ⟨_, _⟩⟩ ⟨⟨_, _⟩, ⟨_, _⟩, ⟨_, _⟩, ⟨_, _⟩⟩)) rfl ?_
   refine vdcs (mone rfl) (vstn rfl rfl rfl rfl rfl) rfl ?_
   refine vdend rfl (vinblock ?_)
   refine vroundI_end (H' := [(b2, _), (b1, _), (bs, _)]) sb ?_
   (rw [hull_eqN h16]; rfl)
  ·
   refine vskip ?_
   refine DR [(.q, 0), (.q, 1), (.q, 2), (.q, 3), (.c, 4)] Tryz.mixed ?_
   refine DN ?_
   refine DN ?_
   refine DD (vcp rfl rfl rfl (c_of xa hsx)) rfl ?_
   refine DD (vcp rfl rfl rfl (c_span4 ⟨⟨_, _⟩, ⟨_, _⟩, ⟨_, _⟩, ⟨_, _⟩⟩ ⟨⟨_, _⟩, ⟨_, _⟩, ⟨_, _⟩, ⟨_, _⟩⟩)) rfl ?_
   refine vdcs (mone rfl) (vstn rfl rfl rfl rfl rfl) rfl ?_
   refine vdend rfl (vinblock ?_)
   refine vroundI_end (H' := [(b2, _), (b1, _), (bs, _)]) sb ?_
   (have he := hull_eqS (x := xa) h16; obtain ⟨gg, hg⟩ := optS h16; rw [he, hg]; rfl)
 ·
  intro r1a H1a hIa
  subst hIa
  refine VRun.perm (H' := (r1a, Obj.deferred (some [])) :: (b2, blk [.bool (hullP xs).isSome] 4) :: (b1, blk (clR ((hullP xs).getD zR)) 275) :: (bs, blk [.func (.func kf) #[] caps.toArray] 327) :: Hi) ((List.perm_append_comm).cons _) ?_
  refine vinblock (vinblock (vregion (QQ (vadd rfl rfl (by unfold InR; omega)) rfl ?_)))
  refine QM (vnil ?_)
  refine vinloop1 ?_
  refine KK2 (QS (vnil (vseq ?_)))
  refine vcondf rfl ?_
  refine vexit (k' := _) rfl ?_
  refine vseq ?_
  refine DR [(.q, 0), (.q, 1), (.q, 2), (.q, 3)] Tryz.mixed ?_
  refine DN ?_
  refine DL ?_
  refine vdqn (mone rfl) (vstns rfl rfl rfl rfl rfl) rfl ?_
  refine vdqn (mone rfl) (vst1s rfl rfl rfl rfl) rfl ?_
  refine vdend rfl ?_
  refine vret (vret_mark (vr2 (H' := (bs, blk [.func (.func kf) #[] caps.toArray] 327) :: Hi) Tryz.func196 rfl (.celln rfl rfl) (.cell1 rfl rfl) sb ?_))
  exact ⟨rfl, rfl⟩
 ·
  intro r1a ca H1a hIa
  exact hIa.elim
theorem h_hull2 {kf kf2 : FuncId} [TFn Tryz.prog kf] [TFn Tryz.prog kf2] {caps caps2 : List Value} {Hi Hi2 : Heap} {xs ys : List Pt} (hit : VIt Tryz.prog kf caps (fun p => [vP p]) xs Hi) (hit2 : VIt Tryz.prog kf2 caps2 (fun p => [vP p]) ys Hi2) (hsm : ∀ p ∈ xs, p.sm 1099511627776) (hsm2 : ∀ p ∈ ys, p.sm 1099511627776) (bs : Nat) : VHas Tryz.prog 196 [.slice (some ⟨bs, 0, Option.none⟩) 2 2] (tup [vR ((hullP (xs ++ ys)).getD zR), .bool (hullP (xs ++ ys)).isSome]) ((bs, blk [.func (.func kf) #[] caps.toArray, .func (.func kf2) #[] caps2.toArray] 327) :: (Hi ++ Hi2)) ((bs, blk [.func (.func kf) #[] caps.toArray, .func (.func kf2) #[] caps2.toArray] 327) :: (Hi ++ Hi2)) := by
 refine CV 26 Tryz.func196 ?_
 refine KK2 (AL fun b1 => ?_)
 refine AL fun b2 => (vnil (vseq (KK2 ?_)))
 refine QM ?_
 refine QQ (vlen rfl) rfl ?_
 refine QM (vnil (vblock ?_))
 refine vloop1 ?_
 refine KK2 (QS (vnil (vseq ?_)))
 refine vcondt rfl (vskip (vseq (vblock (KK2 (QQ (vis rfl rfl (by omega)) rfl ?_)))))
 refine QL ?_
 refine QA (KK3 ?_)
 refine QM (vnil (vblock ?_))
 refine vrange (enc := (fun p => [vP p])) (xs := xs) (caps := caps) (Hi := Hi) (Hc := ([(b2, blk [.bool (hullP []).isSome] 4), (b1, blk (clR ((hullP []).getD zR)) 275), (bs, blk [.func (.func kf) #[] caps.toArray, .func (.func kf2) #[] caps2.toArray] 327)] ++ Hi2)) (ps := [14]) (fun pre H1 => H1 = [(b2, blk [.bool (hullP pre).isSome] 4), (b1, blk (clR ((hullP pre).getD zR)) 275), (bs, blk [.func (.func kf) #[] caps.toArray, .func (.func kf2) #[] caps2.toArray] 327)] ++ Hi2) (fun _ _ => False) rfl (hit) (perm3 Hi [(b2, blk [.bool (hullP []).isSome] 4), (b1, blk (clR ((hullP []).getD zR)) 275), (bs, blk [.func (.func kf) #[] caps.toArray, .func (.func kf2) #[] caps2.toArray] 327)] Hi2).symm rfl (fun _ => rfl) rfl ?_ ?_ ?_
 ·
  intro lpa reca prea xa posta H1a hrsa hxsa hIa
  subst hIa
  have hsx := hsm xa (by rw [hxsa]; simp)
  change VRun _ _ _ _ _ _ _ ((lpa, Obj.loop reca) :: (b2, blk [.bool (hullP prea).isSome] 4) :: (b1, blk (clR ((hullP prea).getD zR)) 275) :: (bs, blk [.func (.func kf) #[] caps.toArray, .func (.func kf2) #[] caps2.toArray] 327) :: Hi2) _
  refine vregion (AL fun b3 => ?_)
  refine SN (vnil ?_)
  refine vbegin hrsa ?_
  refine vblock (vseq (KK2 (QL ?_)))
  refine QQ (vnot rfl) rfl (vnil ?_)
  refine vcond rfl (fun h16 => ?_) (fun h16 => ?_)
  ·
   refine vregion (QN ?_)
   refine QQ (vcp rfl rfl rfl (c_of _ hsx)) rfl ?_
   refine SN ?_
   refine SU (vnil ?_)
   refine DR [(.q, 0), (.q, 1), (.q, 2), (.q, 3), (.c, 4)] Tryz.mixed ?_
   refine DN ?_
   refine DN ?_
   refine DD (vcp rfl rfl rfl (c_of _ hsx)) rfl ?_
   refine DD (vcp rfl rfl rfl (c_span4 ⟨⟨_, _⟩, ⟨_, _⟩, ⟨_, _⟩, ⟨_, _⟩⟩ ⟨⟨_, _⟩, ⟨_, _⟩, ⟨_, _⟩, ⟨_, _⟩⟩)) rfl ?_
   refine vdcs (mone rfl) (vstn rfl rfl rfl rfl rfl) rfl ?_
   refine vdend rfl (vinblock ?_)
   refine vroundI_end (H' := (b2, _) :: (b1, _) :: (bs, _) :: Hi2) sb ?_
   (rw [hull_eqN h16]; rfl)
  ·
   refine vskip ?_
   refine DR [(.q, 0), (.q, 1), (.q, 2), (.q, 3), (.c, 4)] Tryz.mixed ?_
   refine DN ?_
   refine DN ?_
   refine DD (vcp rfl rfl rfl (c_of _ hsx)) rfl ?_
   refine DD (vcp rfl rfl rfl (c_span4 ⟨⟨_, _⟩, ⟨_, _⟩, ⟨_, _⟩, ⟨_, _⟩⟩ ⟨⟨_, _⟩, ⟨_, _⟩, ⟨_, _⟩, ⟨_, _⟩⟩)) rfl ?_
   refine vdcs (mone rfl) (vstn rfl rfl rfl rfl rfl) rfl ?_
   refine vdend rfl (vinblock ?_)
   refine vroundI_end (H' := (b2, _) :: (b1, _) :: (bs, _) :: Hi2) sb ?_
   (have he := hull_eqS (x := xa) h16; obtain ⟨gg, hg⟩ := optS h16; rw [he, hg]; rfl)
 ·
  intro r1a H1a hIa
  subst hIa
  refine VRun.perm (H' := (r1a, Obj.deferred (some [])) :: (b2, blk [.bool (hullP xs).isSome] 4) :: (b1, blk (clR ((hullP xs).getD zR)) 275) :: (bs, blk [.func (.func kf) #[] caps.toArray, .func (.func kf2) #[] caps2.toArray] 327) :: (Hi ++ Hi2)) ((perm3 Hi _ Hi2).cons _) ?_
  refine vinblock (vinblock (vregion (QQ (vadd rfl rfl (by unfold InR; omega)) rfl ?_)))
  refine QM (vnil ?_)
  refine vinloop1 ?_
  refine KK2 (QS (vnil (vseq ?_)))
  refine vcondt rfl (vskip (vseq (vblock (KK2 (QQ (vis rfl rfl (by omega)) rfl ?_)))))
  refine QL ?_
  refine QA (KK3 ?_)
  refine QM (vnil (vblock ?_))
  refine vrange (enc := (fun p => [vP p])) (xs := ys) (caps := caps2) (Hi := Hi2) (Hc := ((r1a, Obj.deferred (some [])) :: (b2, blk [.bool (hullP xs).isSome] 4) :: (b1, blk (clR ((hullP xs).getD zR)) 275) :: (bs, blk [.func (.func kf) #[] caps.toArray, .func (.func kf2) #[] caps2.toArray] 327) :: Hi)) (ps := [14]) (fun pre H1 => H1 = (r1a, Obj.deferred (some [])) :: (b2, blk [.bool (hullP (xs ++ pre)).isSome] 4) :: (b1, blk (clR ((hullP (xs ++ pre)).getD zR)) 275) :: (bs, blk [.func (.func kf) #[] caps.toArray, .func (.func kf2) #[] caps2.toArray] 327) :: Hi) (fun _ _ => False) rfl (hit2) (perm4 ((r1a, Obj.deferred (some [])) :: [(b2, blk [.bool (hullP xs).isSome] 4), (b1, blk (clR ((hullP xs).getD zR)) 275), (bs, blk [.func (.func kf) #[] caps.toArray, .func (.func kf2) #[] caps2.toArray] 327)]) Hi Hi2).symm (by rw [List.append_nil]) (fun _ => rfl) rfl ?_ ?_ ?_
  ·
   intro lpb recb preb xb postb H1b hrsb hxsb hIb
   subst hIb
   have hsx := hsm2 xb (by rw [hxsb]; simp)
   refine vregion (AL fun b4 => ?_)
   refine SN (vnil ?_)
   refine vbegin hrsb ?_
   refine vblock (vseq (KK2 (QL ?_)))
   refine QQ (vnot rfl) rfl (vnil ?_)
   refine vcond rfl (fun h16 => ?_) (fun h16 => ?_)
   ·
    refine vregion (QN ?_)
    refine QQ (vcp rfl rfl rfl (c_of _ hsx)) rfl ?_
    refine SN ?_
    refine SU (vnil ?_)
    refine DR [(.q, 0), (.q, 1), (.q, 2), (.q, 3), (.c, 4)] Tryz.mixed ?_
    refine DN ?_
    refine DN ?_
    refine DD (vcp rfl rfl rfl (c_of _ hsx)) rfl ?_
    refine DD (vcp rfl rfl rfl (c_span4 ⟨⟨_, _⟩, ⟨_, _⟩, ⟨_, _⟩, ⟨_, _⟩⟩ ⟨⟨_, _⟩, ⟨_, _⟩, ⟨_, _⟩, ⟨_, _⟩⟩)) rfl ?_
    refine vdcs (mone rfl) (vstn rfl rfl rfl rfl rfl) rfl ?_
    refine vdend rfl (vinblock ?_)
    refine vroundI_end (H' := (r1a, Obj.deferred (some [])) :: (b2, _) :: (b1, _) :: (bs, _) :: Hi) sb ?_
    (rw [← List.append_assoc, hull_eqN h16]; rfl)
   ·
    refine vskip ?_
    refine DR [(.q, 0), (.q, 1), (.q, 2), (.q, 3), (.c, 4)] Tryz.mixed ?_
    refine DN ?_
    refine DN ?_
    refine DD (vcp rfl rfl rfl (c_of _ hsx)) rfl ?_
    refine DD (vcp rfl rfl rfl (c_span4 ⟨⟨_, _⟩, ⟨_, _⟩, ⟨_, _⟩, ⟨_, _⟩⟩ ⟨⟨_, _⟩, ⟨_, _⟩, ⟨_, _⟩, ⟨_, _⟩⟩)) rfl ?_
    refine vdcs (mone rfl) (vstn rfl rfl rfl rfl rfl) rfl ?_
    refine vdend rfl (vinblock ?_)
    refine vroundI_end (H' := (r1a, Obj.deferred (some [])) :: (b2, _) :: (b1, _) :: (bs, _) :: Hi) sb ?_
    (have he := hull_eqS (x := xb) h16; obtain ⟨gg, hg⟩ := optS h16; rw [← List.append_assoc, he, hg]; rfl)
  ·
   intro r1b H1b hIb
   subst hIb
   refine VRun.perm (H' := (r1b, Obj.deferred (some [])) :: (r1a, Obj.deferred (some [])) :: (b2, blk [.bool (hullP (xs ++ ys)).isSome] 4) :: (b1, blk (clR ((hullP (xs ++ ys)).getD zR)) 275) :: (bs, blk [.func (.func kf) #[] caps.toArray, .func (.func kf2) #[] caps2.toArray] 327) :: (Hi ++ Hi2)) ((perm4 ((r1a, Obj.deferred (some [])) :: [(b2, blk [.bool (hullP (xs ++ ys)).isSome] 4), (b1, blk (clR ((hullP (xs ++ ys)).getD zR)) 275), (bs, blk [.func (.func kf) #[] caps.toArray, .func (.func kf2) #[] caps2.toArray] 327)]) Hi Hi2).cons _) ?_
   refine vinblock (vinblock (vregion (QQ (vadd rfl rfl (by unfold InR; omega)) rfl ?_)))
   refine QM (vnil ?_)
   refine vinloop1 ?_
   refine KK2 (QS (vnil (vseq ?_)))
   refine vcondf rfl ?_
   refine vexit (k' := _) rfl ?_
   refine vseq ?_
   refine DR [(.q, 0), (.q, 1), (.q, 2), (.q, 3)] Tryz.mixed ?_
   refine DN ?_
   refine DL ?_
   refine vdqn (mone rfl) (vstns rfl rfl rfl rfl rfl) rfl ?_
   refine vdqn (mone rfl) (vst1s rfl rfl rfl rfl) rfl ?_
   refine vdend rfl ?_
   refine vret (vret_mark (vret_mark (vr2 (H' := (bs, blk [.func (.func kf) #[] caps.toArray, .func (.func kf2) #[] caps2.toArray] 327) :: (Hi ++ Hi2)) Tryz.func196 rfl (.celln rfl rfl) (.cell1 rfl rfl) sb ?_)))
   exact ⟨rfl, rfl⟩
  ·
   intro r1b cb H1b hIb
   exact hIb.elim
 ·
  intro r1a ca H1a hIa
  exact hIa.elim
theorem optE_n {h : Option Rg} (e : h = none) : optE h = (zR, 4) := by subst e; rfl
theorem optE_s {h : Option Rg} {g : Rg} (e : h = some g) : optE h = (g, 0) := by subst e; rfl
theorem c_tight (r : Rg) (hs : r.sm 1099511627776) : VPure Tryz.prog 159 [vR r] (tup [vR (optE (tightP r)).1, I (optE (tightP r)).2]) := by
 intro H
 refine CV 17 Tryz.func159 ?_
 refine KK2 (BX fun b1 => ?_)
 refine AL fun b2 => ?_
 refine QA (KK3 ?_)
 refine QN ?_
 refine vone rfl (vxg (vcnew rfl rfl rfl (n_ends _)) rfl rfl ?_)
 rintro _ _ ⟨b3, rfl, rfl⟩
 refine vone rfl (vxg (vbs rfl rfl rfl rfl rfl rfl) rfl rfl ?_)
 rintro _ _ ⟨b4, rfl, rfl⟩
 refine QQ (vcq rfl rfl rfl ((h_hull1 (it_ends r hs b3) (fun p hp => ends_sm hs hp) b4).fr2)) rfl ?_
 refine QM ?_
 refine QX ?_
 refine QX ?_
 refine AL fun b5 => ?_
 refine SN ?_
 refine QA (vnil (vseq (KK2 ?_)))
 refine QM ?_
 refine QQ (vnot rfl) rfl (vnil ?_)
 refine vcond rfl (fun h14 => ?_) (fun h14 => ?_)
 ·
  refine KK2 (QB ?_)
  refine SN ?_
  refine QA (vnil ?_)
  refine vret (vr2 (H' := H) Tryz.func159 rfl (.celln rfl rfl) (.tmp rfl) sb ?_)
  (have hh := optN (h := tightP r) h14; rw [optE_n hh]; exact ⟨rfl, rfl⟩)
 ·
  refine vskip (KK2 (QN ?_))
  refine SN ?_
  refine QA (vnil ?_)
  refine vret (vr2 (H' := H) Tryz.func159 rfl (.celln rfl rfl) (.tmp rfl) sb ?_)
  (obtain ⟨gg, hh⟩ := optS (h := tightP r) h14; rw [optE_s hh, show hullP (endsOf r) = _ from hh]; exact ⟨rfl, rfl⟩)
theorem c_done (r : Rg) (e : Int) : VPure Tryz.prog 157 [vR r, I e] (tup [vR (if e = 0 then r else zR), I e]) := by
 intro H
 refine CV 12 Tryz.func157 ?_
 refine KK2 (BX fun b1 => ?_)
 refine AL fun b2 => ?_
 refine QA (vnil (vseq (KK2 ?_)))
 refine QM ?_
 refine QG (vnil ?_)
 refine vcondd rfl (fun h7 => ?_) (fun h7 => ?_)
 ·
  refine KK2 (QB ?_)
  refine QM ?_
  refine SN ?_
  refine QA (vnil ?_)
  refine vret (vr2 (H' := H) Tryz.func157 rfl (.celln rfl rfl) (.tmp rfl) sb ?_)
  (rw [if_neg h7]; exact ⟨rfl, rfl⟩)
 ·
  refine vskip (KK2 (QN ?_))
  refine QQ (vcp rfl rfl rfl (c_region_four_region _ _ _ _ _ _ _ _)) rfl ?_
  refine SN ?_
  refine QA (vnil ?_)
  refine vret (vr2 (H' := H) Tryz.func157 rfl (.celln rfl rfl) (.tmp rfl) sb ?_)
  (have h7 := Classical.not_not.1 h7; subst h7; exact ⟨rfl, rfl⟩)
theorem optE_if (h : Option Rg) : (if (optE h).2 = 0 then (optE h).1 else zR) = (optE h).1 := by
  cases h <;> rfl
end Go.Proofs.YtoebpndlbldfcaaGreatDoor
namespace Go.Proofs.YtoebpndlbldfcaaGreatDoor
open Go
set_option maxRecDepth 100000
theorem tightE_no {r : Rg} (h : ¬ r.ok) : tightE r = (zR, chkR r) := by rw [tightE, if_neg h, chkR_no h]
theorem tightE_ok {r : Rg} (h : ¬ chkR r ≠ 0) : tightE r = optE (tightP r) := if_pos (chkR_zero.1 (Classical.not_not.1 h))
theorem ok_of {r : Rg} (h : ¬ chkR r ≠ 0) : r.ok := chkR_zero.1 (Classical.not_not.1 h)
theorem sm_of {r : Rg} (h : ¬ chkR r ≠ 0) : r.sm 1099511627776 := (ok_of h).sm.mono (by decide)
theorem c_Tight (r : Rg) : VPure Tryz.prog 119 [vR r] (tup [vR (tightE r).1, I (tightE r).2]) := by
 intro H
 refine CV 19 Tryz.func119 ?_
 refine KK2 (BX fun b1 => ?_)
 refine AL fun b2 => ?_
 refine QA (vnil (vseq (KK2 ?_)))
 refine QN ?_
 refine QQ (vcp rfl rfl rfl (c_region_Check ⟨⟨_, _⟩, ⟨_, _⟩, ⟨_, _⟩, ⟨_, _⟩⟩)) rfl ?_
 refine QA (KK3 ?_)
 refine QM ?_
 refine QG (vnil ?_)
 refine vcondd rfl (fun h8 => ?_) (fun h8 => ?_)
 ·
  refine KK2 (QB ?_)
  refine QM ?_
  refine SN ?_
  refine QA (vnil ?_)
  refine vret (vr2 (H' := H) Tryz.func119 rfl (.celln rfl rfl) (.tmp rfl) sb ?_)
  (rw [tightE_no (chkR_nz.1 h8)]; exact ⟨rfl, rfl⟩)
 ·
  refine vskip (KK2 (QN ?_))
  refine QQ (vcp rfl rfl rfl (c_region_bounds _ _ _ _ _ _ _ _)) rfl ?_
  refine QQ (vcp rfl rfl rfl (c_tight ⟨⟨_, _⟩, ⟨_, _⟩, ⟨_, _⟩, ⟨_, _⟩⟩ (sm_of h8))) rfl ?_
  refine QX ?_
  refine QX ?_
  refine QQ (vcp rfl rfl rfl ((c_done (optE (tightP r)).1 (optE (tightP r)).2).cong (by rw [optE_if]))) rfl ?_
  refine QX ?_
  refine QX ?_
  refine SN ?_
  refine QA (vnil ?_)
  refine vret (vr2 (H' := H) Tryz.func119 rfl (.celln rfl rfl) (.tmp rfl) sb ?_)
  (rw [tightE_ok h8]; exact ⟨rfl, rfl⟩)
end Go.Proofs.YtoebpndlbldfcaaGreatDoor
namespace Go.Proofs.YtoebpndlbldfcaaGreatDoor
open Go
set_option maxRecDepth 100000
abbrev encP (p : Pt) : List Value := [I p.x, I p.y]
abbrev sli (oa : Option Addr) (n c : Nat) : Value := .slice oa n c
def fst2 (a b : Int) : Int := if a ≠ 0 then a else b
theorem h_first2 (a b : Int) (bs : Nat) : VHas Tryz.prog 211 [.slice (some ⟨bs, 0, Option.none⟩) 2 2] (I (fst2 a b)) ([(bs, blk [I a, I b] 23)]) ([(bs, blk [I a, I b] 23)]) := by
 refine CV 15 Tryz.func211 ?_
 refine KK2 (QA (vnil (vseq (KK2 ?_))))
 refine QM ?_
 refine QQ (vlen rfl) rfl ?_
 refine QM (vnil (vblock ?_))
 refine vloop1 ?_
 refine KK2 (QS (vnil (vseq ?_)))
 refine vcondt rfl (vskip (vseq (vblock (KK2 (QQ (vis rfl rfl (by omega)) rfl ?_)))))
 refine QL ?_
 refine QA (KK3 ?_)
 refine QM ?_
 refine QG (vnil ?_)
 refine vcondd rfl (fun h12 => ?_) (fun h12 => ?_)
 ·
  refine KK2 (QM ?_)
  refine QA (vnil ?_)
  refine vret (V1 ([(bs, blk [I a, I b] 23)]) Tryz.func211 ?_)
  exact ⟨oI (by unfold fst2; split <;> omega), rfl⟩
 ·
  refine vskip (vinblock (vregion (QQ (vadd rfl rfl (by unfold InR; omega)) rfl ?_)))
  refine QM (vnil ?_)
  refine vinloop1 ?_
  refine KK2 (QS (vnil (vseq ?_)))
  refine vcondt rfl (vskip (vseq (vblock (KK2 (QQ (vis rfl rfl (by omega)) rfl ?_)))))
  refine QL ?_
  refine QA (KK3 ?_)
  refine QM ?_
  refine QG (vnil ?_)
  refine vcondd rfl (fun h12 => ?_) (fun h12 => ?_)
  ·
   refine KK2 (QM ?_)
   refine QA (vnil ?_)
   refine vret (V1 ([(bs, blk [I a, I b] 23)]) Tryz.func211 ?_)
   exact ⟨oI (by unfold fst2; split <;> omega), rfl⟩
  ·
   refine vskip (vinblock (vregion (QQ (vadd rfl rfl (by unfold InR; omega)) rfl ?_)))
   refine QM (vnil ?_)
   refine vinloop1 ?_
   refine KK2 (QS (vnil (vseq ?_)))
   refine vcondf rfl ?_
   refine vexit (k' := _) rfl ?_
   refine KK2 (QA (vnil ?_))
   refine vret (V1 ([(bs, blk [I a, I b] 23)]) Tryz.func211 ?_)
   exact ⟨oI (by unfold fst2; split <;> omega), rfl⟩
end Go.Proofs.YtoebpndlbldfcaaGreatDoor
namespace Go.Proofs.YtoebpndlbldfcaaGreatDoor
open Go
set_option maxRecDepth 100000
theorem fst2_chk (a b : Rg) : fst2 (chkR a) (chkR b) = chk2 a b := by
  unfold fst2 chk2
  by_cases ha : a.ok
  · rw [chkR_ok ha]; simp only [ne_eq, not_true_eq_false, if_false]
    by_cases hb : b.ok
    · rw [chkR_ok hb, if_pos ⟨ha, hb⟩]
    · rw [chkR_no hb, if_neg (fun h => hb h.2)]
  · rw [chkR_no ha, if_pos (by decide), if_neg (fun h => ha h.1)]
theorem h_firstR (a b : Rg) (bs : Nat) : VHas Tryz.prog 211 [.slice (some ⟨bs, 0, Option.none⟩) 2 2] (I (chk2 a b)) [(bs, blk [I (chkR a), I (chkR b)] 23)] [(bs, blk [I (chkR a), I (chkR b)] 23)] :=
  (h_first2 (chkR a) (chkR b) bs).cong (by rw [fst2_chk])
theorem chk_n {a b : Rg} (h : ¬ chk2 a b ≠ 0) : chk2 a b = 0 := Classical.not_not.1 h
theorem sm2a {a b : Rg} (h : ¬ chk2 a b ≠ 0) : a.sm 1099511627776 := (chk2_zero.1 (chk_n h)).1.sm.mono (by decide)
theorem sm2b {a b : Rg} (h : ¬ chk2 a b ≠ 0) : b.sm 1099511627776 := (chk2_zero.1 (chk_n h)).2.sm.mono (by decide)
theorem nn {a : Int} (h : ¬ a ≠ 0) : a = 0 := Classical.not_not.1 h
theorem c_doneO (h : Option Rg) : VPure Tryz.prog 157 [vR (optE h).1, I (optE h).2] (tup [vR (optE h).1, I (optE h).2]) := (c_done (optE h).1 (optE h).2).cong (by rw [optE_if])
theorem c_inside (f : Rg) : VPure Tryz.prog 240 [vR f] (tup [vR (insideE f).1, I (insideE f).2]) := by
 intro H
 refine CV 17 Tryz.func240 ?_
 refine KK2 (BX fun b1 => ?_)
 refine AL fun b2 => ?_
 refine QA (vnil (vseq (KK2 ?_)))
 refine QQ (via rfl rfl (by omega)) rfl ?_
 refine QN ?_
 refine QQ (vcp rfl rfl rfl (c_region_limit_fits _ _ _ (by omega))) rfl ?_
 refine QQ (vnotd rfl) rfl ?_
 refine QM ?_
 refine vsplitd (d := 8) rfl (fun h8 => ?_) (fun h8 => ?_)
 ·
  refine NO4 ?_
  refine QT (vnil ?_)
  refine vcondt rfl (KK2 (QB ?_))
  refine SN ?_
  refine QA (vnil ?_)
  refine vret (vr2 (H' := H) Tryz.func240 rfl (.celln rfl rfl) (.tmp rfl) sb ?_)
  (rw [show insideE f = (zR, 7) from if_neg (by unfold Bd.fits; omega)]; exact ⟨rfl, rfl⟩)
 ·
  refine YY (via rfl rfl (by omega)) rfl ?_
  refine YN ?_
  refine YY (vcp rfl rfl rfl (c_region_limit_fits _ _ _ (by omega))) rfl ?_
  refine YY (vnotd rfl) rfl ?_
  refine QU (vnil ?_)
  refine vcondd rfl (fun h13 => ?_) (fun h13 => ?_)
  ·
   refine KK2 (QB ?_)
   refine SN ?_
   refine QA (vnil ?_)
   refine vret (vr2 (H' := H) Tryz.func240 rfl (.celln rfl rfl) (.tmp rfl) sb ?_)
   (rw [show insideE f = (zR, 7) from if_neg (by unfold Bd.fits; omega)]; exact ⟨rfl, rfl⟩)
  ·
   refine vskip (KK2 (QN ?_))
   refine QQ (vcp rfl rfl rfl (c_region_four_region _ _ _ _ _ _ _ _)) rfl ?_
   refine SN ?_
   refine QA (vnil ?_)
   refine vret (vr2 (H' := H) Tryz.func240 rfl (.celln rfl rfl) (.tmp rfl) sb ?_)
   (rw [show insideE f = (f, 0) from if_pos (by unfold Bd.fits; omega)]; exact ⟨rfl, rfl⟩)
theorem c_Meet (a b : Rg) : VPure Tryz.prog 210 [vR a, vR b] (tup [vR (meetE a b).1, I (meetE a b).2]) := by
 intro H
 refine CV 28 Tryz.func210 ?_
 refine KK2 (BX fun b1 => ?_)
 refine BX fun b2 => ?_
 refine AL fun b3 => ?_
 refine QA (vnil (vseq (vseq ?_)))
 refine DR [(.q, 0), (.q, 1), (.q, 2), (.q, 3), (.m, 4), (.n, 5), (.q, 6)] Tryz.mixed ?_
 refine DN ?_
 refine DD (vcp rfl rfl rfl (c_region_Check a)) rfl ?_
 refine DN ?_
 refine DD (vcp rfl rfl rfl (c_region_Check b)) rfl ?_
 refine vdm (mone rfl) (vbsP rfl rfl rfl rfl rfl rfl) rfl rfl (fun b4 => ?_)
 refine vdn rfl (mone rfl) (vcq rfl rfl rfl ((h_firstR a b b4).fr1)) rfl rfl ?_
 refine DA (vdend rfl (KK2 ?_))
 refine QM ?_
 refine QG (vnil ?_)
 refine vcondd rfl (fun h14 => ?_) (fun h14 => ?_)
 ·
  refine KK2 (QB ?_)
  refine QM ?_
  refine SN ?_
  refine QA (vnil ?_)
  refine vret (vr2 (H' := H) Tryz.func210 rfl (.celln rfl rfl) (.tmp rfl) sb ?_)
  (rw [show meetE a b = (zR, chk2 a b) from if_neg h14]; exact ⟨rfl, rfl⟩)
 ·
  refine vskip (vseq ?_)
  refine DR [(.q, 0), (.q, 1), (.q, 2), (.q, 3), (.q, 4), (.q, 5), (.q, 6), (.q, 7), (.q, 8), (.q, 9), (.q, 10), (.c, 11), (.q, 12)] Tryz.mixed ?_
  refine DN ?_
  refine DD (vcp rfl rfl rfl (c_region_bounds _ _ _ _ _ _ _ _)) rfl ?_
  refine DN ?_
  refine DD (vcp rfl rfl rfl (c_region_bounds _ _ _ _ _ _ _ _)) rfl ?_
  refine DD (vcp rfl rfl rfl (c_cut4 a b)) rfl ?_
  refine DD (vcp rfl rfl rfl (c_tight (a.map2 Bd.cut b) (cut_sm (sm2a h14) (sm2b h14)))) rfl ?_
  refine DX ?_
  refine DX ?_
  refine DD (vcp rfl rfl rfl (c_doneO (tightP (a.map2 Bd.cut b)))) rfl ?_
  refine DX ?_
  refine DX ?_
  refine vdcs (mone rfl) (vstn rfl rfl rfl rfl rfl) rfl ?_
  refine DA (vdend rfl ?_)
  refine vret (vr2 (H' := H) Tryz.func210 rfl (.celln rfl rfl) (.tmp rfl) sb ?_)
  (rw [show meetE a b = optE (tightP (a.map2 Bd.cut b)) from if_pos (nn h14)]; exact ⟨rfl, rfl⟩)
theorem c_Join (a b : Rg) : VPure Tryz.prog 224 [vR a, vR b] (tup [vR (joinE a b).1, I (joinE a b).2]) := by
 intro H
 refine CV 35 Tryz.func224 ?_
 refine KK2 (BX fun b1 => ?_)
 refine BX fun b2 => ?_
 refine AL fun b3 => ?_
 refine QA (vnil (vseq (vseq ?_)))
 refine DR [(.q, 0), (.q, 1), (.q, 2), (.q, 3), (.m, 4), (.n, 5), (.q, 6)] Tryz.mixed ?_
 refine DN ?_
 refine DD (vcp rfl rfl rfl (c_region_Check a)) rfl ?_
 refine DN ?_
 refine DD (vcp rfl rfl rfl (c_region_Check b)) rfl ?_
 refine vdm (mone rfl) (vbsP rfl rfl rfl rfl rfl rfl) rfl rfl (fun b4 => ?_)
 refine vdn rfl (mone rfl) (vcq rfl rfl rfl ((h_firstR a b b4).fr1)) rfl rfl ?_
 refine DA (vdend rfl (KK2 ?_))
 refine QM ?_
 refine QG (vnil ?_)
 refine vcondd rfl (fun h16 => ?_) (fun h16 => ?_)
 ·
  refine KK2 (QB ?_)
  refine QM ?_
  refine SN ?_
  refine QA (vnil ?_)
  refine vret (vr2 (H' := H) Tryz.func224 rfl (.celln rfl rfl) (.tmp rfl) sb ?_)
  (rw [show joinE a b = (zR, chk2 a b) from if_neg h16]; exact ⟨rfl, rfl⟩)
 ·
  refine vskip (vseq ?_)
  refine vdraw [(.q, 0), (.q, 1), (.q, 3), (.g, 2), (.q, 4), (.g, 5), (.m, 6), (.n, 7), (.q, 8), (.q, 9), (.q, 10), (.a (blk [.int .i64 0, .int .i64 0, .int .i64 0, .int .i64 0, .int .i64 0, .int .i64 0, .int .i64 0, .int .i64 0] (275)), 11), (.s, 12), (.q, 13)] Tryz.mixed (by kernel_rfl) ⟨⟨_, _, _, _, _, rfl, _, inferInstance, rfl⟩, True.intro⟩ ?_
  refine DN ?_
  refine DD (vcp rfl rfl rfl (c_region_bounds _ _ _ _ _ _ _ _)) rfl ?_
  refine DN ?_
  refine vdg rfl (mone rfl) (vcnew rfl rfl rfl (n_ends a)) rfl rfl (fun b5 => ?_)
  refine DD (vcp rfl rfl rfl (c_region_bounds _ _ _ _ _ _ _ _)) rfl ?_
  refine vdg rfl (mone rfl) (vcnew rfl rfl rfl (n_ends b)) rfl rfl (fun b6 => ?_)
  refine vdm (mone rfl) (vbsP rfl rfl rfl rfl rfl rfl) rfl rfl (fun b7 => ?_)
  refine vdn rfl (mone rfl) (vcq rfl rfl rfl (((h_hull2 (it_ends a (sm2a h16) b5) (it_ends b (sm2b h16) b6) (fun p hp => ends_sm (sm2a h16) hp) (fun p hp => ends_sm (sm2b h16) hp) b7).perm ((List.Perm.swap _ _ _).cons _) ((List.Perm.swap _ _ _).cons _)).fr3)) rfl rfl ?_
  refine DM ?_
  refine DX ?_
  refine DX ?_
  refine vda rfl rfl (fun b8 => ?_)
  refine vds (mone rfl) (vstn rfl rfl rfl rfl rfl) rfl ?_
  refine DA (vdend rfl (vseq (KK2 ?_)))
  refine QM ?_
  refine QQ (vnot rfl) rfl (vnil ?_)
  refine vcond rfl (fun h31 => ?_) (fun h31 => ?_)
  ·
   refine KK2 (QB ?_)
   refine SN ?_
   refine QA (vnil ?_)
   refine vret (vr2 (H' := H) Tryz.func224 rfl (.celln rfl rfl) (.tmp rfl) sb ?_)
   (rw [show joinE a b = optE (hullP (endsOf a ++ endsOf b)) from if_pos (nn h16)]; first | (have hh := optN (h := (hullP (endsOf a ++ endsOf b))) h31; rw [optE_n hh]; exact ⟨rfl, rfl⟩) | (obtain ⟨gg, hh⟩ := optS (h := (hullP (endsOf a ++ endsOf b))) h31; rw [optE_s hh, hh]; exact ⟨rfl, rfl⟩))
  ·
   refine vskip (KK2 (QN ?_))
   refine QQ (vcp rfl rfl rfl (c_region_four_region _ _ _ _ _ _ _ _)) rfl ?_
   refine SN ?_
   refine QA (vnil ?_)
   refine vret (vr2 (H' := H) Tryz.func224 rfl (.celln rfl rfl) (.tmp rfl) sb ?_)
   (rw [show joinE a b = optE (hullP (endsOf a ++ endsOf b)) from if_pos (nn h16)]; first | (have hh := optN (h := (hullP (endsOf a ++ endsOf b))) h31; rw [optE_n hh]; exact ⟨rfl, rfl⟩) | (obtain ⟨gg, hh⟩ := optS (h := (hullP (endsOf a ++ endsOf b))) h31; rw [optE_s hh, hh]; exact ⟨rfl, rfl⟩))
theorem twoE_n {a b : Rg} (h : chk2 a b ≠ 0) : twoE a b = (zR, zR, chk2 a b) := if_neg h
theorem twoE_e {a b : Rg} (h : ¬ chk2 a b ≠ 0) : twoE a b = (match tightP a, tightP b with | some x, some y => (x, y, 0) | _, _ => (zR, zR, 4)) := if_pos (nn h)
theorem errO_z {h : Option Rg} (e : errO h = 0) : ∃ g, h = some g := by cases h <;> simp_all [errO]
theorem errO_nz {h : Option Rg} (e : errO h ≠ 0) : h = none := by cases h <;> simp_all [errO]
theorem h_firstE (g h : Option Rg) (bs : Nat) : VHas Tryz.prog 211 [.slice (some ⟨bs, 0, Option.none⟩) 2 2] (I (fst2 (errO g) (errO h))) [(bs, blk [I (errO g), I (errO h)] 23)] [(bs, blk [I (errO g), I (errO h)] 23)] := h_first2 _ _ bs
theorem fstE_z {g h : Option Rg} (e : ¬ fst2 (errO g) (errO h) ≠ 0) : ∃ x y, g = some x ∧ h = some y := by
  cases g <;> cases h <;> simp_all [fst2, errO]
theorem fstE_nz {g h : Option Rg} (e : fst2 (errO g) (errO h) ≠ 0) : fst2 (errO g) (errO h) = 4 ∧ (g = none ∨ h = none) := by
  cases g <;> cases h <;> simp_all [fst2, errO]
theorem twoE_4 {a b : Rg} (h : ¬ chk2 a b ≠ 0) (e : tightP a = none ∨ tightP b = none) : twoE a b = (zR, zR, 4) := by
  rw [twoE_e h]; rcases e with e | e
  · rw [e]
  · rw [e]; cases tightP a <;> rfl
theorem twoE_0 {a b x y : Rg} (h : ¬ chk2 a b ≠ 0) (ea : tightP a = some x) (eb : tightP b = some y) : twoE a b = (x, y, 0) := by
  rw [twoE_e h, ea, eb]
theorem c_two (a b : Rg) : VPure Tryz.prog 177 [vR a, vR b] (tup [vR (twoE a b).1, vR (twoE a b).2.1, I (twoE a b).2.2]) := by
 intro H
 refine CV 44 Tryz.func177 ?_
 refine KK2 (BX fun b1 => ?_)
 refine BX fun b2 => ?_
 refine AL fun b3 => ?_
 refine AL fun b4 => ?_
 refine QA (vnil (vseq (vseq ?_)))
 refine DR [(.q, 0), (.q, 1), (.q, 2), (.q, 3), (.m, 4), (.n, 5), (.q, 6)] Tryz.mixed ?_
 refine DN ?_
 refine DD (vcp rfl rfl rfl (c_region_Check a)) rfl ?_
 refine DN ?_
 refine DD (vcp rfl rfl rfl (c_region_Check b)) rfl ?_
 refine vdm (mone rfl) (vbsP rfl rfl rfl rfl rfl rfl) rfl rfl (fun b5 => ?_)
 refine vdn rfl (mone rfl) (vcq rfl rfl rfl ((h_firstR a b b5).fr1)) rfl rfl ?_
 refine DA (vdend rfl (KK2 ?_))
 refine QM ?_
 refine QG (vnil ?_)
 refine vcondd rfl (fun h17 => ?_) (fun h17 => ?_)
 ·
  refine KK2 (QB ?_)
  refine QB ?_
  refine QM ?_
  refine SN ?_
  refine SN ?_
  refine QA (vnil ?_)
  refine vret (vr3 (H' := H) Tryz.func177 rfl (.celln rfl rfl) (.celln rfl rfl) (.tmp rfl) sb ?_)
  (rw [twoE_n h17]; exact ⟨rfl, rfl⟩)
 ·
  refine vskip (KK2 (QN ?_))
  refine QQ (vcp rfl rfl rfl (c_region_bounds _ _ _ _ _ _ _ _)) rfl ?_
  refine QQ (vcp rfl rfl rfl (c_tight a (sm2a h17))) rfl ?_
  refine QM ?_
  refine QX ?_
  refine QX ?_
  refine SN ?_
  refine QA (KK3 ?_)
  refine QN ?_
  refine QQ (vcp rfl rfl rfl (c_region_bounds _ _ _ _ _ _ _ _)) rfl ?_
  refine QQ (vcp rfl rfl rfl (c_tight b (sm2b h17))) rfl ?_
  refine QM ?_
  refine QX ?_
  refine QX ?_
  refine SN ?_
  refine QA (vnil (vseq (KK2 ?_)))
  refine QM ?_
  refine QM ?_
  refine vone rfl (vxg (vbs rfl rfl rfl rfl rfl rfl) rfl rfl ?_)
  rintro _ _ ⟨b6, rfl, rfl⟩
  refine QQ (vcq rfl rfl rfl ((h_firstE (tightP a) (tightP b) b6).fr1)) rfl ?_
  refine QA (KK3 ?_)
  refine QM ?_
  refine QG (vnil ?_)
  refine vcondd rfl (fun h38 => ?_) (fun h38 => ?_)
  ·
   refine KK2 (QB ?_)
   refine QB ?_
   refine QM ?_
   refine SN ?_
   refine SN ?_
   refine QA (vnil ?_)
   refine vret (vr3 (H' := H) Tryz.func177 rfl (.celln rfl rfl) (.celln rfl rfl) (.tmp rfl) sb ?_)
   (obtain ⟨e4, eo⟩ := fstE_nz h38; rw [twoE_4 h17 eo, e4]; exact ⟨rfl, rfl⟩)
  ·
   refine vskip (vseq ?_)
   refine DR [(.q, 0), (.q, 1), (.q, 2), (.q, 3), (.q, 4)] Tryz.mixed ?_
   refine DN ?_
   refine DN ?_
   refine vdqn (mone rfl) (vstns rfl rfl rfl rfl rfl) rfl ?_
   refine vdqn (mone rfl) (vstns rfl rfl rfl rfl rfl) rfl ?_
   refine DA (vdend rfl ?_)
   refine vret (vr3 (H' := H) Tryz.func177 rfl (.celln rfl rfl) (.celln rfl rfl) (.tmp rfl) sb ?_)
   (obtain ⟨gx, gy, ex, ey⟩ := fstE_z h38; rw [twoE_0 h17 ex ey, ex, ey]; exact ⟨rfl, rfl⟩)
theorem optE_sm {r : Rg} (h : r.ok) : (optE (tightP r)).1.sm 65536 := by
  cases e : tightP r with
  | none => exact zR_sm
  | some t => exact tight_sm e h.sm
theorem ok_c {r : Rg} (h : ¬ chkR r ≠ 0) : r.ok := chkR_zero.1 (nn h)
theorem moveE_11 {r : Rg} {v : Pt} (h : chkR r ≠ 0) : moveE r v = (zR, chkR r) := by rw [moveE, if_neg (chkR_nz.1 h), chkR_no (chkR_nz.1 h)]
theorem moveE_7 {r : Rg} {v : Pt} (h : ¬ chkR r ≠ 0) (hv : ¬ v.okV) : moveE r v = (zR, 7) := by rw [moveE, if_pos (ok_c h), if_neg hv]
theorem moveE_4 {r : Rg} {v : Pt} (h : ¬ chkR r ≠ 0) (hv : v.okV) (e : tightP r = none) : moveE r v = (zR, 4) := by rw [moveE, if_pos (ok_c h), if_pos hv, e]
theorem moveE_0 {r x : Rg} {v : Pt} (h : ¬ chkR r ≠ 0) (hv : v.okV) (e : tightP r = some x) : moveE r v = insideE (x.map2 Bd.plus (ofP v)) := by rw [moveE, if_pos (ok_c h), if_pos hv, e]
theorem okV_sm {v : Pt} (h : v.okV) : v.sm 1099511627776 := by unfold Pt.okV at h; unfold Pt.sm; omega
theorem c_Move (r : Rg) (v : Pt) : VPure Tryz.prog 223 [vR r, vP v] (tup [vR (moveE r v).1, I (moveE r v).2]) := by
 intro H
 refine CV 47 Tryz.func223 ?_
 refine KK2 (BX fun b1 => ?_)
 refine BX fun b2 => ?_
 refine AL fun b3 => ?_
 refine QA (vnil (vseq (KK2 ?_)))
 refine QN ?_
 refine QQ (vcp rfl rfl rfl (c_region_Check r)) rfl ?_
 refine QA (KK3 ?_)
 refine QM ?_
 refine QG (vnil ?_)
 refine vcondd rfl (fun h12 => ?_) (fun h12 => ?_)
 ·
  refine KK2 (QB ?_)
  refine QM ?_
  refine SN ?_
  refine QA (vnil ?_)
  refine vret (vr2 (H' := H) Tryz.func223 rfl (.celln rfl rfl) (.tmp rfl) sb ?_)
  (rw [moveE_11 h12]; exact ⟨rfl, rfl⟩)
 ·
  refine vskip (vseq (vseq ?_))
  refine DR [(.q, 0), (.q, 1), (.q, 2), (.q, 3), (.q, 4), (.q, 5), (.q, 6), (.q, 7), (.q, 8), (.q, 9), (.q, 10), (.q, 11), (.q, 12), (.q, 13)] Tryz.mixed ?_
  refine DF ?_
  refine DL ?_
  refine DD (vcp rfl rfl rfl (c_region_limit_into _ _ (by omega))) rfl ?_
  refine DF ?_
  refine DL ?_
  refine DG ?_
  refine DM ?_
  refine vdsplitd (d := 21) rfl (fun h21 => ?_) (fun h21 => ?_)
  ·
   refine NP4 ?_
   refine NP2 ?_
   refine DT (vdend rfl ?_)
   refine vcondt rfl (KK2 (QB ?_))
   refine SN ?_
   refine QA (vnil ?_)
   refine vret (vr2 (H' := H) Tryz.func223 rfl (.celln rfl rfl) (.tmp rfl) sb ?_)
   (rw [moveE_7 h12 (by unfold Pt.okV; omega)]; exact ⟨rfl, rfl⟩)
  ·
   refine WF ?_
   refine WL ?_
   refine WW (vcp rfl rfl rfl (c_region_limit_into _ _ (by omega))) rfl ?_
   refine WF ?_
   refine WL ?_
   refine WG ?_
   refine DU (vdend rfl ?_)
   refine vcondd rfl (fun h28 => ?_) (fun h28 => ?_)
   ·
    refine KK2 (QB ?_)
    refine SN ?_
    refine QA (vnil ?_)
    refine vret (vr2 (H' := H) Tryz.func223 rfl (.celln rfl rfl) (.tmp rfl) sb ?_)
    (rw [moveE_7 h12 (by unfold Pt.okV; omega)]; exact ⟨rfl, rfl⟩)
   ·
    refine vskip (KK2 (QN ?_))
    refine QQ (vcp rfl rfl rfl (c_region_bounds _ _ _ _ _ _ _ _)) rfl ?_
    refine QQ (vcp rfl rfl rfl (c_tight r ((ok_c h12).sm.mono (by decide)))) rfl ?_
    refine QM ?_
    refine QX ?_
    refine QX ?_
    refine AL fun b4 => ?_
    refine SN ?_
    refine QA (vnil (vseq (KK2 ?_)))
    refine QM ?_
    refine QG (vnil ?_)
    refine vcondd rfl (fun h37 => ?_) (fun h37 => ?_)
    ·
     refine KK2 (QB ?_)
     refine QM ?_
     refine SN ?_
     refine QA (vnil ?_)
     refine vret (vr2 (H' := H) Tryz.func223 rfl (.celln rfl rfl) (.tmp rfl) sb ?_)
     (rw [moveE_4 h12 (by unfold Pt.okV; omega) (errO_nz h37), show (optE (tightP r)).2 = 4 from errO_none (errO_nz h37)]; exact ⟨rfl, rfl⟩)
    ·
     refine vskip (vseq ?_)
     refine DR [(.q, 0), (.q, 1), (.q, 2), (.q, 3), (.q, 4), (.q, 5), (.q, 6), (.c, 7), (.q, 8)] Tryz.mixed ?_
     refine DN ?_
     refine DN ?_
     refine DD (vcp rfl rfl rfl (c_of v (okV_sm (by unfold Pt.okV; omega)))) rfl ?_
     refine DD (vcp rfl rfl rfl (c_plus4 (optE (tightP r)).1 (ofP v) ((optE_sm (ok_c h12)).mono (by decide)) ((ofP_sm (by unfold Pt.okV; omega)).mono (by decide)))) rfl ?_
     refine DD (vcp rfl rfl rfl (c_inside ((optE (tightP r)).1.map2 Bd.plus (ofP v)))) rfl ?_
     refine DX ?_
     refine DX ?_
     refine vdcs (mone rfl) (vstn rfl rfl rfl rfl rfl) rfl ?_
     refine DA (vdend rfl ?_)
     refine vret (vr2 (H' := H) Tryz.func223 rfl (.celln rfl rfl) (.tmp rfl) sb ?_)
     (obtain ⟨gx, ex⟩ := errO_z (nn h37); rw [moveE_0 h12 (by unfold Pt.okV; omega) ex, ex]; exact ⟨rfl, rfl⟩)
theorem c_Swept (r : Rg) (u v : Pt) : VPure Tryz.prog 190 [vR r, vP u, vP v] (tup [vR (sweptE r u v).1, I (sweptE r u v).2]) := by
 intro H
 refine CV 36 Tryz.func190 ?_
 refine KK2 (BX fun b1 => ?_)
 refine BX fun b2 => ?_
 refine BX fun b3 => ?_
 refine AL fun b4 => ?_
 refine QA (KK3 ?_)
 refine QN ?_
 refine QN ?_
 refine QQ (vcp rfl rfl rfl (c_Move r u)) rfl ?_
 refine QM ?_
 refine QX ?_
 refine QX ?_
 refine AL fun b5 => ?_
 refine SN ?_
 refine QA (vnil (vseq (KK2 ?_)))
 refine QM ?_
 refine QG (vnil ?_)
 refine vcondd rfl (fun h18 => ?_) (fun h18 => ?_)
 ·
  refine KK2 (QB ?_)
  refine QM ?_
  refine SN ?_
  refine QA (vnil ?_)
  refine vret (vr2 (H' := H) Tryz.func190 rfl (.celln rfl rfl) (.tmp rfl) sb ?_)
  (rw [show sweptE r u v = (zR, (moveE r u).2) from if_neg h18]; exact ⟨rfl, rfl⟩)
 ·
  refine vskip (KK2 (QN ?_))
  refine QN ?_
  refine QQ (vcp rfl rfl rfl (c_Move r v)) rfl ?_
  refine QM ?_
  refine QX ?_
  refine QX ?_
  refine AL fun b6 => ?_
  refine SN ?_
  refine QA (vnil (vseq (KK2 ?_)))
  refine QM ?_
  refine QG (vnil ?_)
  refine vcondd rfl (fun h28 => ?_) (fun h28 => ?_)
  ·
   refine KK2 (QB ?_)
   refine QM ?_
   refine SN ?_
   refine QA (vnil ?_)
   refine vret (vr2 (H' := H) Tryz.func190 rfl (.celln rfl rfl) (.tmp rfl) sb ?_)
   (rw [show sweptE r u v = (zR, (moveE r v).2) by rw [sweptE, if_pos (nn h18), if_neg h28]]; exact ⟨rfl, rfl⟩)
  ·
   refine vskip (KK2 (QN ?_))
   refine QN ?_
   refine QQ (vcp rfl rfl rfl (c_Join (moveE r u).1 (moveE r v).1)) rfl ?_
   refine QX ?_
   refine QX ?_
   refine SN ?_
   refine QA (vnil ?_)
   refine vret (vr2 (H' := H) Tryz.func190 rfl (.celln rfl rfl) (.tmp rfl) sb ?_)
   (rw [show sweptE r u v = joinE (moveE r u).1 (moveE r v).1 by rw [sweptE, if_pos (nn h18), if_pos (nn h28)]]; exact ⟨rfl, rfl⟩)
end Go.Proofs.YtoebpndlbldfcaaGreatDoor
namespace Go.Proofs.YtoebpndlbldfcaaGreatDoor
open Go
set_option maxRecDepth 100000
theorem inR_mul {a b : Int} (ha : 0 ≤ a ∧ a ≤ 4194304) (hb : 0 ≤ b ∧ b ≤ 4194304) : InR (a * b) := by
  have := mul_bd ha hb; unfold InR; omega
theorem IsRt.bd {n r : Int} (h : IsRt n r) (hn : n ≤ 2199023255552) : r ≤ 2097152 := by
  obtain ⟨h1, h2, _⟩ := h
  rcases Int.lt_or_le 2097152 r with h3 | h3
  · have := sq_lt (by omega) h3; omega
  · exact h3
theorem c_root (n : Int) (hn : 0 ≤ n ∧ n ≤ 2199023255552) : VPure Tryz.prog 46 [I n] (I (rootP n)) := by
 intro H
 refine CV 22 Tryz.func46 ?_
 refine KK2 (QA (KK3 ?_))
 refine QA (vnil (vseq (KK2 ?_)))
 refine QA (vnil (vblock ?_))
 refine vwhile (σ := Int × Int) (fun ⟨r, bit⟩ => bit.toNat) (fun ⟨r, bit⟩ => [(0, I n), (3, I r), (4, I bit)]) (fun ⟨r, bit⟩ => H) (fun ⟨r, bit⟩ => RtInv n r bit) (0, 1048576) (RtInv.start (by omega)) ⟨rfl, rfl, rfl, True.intro⟩ sb ?_
 rintro ⟨r, bit⟩ hI IH
 change VRun _ _ _ _ _ [(0, I n), (3, I r), (4, I bit)] _ (H) _
 refine vseq (KK2 (QM ?_))
 refine QQ (vgtr rfl rfl) rfl (vnil ?_)
 refine vcondd rfl (fun h6 => ?_) (fun h6 => ?_)
 ·
  have hbd := hI.bd
  refine vskip (vseq (vblock (KK2 (QM ?_))))
  refine QM ?_
  refine QQ (vadd rfl rfl (by unfold InR; omega)) rfl ?_
  refine QM ?_
  refine QM ?_
  refine QQ (vadd rfl rfl (by unfold InR; omega)) rfl ?_
  refine QQ (vmul rfl rfl (inR_mul (by omega) (by omega))) rfl ?_
  refine QM ?_
  refine QQ (vleq rfl rfl) rfl (vnil ?_)
  refine vcondd rfl (fun h17 => ?_) (fun h17 => ?_)
  ·
   refine vregion (QM ?_)
   refine QM ?_
   refine QQ (vadd rfl rfl (by unfold InR; omega)) rfl ?_
   refine QA (vnil (vinblock (vregion ?_)))
   refine QM ?_
   refine QQ (vquop rfl rfl (by omega) (by omega) (by unfold InR; omega)) rfl ?_
   refine QA (vnil ?_)
   exact vback (IH (r + bit, bit / 2) (hI.yes h6 h17) (by show (_ : Int).toNat < (_ : Int).toNat; omega)) ⟨rfl, rfl, rfl, True.intro⟩ sb
  ·
   refine vskip (vinblock (vregion (QM ?_)))
   refine QQ (vquop rfl rfl (by omega) (by omega) (by unfold InR; omega)) rfl ?_
   refine QA (vnil ?_)
   exact vback (IH (r, bit / 2) (hI.no h6 h17) (by show (_ : Int).toNat < (_ : Int).toNat; omega)) ⟨rfl, rfl, rfl, True.intro⟩ sb
 ·
  refine vexit (k' := _) rfl ?_
  refine KK2 (QM ?_)
  refine QA (vnil ?_)
  refine vret (V1 (H) Tryz.func46 ?_)
  exact ⟨oI (rootP_eq (hI.done h6)).symm, rfl⟩
theorem c_Root (n : Int) : VPure Tryz.prog 33 [I n] (tup [I (rootE n).1, I (rootE n).2]) := by
 intro H
 refine CV 9 Tryz.func33 ?_
 refine KK2 (QA ?_)
 refine QA (vnil (vseq (KK2 ?_)))
 refine QM ?_
 refine QQ (vcp rfl rfl rfl (c_region_within _ _ _)) rfl ?_
 refine QQ (vnotd rfl) rfl (vnil ?_)
 refine vcondd rfl (fun h6 => ?_) (fun h6 => ?_)
 ·
  refine KK2 (QA ?_)
  refine QA (vnil ?_)
  refine vret (vr2 (H' := H) Tryz.func33 rfl (.tmp rfl) (.tmp rfl) sb ?_)
  (rw [show rootE n = (0, 7) from if_neg (by omega)]; exact ⟨rfl, rfl⟩)
 ·
  refine vskip (KK2 (QM ?_))
  refine QQ (vcp rfl rfl rfl (c_root n (by omega))) rfl ?_
  refine QA ?_
  refine QA (vnil ?_)
  refine vret (vr2 (H' := H) Tryz.func33 rfl (.tmp rfl) (.tmp rfl) sb ?_)
  (rw [show rootE n = (rootP n, 0) from if_pos (by omega)]; exact ⟨rfl, rfl⟩)
theorem c_farthest (n : Int) (hn : 0 ≤ n ∧ n ≤ 32768) : VPure Tryz.prog 208 [I n] (I (farP n)) := by
 have h2n : 0 ≤ 2 * n * n ∧ 2 * n * n ≤ 2147483648 := by have := mul_bd (a := 2 * n) (b := n) (m := 65536) (by omega) (by omega); have h3 := mul_bd (a := n) (b := n) (m := 32768) (by omega) (by omega); rw [Int.mul_assoc]; omega
 have hnn := mul_bd (a := n) (b := n) (m := 32768) (by omega) (by omega)
 have hrt := rootP_is h2n.1
 intro H
 refine CV 31 Tryz.func208 ?_
 refine KK2 (QA (KK3 ?_))
 refine QM ?_
 refine QQ (vmul rfl rfl (by unfold InR; omega)) rfl ?_
 refine QM ?_
 refine QQ (vmul rfl rfl (by unfold InR; omega)) rfl ?_
 refine QQ (vcp rfl rfl rfl (c_root (2 * n * n) (by omega))) rfl ?_
 refine QA (vnil (vseq (vblock ?_)))
 refine vwhile (σ := Int) (fun s => s.toNat) (fun s => [(0, I n), (3, I s)]) (fun s => H) (fun s => (0 ≤ s ∧ s ≤ 2097152) ∧ ∀ s', s < s' → n * n < half2 s') (rootP (2 * n * n)) ⟨⟨hrt.1, hrt.bd (by omega)⟩, far_start hrt⟩ ⟨rfl, rfl, True.intro⟩ sb ?_
 rintro s ⟨⟨hs0, hs1⟩, hfar⟩ IH
 change VRun _ _ _ _ _ [(0, I n), (3, I s)] _ (H) _
 refine vseq (KK2 (QM ?_))
 refine QQ (vquop rfl rfl (by omega) (by omega) (by unfold InR; omega)) rfl ?_
 refine QM ?_
 refine QQ (vquop rfl rfl (by omega) (by omega) (by unfold InR; omega)) rfl ?_
 refine QQ (vmul rfl rfl (inR_mul (by omega) (by omega))) rfl ?_
 refine QM ?_
 refine QM ?_
 refine QQ (vquop rfl rfl (by omega) (by omega) (by unfold InR; omega)) rfl ?_
 refine QQ (vsub rfl rfl (by unfold InR; omega)) rfl ?_
 refine QM ?_
 refine QM ?_
 refine QQ (vquop rfl rfl (by omega) (by omega) (by unfold InR; omega)) rfl ?_
 refine QQ (vsub rfl rfl (by unfold InR; omega)) rfl ?_
 refine QQ (vmul rfl rfl (inR_mul (by omega) (by omega))) rfl ?_
 refine QQ (vadd rfl rfl (by have h1 := mul_bd (a := s / 2) (b := s / 2) (m := 4194304) (by omega) (by omega); have h2 := mul_bd (a := s - s / 2) (b := s - s / 2) (m := 4194304) (by omega) (by omega); unfold InR; omega)) rfl ?_
 refine QM ?_
 refine QM ?_
 refine QQ (vmul rfl rfl (inR_mul (by omega) (by omega))) rfl ?_
 refine QQ (vgtr rfl rfl) rfl (vnil ?_)
 refine vcondd rfl (fun h27 => ?_) (fun h27 => ?_)
 ·
  refine vskip (vblock (vregion (QM ?_)))
  refine QQ (vsub rfl rfl (by unfold InR; omega)) rfl ?_
  refine QA (vnil (vinblock ?_))
  have hpos : 0 < s := by
   rcases Int.lt_or_le 0 s with h | h
   · exact h
   ·
    have : s = 0 := by omega
    subst this; exact absurd h27 (by simp; omega)
  exact vback (IH (s - 1) ⟨by omega, fun s' hs' => by
    by_cases e : s' = s
    · subst e; exact h27
    · exact hfar s' (by omega)⟩ (by show (_ : Int).toNat < (_ : Int).toNat; omega)) ⟨rfl, rfl, True.intro⟩ sb
 ·
  refine vexit (k' := _) rfl ?_
  refine KK2 (QM ?_)
  refine QA (vnil ?_)
  refine vret (V1 (H) Tryz.func208 ?_)
  exact ⟨oI (farP_eq hn.1 ⟨hs0, Int.not_lt.1 h27, hfar⟩).symm, rfl⟩
structure WInv (n best x y : Int) : Prop where
  bd : (0 ≤ x ∧ x ≤ n + 1) ∧ (0 ≤ y ∧ y ≤ n) ∧ 0 ≤ best ∧ best ≤ 70000
  over : ∀ a b, x ≤ a → y < b → n * n < a * a + b * b
  all : ∀ a b, 0 ≤ a → a < x → 0 ≤ b → a * a + b * b ≤ n * n → a + b ≤ best
  some : ∃ a b, 0 ≤ a ∧ 0 ≤ b ∧ a * a + b * b ≤ n * n ∧ a + b = best
theorem WInv.start {n : Int} (hn : 0 ≤ n ∧ n ≤ 32768) : WInv n 0 0 n := by
  refine ⟨by omega, fun a b ha hb => ?_, fun a b ha hx => by omega, 0, 0, by omega, by omega, by have := sq_nn n; omega, by omega⟩
  have h1 := sq_lt hn.1 hb
  have h2 := sq_nn a
  omega
theorem WInv.less {n best x y : Int} (h : WInv n best x y) (hx : x ≤ n) (hg : x * x + y * y > n * n) : 0 < y ∧ WInv n best x (y - 1) := by
  have hb := h.bd
  have hpos : 0 < y := by
    rcases Int.lt_or_le 0 y with h0 | h0
    · exact h0
    · have e : y = 0 := by omega
      subst e
      have := sq_mono hb.1.1 hx
      omega
  refine ⟨hpos, by omega, fun a b ha hb' => ?_, h.all, h.some⟩
  by_cases e : b = y
  · subst e
    have := sq_mono hb.1.1 ha
    omega
  · exact h.over a b ha (by omega)
theorem WInv.next {n best x y : Int} (hn : n ≤ 32768) (h : WInv n best x y) (hx : x ≤ n) (hg : ¬ x * x + y * y > n * n) : WInv n (max best (x + y)) (x + 1) y := by
  have hb := h.bd
  refine ⟨by omega, fun a b ha hb' => h.over a b (by omega) hb', fun a b ha hax hb' hab => ?_, ?_⟩
  · by_cases e : a = x
    · subst e
      rcases Int.lt_or_le y b with h1 | h1
      · have := h.over a b (by omega) h1; omega
      · omega
    · have := h.all a b ha (by omega) hb' hab; omega
  · rcases Int.le_total best (x + y) with h1 | h1
    · exact ⟨x, y, hb.1.1, hb.2.1.1, by omega, by omega⟩
    · obtain ⟨a, b, h2, h3, h4, h5⟩ := h.some
      exact ⟨a, b, h2, h3, h4, by omega⟩
theorem WInv.done {n best x y : Int} (h : WInv n best x y) (hx : ¬ x ≤ n) (hn : 0 ≤ n) : farP n = best := by
  refine farP_eq hn (far_of_widest hn h.some fun a b ha hb hab => h.all a b ha ?_ hb hab)
  rcases Int.lt_or_le a x with h1 | h1
  · exact h1
  · have h2 := sq_lt hn (show n < a by omega)
    have h3 := sq_nn b
    omega
theorem reachE_11 {r : Rg} {n : Int} (h : chkR r ≠ 0) : reachE r n = (zR, chkR r) := by rw [reachE, if_neg (chkR_nz.1 h), chkR_no (chkR_nz.1 h)]
theorem reachE_7 {r : Rg} {n : Int} (h : ¬ chkR r ≠ 0) (hv : ¬ (0 ≤ n ∧ n ≤ 32768)) : reachE r n = (zR, 7) := by rw [reachE, if_pos (ok_c h), if_neg hv]
theorem reachE_4 {r : Rg} {n : Int} (h : ¬ chkR r ≠ 0) (hv : 0 ≤ n ∧ n ≤ 32768) (e : tightP r = none) : reachE r n = (zR, 4) := by rw [reachE, if_pos (ok_c h), if_pos hv, e]
theorem reachE_0 {r x : Rg} {n : Int} (h : ¬ chkR r ≠ 0) (hv : 0 ≤ n ∧ n ≤ 32768) (e : tightP r = some x) : reachE r n = optE (tightP (wideR x n (farP n))) := by rw [reachE, if_pos (ok_c h), if_pos hv, e]
theorem farP_bd {n : Int} (hn : 0 ≤ n ∧ n ≤ 32768) : 0 ≤ farP n ∧ farP n ≤ 65536 := by
  have h := farP_is hn.1
  have := far_bd h hn.1
  have := h.1
  omega
end Go.Proofs.YtoebpndlbldfcaaGreatDoor
namespace Go.Proofs.YtoebpndlbldfcaaGreatDoor
open Go
set_option maxRecDepth 100000
attribute [local irreducible] farP tightP hullP rootP
theorem c_Reach (r : Rg) (n : Int) : VPure Tryz.prog 174 [vR r, I n] (tup [vR (reachE r n).1, I (reachE r n).2]) := by
 intro H
 refine CV 78 Tryz.func174 ?_
 refine KK2 (BX fun b1 => ?_)
 refine AL fun b2 => ?_
 refine QA (vnil (vseq (KK2 ?_)))
 refine QN ?_
 refine QQ (vcp rfl rfl rfl (c_region_Check r)) rfl ?_
 refine QA (KK3 ?_)
 refine QM ?_
 refine QG (vnil ?_)
 refine vcondd rfl (fun h17 => ?_) (fun h17 => ?_)
 ·
  refine KK2 (QB ?_)
  refine QM ?_
  refine SN ?_
  refine QA (vnil ?_)
  refine vret (vr2 (H' := H) Tryz.func174 rfl (.celln rfl rfl) (.tmp rfl) sb ?_)
  (rw [reachE_11 h17]; exact ⟨rfl, rfl⟩)
 ·
  refine vskip (vseq (KK2 (QM ?_)))
  refine QQ (vcp rfl rfl rfl (c_region_within _ _ _)) rfl ?_
  refine QQ (vnotd rfl) rfl (vnil ?_)
  refine vcondd rfl (fun h22 => ?_) (fun h22 => ?_)
  ·
   refine KK2 (QB ?_)
   refine SN ?_
   refine QA (vnil ?_)
   refine vret (vr2 (H' := H) Tryz.func174 rfl (.celln rfl rfl) (.tmp rfl) sb ?_)
   (rw [reachE_7 h17 (by omega)]; exact ⟨rfl, rfl⟩)
  ·
   refine vskip (KK2 (QN ?_))
   refine QQ (vcp rfl rfl rfl (c_region_bounds _ _ _ _ _ _ _ _)) rfl ?_
   refine QQ (vcp rfl rfl rfl (c_tight r ((ok_c h17).sm.mono (by decide)))) rfl ?_
   refine QM ?_
   refine QX ?_
   refine QX ?_
   refine AL fun b3 => ?_
   refine SN ?_
   refine QA (vnil (vseq (KK2 ?_)))
   refine QM ?_
   refine QG (vnil ?_)
   refine vcondd rfl (fun h31 => ?_) (fun h31 => ?_)
   ·
    refine KK2 (QB ?_)
    refine QM ?_
    refine SN ?_
    refine QA (vnil ?_)
    refine vret (vr2 (H' := H) Tryz.func174 rfl (.celln rfl rfl) (.tmp rfl) sb ?_)
    (rw [reachE_4 h17 (by omega) (errO_nz h31), show (optE (tightP r)).2 = 4 from errO_none (errO_nz h31)]; exact ⟨rfl, rfl⟩)
   ·
    refine vskip (KK2 (QM ?_))
    refine QQ (vcp rfl rfl rfl (c_farthest n (by omega))) rfl ?_
    have hfb := farP_bd (n := n) (by omega)
    have hsm := optE_sm (ok_c h17)
    unfold Rg.sm Bd.sm at hsm
    refine QA (KK3 ?_)
    refine QB ?_
    refine QM ?_
    refine QM ?_
    refine QM ?_
    refine QM ?_
    refine QB ?_
    refine AL fun b4 => ?_
    refine AL fun b5 => ?_
    refine SN ?_
    refine SN (vnil (vseq (KK2 ?_)))
    refine QN ?_
    refine QM (vnil (vblock ?_))
    refine vloop1 ?_
    refine KK2 (QS (vnil (vseq ?_)))
    refine vcondt rfl (vskip (vseq (vblock (KK2 (QM ?_)))))
    refine QQ (vixan rfl rfl (by omega) rfl) rfl ?_
    refine AL fun b6 => ?_
    refine QA ?_
    refine SN (vnil ?_)
    refine DR [(.q, 0), (.q, 1), (.q, 2), (.q, 3), (.q, 4), (.q, 5), (.q, 6), (.q, 7), (.q, 8), (.q, 9), (.q, 10), (.q, 11), (.q, 12), (.q, 13), (.q, 14), (.q, 15), (.q, 16), (.q, 17), (.q, 18), (.q, 19), (.q, 20), (.q, 21), (.q, 22), (.c, 23)] Tryz.mixed ?_
    refine DM ?_
    refine DM ?_
    refine DD (via rfl rfl (by omega)) rfl ?_
    refine DL ?_
    refine DF ?_
    refine DL ?_
    refine DM ?_
    refine DD (via rfl rfl (by omega)) rfl ?_
    refine DL ?_
    refine DD (vsub rfl rfl (by unfold InR; omega)) rfl ?_
    refine DD (vcp rfl rfl rfl (c_region_limit_into _ _ (by omega))) rfl ?_
    refine DM ?_
    refine DD (via rfl rfl (by omega)) rfl ?_
    refine DL ?_
    refine DF ?_
    refine DL ?_
    refine DM ?_
    refine DD (via rfl rfl (by omega)) rfl ?_
    refine DL ?_
    refine DD (vadd rfl rfl (by unfold InR; omega)) rfl ?_
    refine DD (vcp rfl rfl rfl (c_region_limit_into _ _ (by omega))) rfl ?_
    refine DB ?_
    refine DD (via rfl rfl (by omega)) rfl ?_
    refine vdcs (mone rfl) (vstn rfl rfl rfl rfl rfl) rfl ?_
    refine vdend rfl (vinblock (vregion (QQ (vadd rfl rfl (by unfold InR; omega)) rfl ?_)))
    refine QM (vnil ?_)
    refine vinloop1 ?_
    refine KK2 (QS (vnil (vseq ?_)))
    refine vcondt rfl (vskip (vseq (vblock (KK2 (QM ?_)))))
    refine QQ (vixan rfl rfl (by omega) rfl) rfl ?_
    refine AL fun b7 => ?_
    refine QA ?_
    refine SN (vnil ?_)
    refine DR [(.q, 0), (.q, 1), (.q, 2), (.q, 3), (.q, 4), (.q, 5), (.q, 6), (.q, 7), (.q, 8), (.q, 9), (.q, 10), (.q, 11), (.q, 12), (.q, 13), (.q, 14), (.q, 15), (.q, 16), (.q, 17), (.q, 18), (.q, 19), (.q, 20), (.q, 21), (.q, 22), (.c, 23)] Tryz.mixed ?_
    refine DM ?_
    refine DM ?_
    refine DD (via rfl rfl (by omega)) rfl ?_
    refine DL ?_
    refine DF ?_
    refine DL ?_
    refine DM ?_
    refine DD (via rfl rfl (by omega)) rfl ?_
    refine DL ?_
    refine DD (vsub rfl rfl (by unfold InR; omega)) rfl ?_
    refine DD (vcp rfl rfl rfl (c_region_limit_into _ _ (by omega))) rfl ?_
    refine DM ?_
    refine DD (via rfl rfl (by omega)) rfl ?_
    refine DL ?_
    refine DF ?_
    refine DL ?_
    refine DM ?_
    refine DD (via rfl rfl (by omega)) rfl ?_
    refine DL ?_
    refine DD (vadd rfl rfl (by unfold InR; omega)) rfl ?_
    refine DD (vcp rfl rfl rfl (c_region_limit_into _ _ (by omega))) rfl ?_
    refine DB ?_
    refine DD (via rfl rfl (by omega)) rfl ?_
    refine vdcs (mone rfl) (vstn rfl rfl rfl rfl rfl) rfl ?_
    refine vdend rfl (vinblock (vregion (QQ (vadd rfl rfl (by unfold InR; omega)) rfl ?_)))
    refine QM (vnil ?_)
    refine vinloop1 ?_
    refine KK2 (QS (vnil (vseq ?_)))
    refine vcondt rfl (vskip (vseq (vblock (KK2 (QM ?_)))))
    refine QQ (vixan rfl rfl (by omega) rfl) rfl ?_
    refine AL fun b8 => ?_
    refine QA ?_
    refine SN (vnil ?_)
    refine DR [(.q, 0), (.q, 1), (.q, 2), (.q, 3), (.q, 4), (.q, 5), (.q, 6), (.q, 7), (.q, 8), (.q, 9), (.q, 10), (.q, 11), (.q, 12), (.q, 13), (.q, 14), (.q, 15), (.q, 16), (.q, 17), (.q, 18), (.q, 19), (.q, 20), (.q, 21), (.q, 22), (.c, 23)] Tryz.mixed ?_
    refine DM ?_
    refine DM ?_
    refine DD (via rfl rfl (by omega)) rfl ?_
    refine DL ?_
    refine DF ?_
    refine DL ?_
    refine DM ?_
    refine DD (via rfl rfl (by omega)) rfl ?_
    refine DL ?_
    refine DD (vsub rfl rfl (by unfold InR; omega)) rfl ?_
    refine DD (vcp rfl rfl rfl (c_region_limit_into _ _ (by omega))) rfl ?_
    refine DM ?_
    refine DD (via rfl rfl (by omega)) rfl ?_
    refine DL ?_
    refine DF ?_
    refine DL ?_
    refine DM ?_
    refine DD (via rfl rfl (by omega)) rfl ?_
    refine DL ?_
    refine DD (vadd rfl rfl (by unfold InR; omega)) rfl ?_
    refine DD (vcp rfl rfl rfl (c_region_limit_into _ _ (by omega))) rfl ?_
    refine DB ?_
    refine DD (via rfl rfl (by omega)) rfl ?_
    refine vdcs (mone rfl) (vstn rfl rfl rfl rfl rfl) rfl ?_
    refine vdend rfl (vinblock (vregion (QQ (vadd rfl rfl (by unfold InR; omega)) rfl ?_)))
    refine QM (vnil ?_)
    refine vinloop1 ?_
    refine KK2 (QS (vnil (vseq ?_)))
    refine vcondt rfl (vskip (vseq (vblock (KK2 (QM ?_)))))
    refine QQ (vixan rfl rfl (by omega) rfl) rfl ?_
    refine AL fun b9 => ?_
    refine QA ?_
    refine SN (vnil ?_)
    refine DR [(.q, 0), (.q, 1), (.q, 2), (.q, 3), (.q, 4), (.q, 5), (.q, 6), (.q, 7), (.q, 8), (.q, 9), (.q, 10), (.q, 11), (.q, 12), (.q, 13), (.q, 14), (.q, 15), (.q, 16), (.q, 17), (.q, 18), (.q, 19), (.q, 20), (.q, 21), (.q, 22), (.c, 23)] Tryz.mixed ?_
    refine DM ?_
    refine DM ?_
    refine DD (via rfl rfl (by omega)) rfl ?_
    refine DL ?_
    refine DF ?_
    refine DL ?_
    refine DM ?_
    refine DD (via rfl rfl (by omega)) rfl ?_
    refine DL ?_
    refine DD (vsub rfl rfl (by unfold InR; omega)) rfl ?_
    refine DD (vcp rfl rfl rfl (c_region_limit_into _ _ (by omega))) rfl ?_
    refine DM ?_
    refine DD (via rfl rfl (by omega)) rfl ?_
    refine DL ?_
    refine DF ?_
    refine DL ?_
    refine DM ?_
    refine DD (via rfl rfl (by omega)) rfl ?_
    refine DL ?_
    refine DD (vadd rfl rfl (by unfold InR; omega)) rfl ?_
    refine DD (vcp rfl rfl rfl (c_region_limit_into _ _ (by omega))) rfl ?_
    refine DB ?_
    refine DD (via rfl rfl (by omega)) rfl ?_
    refine vdcs (mone rfl) (vstn rfl rfl rfl rfl rfl) rfl ?_
    refine vdend rfl (vinblock (vregion (QQ (vadd rfl rfl (by unfold InR; omega)) rfl ?_)))
    refine QM (vnil ?_)
    refine vinloop1 ?_
    refine KK2 (QS (vnil (vseq ?_)))
    refine vcondf rfl ?_
    refine vexit (k' := _) rfl ?_
    refine KK2 (QN ?_)
    refine QQ (vcp rfl rfl rfl (c_tight (wideR (optE (tightP r)).1 n (farP n)) ((wideR_sm _ _ _).mono (by decide)))) rfl ?_
    refine QX ?_
    refine QX ?_
    refine QQ (vcp rfl rfl rfl (c_doneO (tightP (wideR (optE (tightP r)).1 n (farP n))))) rfl ?_
    refine QX ?_
    refine QX ?_
    refine SN ?_
    refine QA (vnil ?_)
    refine vret (vr2 (H' := H) Tryz.func174 rfl (.celln rfl rfl) (.tmp rfl) sb ?_)
    (obtain ⟨gx, ex⟩ := errO_z (nn h31); rw [reachE_0 h17 (by omega) ex]; exact ⟨by rw [ex]; rfl, rfl⟩)
end Go.Proofs.YtoebpndlbldfcaaGreatDoor
namespace Go.Proofs.YtoebpndlbldfcaaGreatDoor
open Go
set_option maxRecDepth 100000
attribute [local irreducible] tightP hullP rootP farP rows endsOf
abbrev clB (x : Bd) : List Value := [I x.lo, I x.hi]
theorem h_pickBd {kf g : FuncId} [TFn Tryz.prog kf] [TFn Tryz.prog g] {caps : List Value} {Hi : Heap} {xs : List Bd} (better : Bd → Bd → Bool) (hit : VIt Tryz.prog kf caps (fun x => [vB x]) xs Hi) (hg : ∀ a b, VPure Tryz.prog g [vB a, vB b] (.bool (better a b))) : VHas Tryz.prog 214 [.func (.func kf) #[] caps.toArray, fnv g] (tup [vB ((pickL better xs).getD zB), .bool (pickL better xs).isSome]) Hi Hi := by
 refine CV 20 Tryz.func214 ?_
 refine KK2 (BX fun b1 => ?_)
 refine AL fun b2 => ?_
 refine AL fun b3 => (vnil (vseq (KK2 ?_)))
 refine QM (vnil (vblock ?_))
 refine vrange (enc := (fun x => [vB x])) (xs := xs) (caps := caps) (Hi := Hi) (Hc := [(b3, blk [.bool (pickL better []).isSome] 4), (b2, blk (clB ((pickL better []).getD zB)) 56), (b1, blk [fnv g] 350)]) (ps := [8]) (fun pre H1 => H1 = [(b3, blk [.bool (pickL better pre).isSome] 4), (b2, blk (clB ((pickL better pre).getD zB)) 56), (b1, blk [fnv g] 350)]) (fun _ _ => False) rfl (hit) (List.perm_append_comm (l₁ := [(b3, blk [.bool (pickL better []).isSome] 4), (b2, blk (clB ((pickL better []).getD zB)) 56), (b1, blk [fnv g] 350)])) rfl (fun _ => rfl) rfl ?_ ?_ ?_
 ·
  intro lp rec pre x post H1 hrs hxs hI
  subst hI
  refine vregion (AL fun b4 => ?_)
  refine SN (vnil ?_)
  refine vbegin hrs ?_
  refine vblock (KK2 (QL ?_))
  refine QQ (vnot rfl) rfl ?_
  refine QM ?_
  refine vsplit (d := 11) rfl (fun h11 => ?_) (fun h11 => ?_)
  ·
   refine NO4 ?_
   refine QT (vnil ?_)
   refine vcondt rfl (vregion (QN ?_))
   refine SN ?_
   refine SU (vnil (vinblock ?_))
   refine vroundI_end (H' := [(b3, _), (b2, _), (b1, _)]) sb ?_
   (rw [pick_n (x := x) h11]; rfl)
  ·
   refine YL ?_
   refine YN ?_
   refine YN ?_
   refine YY (vcp rfl rfl rfl (hg x ((pickL better pre).getD zB))) rfl ?_
   refine QU (vnil ?_)
   refine vcond rfl (fun h16 => ?_) (fun h16 => ?_)
   ·
    refine vregion (QN ?_)
    refine SN ?_
    refine SU (vnil (vinblock ?_))
    refine vroundI_end (H' := [(b3, _), (b2, _), (b1, _)]) sb ?_
    (rw [pick_y (z := zB) (x := x) h11 h16]; rfl)
   ·
    refine vskip (vinblock ?_)
    refine vroundI_end (H' := [(b3, _), (b2, _), (b1, _)]) sb ?_
    (rw [pick_k (z := zB) (x := x) h11 h16])
 ·
  intro r1 H1 hI
  subst hI
  refine VRun.perm (H' := (r1, Obj.deferred (some [])) :: (b3, blk [.bool (pickL better xs).isSome] 4) :: (b2, blk (clB ((pickL better xs).getD zB)) 56) :: (b1, blk [fnv g] 350) :: Hi) ((List.perm_append_comm).cons _) ?_
  refine vinblock (vseq ?_)
  refine DR [(.q, 0), (.q, 1), (.q, 2), (.q, 3)] Tryz.mixed ?_
  refine DN ?_
  refine DL ?_
  refine vdqn (mone rfl) (vstns rfl rfl rfl rfl rfl) rfl ?_
  refine vdqn (mone rfl) (vst1s rfl rfl rfl rfl) rfl ?_
  refine vdend rfl ?_
  refine vret (vret_mark (vr2 (H' := Hi) Tryz.func214 rfl (.celln rfl rfl) (.cell1 rfl rfl) sb ?_))
  exact ⟨rfl, rfl⟩
 ·
  intro r1 c H1 hI
  exact hI.elim
end Go.Proofs.YtoebpndlbldfcaaGreatDoor
namespace Go.Proofs.YtoebpndlbldfcaaGreatDoor
open Go
set_option maxRecDepth 100000
attribute [local irreducible] tightP hullP rootP farP rows endsOf pickL sqL
theorem abs_mul_bd {a b m k : Int} (ha : -m ≤ a ∧ a ≤ m) (hb : -k ≤ b ∧ b ≤ k) : -(m * k) ≤ a * b ∧ a * b ≤ m * k := by
  have h1 := Int.mul_nonneg (show 0 ≤ m - a by omega) (show 0 ≤ k + b by omega)
  have h2 := Int.mul_nonneg (show 0 ≤ m + a by omega) (show 0 ≤ k - b by omega)
  have h3 := Int.mul_nonneg (show 0 ≤ m - a by omega) (show 0 ≤ k - b by omega)
  have h4 := Int.mul_nonneg (show 0 ≤ m + a by omega) (show 0 ≤ k + b by omega)
  simp only [Int.add_mul, Int.mul_add, Int.sub_mul, Int.mul_sub] at h1 h2 h3 h4
  omega
theorem map_split {α β : Type} {f : α → β} {l pre post : List α} {x : α} (h : l = pre ++ x :: post) : l.map f = pre.map f ++ f x :: post.map f := by rw [h]; simp
theorem map_snoc {α β : Type} {f : α → β} {pre : List α} {x : α} : (pre ++ [x]).map f = pre.map f ++ [f x] := by simp
theorem sqI_bd {f : Rg} (hf : f.sm 524288) {p : Pt} (hp : p.sm 524288) {w : Rw} (hw : w ∈ rows f) : ((-1048576 ≤ w.x - p.x ∧ w.x - p.x ≤ 1048576) ∧ (-1048576 ≤ nearY p w ∧ nearY p w ≤ 1048576) ∧ (-1048576 ≤ w.a - p.y ∧ w.a - p.y ≤ 1048576) ∧ (-1048576 ≤ w.b - p.y ∧ w.b - p.y ≤ 1048576)) ∧
    ((0 ≤ (w.x - p.x) * (w.x - p.x) ∧ (w.x - p.x) * (w.x - p.x) ≤ 1099511627776) ∧ (0 ≤ nearY p w * nearY p w ∧ nearY p w * nearY p w ≤ 1099511627776) ∧ (0 ≤ (w.a - p.y) * (w.a - p.y) ∧ (w.a - p.y) * (w.a - p.y) ≤ 1099511627776) ∧ (0 ≤ (w.b - p.y) * (w.b - p.y) ∧ (w.b - p.y) * (w.b - p.y) ≤ 1099511627776)) := by
  have h := rows_sm hf hw
  unfold Pt.sm at hp
  have sqb : ∀ a : Int, (-1048576 ≤ a ∧ a ≤ 1048576) → 0 ≤ a * a ∧ a * a ≤ 1099511627776 := fun a ha => ⟨sq_nn a, by have := abs_mul_bd ha ha; omega⟩
  have h1 : -1048576 ≤ w.x - p.x ∧ w.x - p.x ≤ 1048576 := by omega
  have h2 : -1048576 ≤ nearY p w ∧ nearY p w ≤ 1048576 := by unfold nearY; omega
  have h3 : -1048576 ≤ w.a - p.y ∧ w.a - p.y ≤ 1048576 := by omega
  have h4 : -1048576 ≤ w.b - p.y ∧ w.b - p.y ≤ 1048576 := by omega
  exact ⟨⟨h1, h2, h3, h4⟩, sqb _ h1, sqb _ h2, sqb _ h3, sqb _ h4⟩
theorem it_sq (f : Rg) (p : Pt) (hf : f.sm 524288) (hp : p.sm 524288) (bf bp : Nat) : VIt Tryz.prog 212 [ptr bf, ptr bp] (fun b => [vB b]) ((rows f).map (sqI p)) [(bp, blk [I p.x, I p.y] 44) , (bf, blk (clR f) 275)] := by
 have hs : f.sm 1099511627776 := hf.mono (by decide)
 have hf2 := hf
 have hp2 := hp
 unfold Rg.sm Bd.sm at hf2
 unfold Pt.sm at hp2
 intro yf ya yc J Jx Hc0 hJ0 hy
 change VCall _ _ _ ((bp, blk [I p.x, I p.y] 44) :: (bf, blk (clR f) 275) :: Hc0) _
 refine CV 60 Tryz.func212 ?_
 refine KK2 (BX fun b1 => (KK3 ?_))
 refine QN ?_
 refine vone rfl (vxg (vcnew rfl rfl rfl (n_rows f)) rfl rfl ?_)
 rintro _ _ ⟨b2, rfl, rfl⟩
 refine vnil (vblock ?_)
 refine vrange (enc := (fun w => [vW w])) (xs := (rows f)) (caps := [ptr b2]) (Hi := [bR b2 f]) (Hc := ((b1, blk [.func yf ya yc] 229) :: (bp, blk [I p.x, I p.y] 44) :: (bf, blk (clR f) 275) :: Hc0)) (ps := [11]) (fun pre H1 => ∃ Hc, H1 = (b1, blk [.func yf ya yc] 229) :: (bp, blk [I p.x, I p.y] 44) :: (bf, blk (clR f) 275) :: Hc ∧ J (pre.map (sqI p)) Hc) (fun c H1 => c = .ret ∧ ∃ Hc, H1 = (b1, blk [.func yf ya yc] 229) :: (bp, blk [I p.x, I p.y] 44) :: (bf, blk (clR f) 275) :: Hc ∧ Jx Hc) rfl (it_rows f hs b2) (List.Perm.refl _) ⟨_, rfl, hJ0⟩ (fun _ => rfl) rfl ?_ ?_ ?_
 ·
  intro lp rec pre x post H1 hrs hxs hI
  obtain ⟨Hc, rfl, hJ⟩ := hI
  have hbd := sqI_bd hf hp (w := x) (by rw [hxs]; simp)
  refine vregion (AL fun b3 => ?_)
  refine SN (vnil ?_)
  refine vbegin hrs ?_
  refine vblock (KK2 (QF ?_))
  refine QL ?_
  refine QF ?_
  refine QL ?_
  refine QQ (vsub rfl rfl (by simp only [nearY] at hbd; unfold InR; omega)) rfl ?_
  refine QA (vnil (vseq ?_))
  refine DR [(.q, 0), (.q, 1), (.q, 2), (.q, 3), (.q, 4), (.q, 5), (.q, 6), (.q, 7), (.q, 8), (.q, 9), (.q, 10), (.q, 11), (.q, 12), (.q, 13), (.q, 14), (.q, 15), (.q, 16), (.q, 17), (.q, 18), (.q, 19), (.q, 20), (.q, 21), (.q, 22), (.q, 23)] Tryz.mixed ?_
  refine DF ?_
  refine DL ?_
  refine DF ?_
  refine DL ?_
  refine DF ?_
  refine DL ?_
  refine DD (vmin2 rfl rfl) rfl ?_
  refine DD (vmax2 rfl rfl) rfl ?_
  refine DF ?_
  refine DL ?_
  refine DD (vsub rfl rfl (by simp only [nearY] at hbd; unfold InR; omega)) rfl ?_
  refine DF ?_
  refine DL ?_
  refine DF ?_
  refine DL ?_
  refine DD (vsub rfl rfl (by simp only [nearY] at hbd; unfold InR; omega)) rfl ?_
  refine DF ?_
  refine DL ?_
  refine DF ?_
  refine DL ?_
  refine DD (vsub rfl rfl (by simp only [nearY] at hbd; unfold InR; omega)) rfl ?_
  refine DA ?_
  refine DA ?_
  refine DA (vdend rfl (KK2 ?_))
  refine QL ?_
  refine QM ?_
  refine QM ?_
  refine QQ (vmul rfl rfl (by simp only [nearY] at hbd; unfold InR; omega)) rfl ?_
  refine QM ?_
  refine QM ?_
  refine QQ (vmul rfl rfl (by simp only [nearY] at hbd; unfold InR; omega)) rfl ?_
  refine QQ (vadd rfl rfl (by simp only [nearY] at hbd; unfold InR; omega)) rfl ?_
  refine QM ?_
  refine QM ?_
  refine QQ (vmul rfl rfl (by simp only [nearY] at hbd; unfold InR; omega)) rfl ?_
  refine QM ?_
  refine QM ?_
  refine QQ (vmul rfl rfl (by simp only [nearY] at hbd; unfold InR; omega)) rfl ?_
  refine QM ?_
  refine QM ?_
  refine QQ (vmul rfl rfl (by simp only [nearY] at hbd; unfold InR; omega)) rfl ?_
  refine QQ (vmax2 rfl rfl) rfl ?_
  refine QQ (vadd rfl rfl (by simp only [nearY] at hbd; unfold InR; omega)) rfl ?_
  refine QB ?_
  refine vone rfl (vxg (vcy rfl rfl (VY.b5 (hy _ (sqI p x) _ (map_split hxs) _ hJ))) rfl rfl ?_)
  rintro _ _ ⟨bb, rfl, Hc, rfl, hJ⟩
  rcases bb with _ | _
  ·
   refine QQ (vnot rfl) rfl (vnil ?_)
   refine vcondt rfl ?_
   refine vroundI_ret (H' := (b1, blk [.func yf ya yc] 229) :: (bp, _) :: (bf, _) :: Hc) sb ?_
   exact ⟨rfl, _, rfl, hJ⟩
  ·
   refine QQ (vnot rfl) rfl (vnil ?_)
   refine vcondf rfl (vskip (vinblock ?_))
   refine vroundI_end (H' := (b1, blk [.func yf ya yc] 229) :: (bp, _) :: (bf, _) :: Hc) sb ?_
   exact ⟨_, rfl, by rw [map_snoc]; exact hJ⟩
 ·
  intro r1 H1 hI
  obtain ⟨Hc, rfl, hJ⟩ := hI
  change VRun _ _ _ _ _ _ _ ((r1, Obj.deferred (some [])) :: bR b2 f :: (b1, blk [.func yf ya yc] 229) :: (bp, blk [I p.x, I p.y] 44) :: (bf, blk (clR f) 275) :: Hc) _
  refine vinblock ?_
  refine vend (vret_mark (vr0 (H' := (bp, blk [I p.x, I p.y] 44) :: (bf, blk (clR f) 275) :: Hc) Tryz.func212 rfl  sb ?_))
  exact ⟨rfl, Hc, rfl, .inl hJ⟩
 ·
  intro r1 c H1 hI
  obtain ⟨rfl, Hc, rfl, hJ⟩ := hI
  change VRun _ _ _ _ _ _ _ ((r1, Obj.deferred (some [])) :: bR b2 f :: (b1, blk [.func yf ya yc] 229) :: (bp, blk [I p.x, I p.y] 44) :: (bf, blk (clR f) 275) :: Hc) _
  refine vret (vret_mark (vr0 (H' := (bp, blk [I p.x, I p.y] 44) :: (bf, blk (clR f) 275) :: Hc) Tryz.func212 rfl  sb ?_))
  exact ⟨rfl, Hc, rfl, .inr hJ⟩
theorem c_lessB (a b : Bd) : VPure Tryz.prog 215 [vB a, vB b] (.bool (lessB a b)) := by
 intro H
 refine CV 10 Tryz.func215 ?_
 refine KK2 (BX fun b1 => ?_)
 refine BX fun b2 => ?_
 refine QA (KK3 ?_)
 refine QF ?_
 refine QL ?_
 refine QF ?_
 refine QL ?_
 refine QS ?_
 refine QA (vnil ?_)
 refine vret (V1 (H) Tryz.func215 ?_)
 exact ⟨rfl, rfl⟩
theorem c_moreB (a b : Bd) : VPure Tryz.prog 216 [vB a, vB b] (.bool (moreB a b)) := by
 intro H
 refine CV 10 Tryz.func216 ?_
 refine KK2 (BX fun b1 => ?_)
 refine BX fun b2 => ?_
 refine QA (KK3 ?_)
 refine QF ?_
 refine QL ?_
 refine QF ?_
 refine QL ?_
 refine QQ (vgtr rfl rfl) rfl ?_
 refine QA (vnil ?_)
 refine vret (V1 (H) Tryz.func216 ?_)
 exact ⟨rfl, rfl⟩
theorem c_squares (f : Rg) (p : Pt) (hf : f.sm 524288) (hp : p.sm 524288) : VPure Tryz.prog 178 [vR f, vP p] (tup [vB ((sqP f p).getD zB), .bool (sqP f p).isSome]) := by
 intro H
 refine CV 28 Tryz.func178 ?_
 refine KK2 (BX fun b1 => ?_)
 refine BX fun b2 => ?_
 refine AL fun b3 => ?_
 refine QA (KK3 ?_)
 refine QQ (vmf rfl) rfl ?_
 refine QA (KK3 ?_)
 refine QM ?_
 refine QQ (vcq rfl rfl rfl ((h_pickBd lessB (it_sq f p hf hp b1 b2) c_lessB).keepSub sb)) rfl ?_
 refine QM ?_
 refine QX ?_
 refine QX ?_
 refine AL fun b4 => ?_
 refine SN ?_
 refine QA (KK3 ?_)
 refine QM ?_
 refine QQ (vcq rfl rfl rfl ((h_pickBd moreB (it_sq f p hf hp b1 b2) c_moreB).keepSub sb)) rfl ?_
 refine QM ?_
 refine QX ?_
 refine QX ?_
 refine AL fun b5 => ?_
 refine SN ?_
 refine QA (KK3 ?_)
 refine QF ?_
 refine QL ?_
 refine QF ?_
 refine QL ?_
 refine QB ?_
 refine QM ?_
 refine SN ?_
 refine QA (vnil ?_)
 refine vret (vr2 (H' := H) Tryz.func178 rfl (.celln rfl rfl) (.tmp rfl) sb ?_)
 exact ⟨oT (by unfold sqP; rw [← sq_pick_some, sq_pick_lo, sq_pick_hi]), rfl⟩
end Go.Proofs.YtoebpndlbldfcaaGreatDoor
