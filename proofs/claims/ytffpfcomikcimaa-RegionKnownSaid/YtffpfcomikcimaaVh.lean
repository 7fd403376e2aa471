/-
  The walk of RegionKnown.
-/
import Derived.Test.YtffpfcomikcimaaVg
import Derived.Test.YtffpfcomikcimaaKno
namespace Go.Proofs.Ytffpfcomikcimaa
open Go
set_option maxRecDepth 100000
theorem k1 : tightE ⟨⟨0, 9⟩, ⟨0, 9⟩, ⟨3, 3⟩, ⟨0, 0⟩⟩ = (zR, 4) := by decide
theorem k2 : ofE [] = (zR, 4) := by decide
theorem k3 : ofE [⟨32769, 0⟩] = (zR, 10) := by decide
theorem k4 : ofE (List.replicate 257 zP) = (zR, 3) := by decide
theorem k6 : moveE sqR ⟨65537, 0⟩ = (zR, 7) := by decide
theorem k7 : moveE sqR ⟨32768, 0⟩ = (zR, 7) := by decide
theorem k8 : reachE sqR 32769 = (zR, 7) := by decide
theorem k12 : extE sqR ⟨0, 1001⟩ = (zK, 7) := by decide
theorem k13 : extE sqR ⟨0, -1⟩ = (⟨-4, 0, ⟨0, 4⟩, ⟨0, 0⟩⟩, 0) := by decide
theorem k14 : clashE (List.replicate 13 zR) = ([], 3) := by decide
theorem k15 : clashE [] = ([], 4) := by decide
theorem k16 : hasE sqR ⟨0, -32769⟩ = (false, 10) := by decide
theorem k17 : clashE [⟨⟨0, 1⟩, ⟨0, 1⟩, ⟨1, 2⟩, ⟨-1, 1⟩⟩, ⟨⟨0, 1⟩, ⟨0, 1⟩, ⟨0, 1⟩, ⟨-1, 1⟩⟩, ⟨⟨0, 1⟩, ⟨0, 1⟩, ⟨0, 2⟩, ⟨0, 1⟩⟩, ⟨⟨0, 1⟩, ⟨0, 1⟩, ⟨0, 2⟩, ⟨-1, 0⟩⟩] = ([0, 1, 2, 3], 0) := by decide
theorem kf0 : chkF [] = 12 := by decide
theorem kf1 : chkF [⟨0, 0⟩, ⟨1, 0⟩] = 12 := by decide
theorem kf2 : chkF [⟨0, 0⟩, ⟨0, 9⟩, ⟨9, 0⟩] = 12 := by decide
theorem kf3 : chkF [⟨0, 0⟩, ⟨2, 0⟩, ⟨4, 0⟩, ⟨0, 4⟩] = 12 := by decide
theorem kf4 : chkF [⟨0, 0⟩, ⟨9, 0⟩, ⟨1, 1⟩, ⟨0, 9⟩] = 12 := by decide
theorem kf5 : chkF [⟨0, 0⟩, ⟨40000, 0⟩, ⟨0, 9⟩] = 12 := by decide
instance tMk26 : TMk Try.prog 26 36 2 16 [I 0, I 0] := mkTMk (z := .agg #[.int .i64 0, .int .i64 0]) (by kernel_rfl) (by kernel_rfl) rfl
instance tMk50 : TMk Try.prog 50 25 8 64 [I 0, I 0, I 0, I 0, I 0, I 0, I 0, I 0] := mkTMk (z := .agg #[.int .i64 0, .int .i64 0, .int .i64 0, .int .i64 0, .int .i64 0, .int .i64 0, .int .i64 0, .int .i64 0]) (by kernel_rfl) (by kernel_rfl) rfl
def fourC : Nat → List Value
  | 0 => [I 0, I 4, I 0, I 4, I 0, I 8, I (-4), I 4, I 0, I 4, I 0, I 4, I 0, I 8, I (-4), I 4, I 0, I 4, I 0, I 4, I 0, I 8, I (-4), I 4, I 0, I 4, I 0, I 4, I 0, I 8, I (-4), I 4]
  | 1 => [I 0, I 1, I 0, I 1, I 0, I 2, I (-1), I 1, I 0, I 4, I 0, I 4, I 0, I 8, I (-4), I 4, I 0, I 4, I 0, I 4, I 0, I 8, I (-4), I 4, I 0, I 4, I 0, I 4, I 0, I 8, I (-4), I 4]
  | 2 => [I 0, I 1, I 0, I 1, I 0, I 2, I (-1), I 1, I 0, I 1, I 0, I 1, I 0, I 2, I (-1), I 1, I 0, I 4, I 0, I 4, I 0, I 8, I (-4), I 4, I 0, I 4, I 0, I 4, I 0, I 8, I (-4), I 4]
  | 3 => [I 0, I 1, I 0, I 1, I 0, I 2, I (-1), I 1, I 0, I 1, I 0, I 1, I 0, I 2, I (-1), I 1, I 0, I 1, I 0, I 1, I 0, I 2, I (-1), I 1, I 0, I 4, I 0, I 4, I 0, I 8, I (-4), I 4]
  | _ => [I 0, I 1, I 0, I 1, I 0, I 2, I (-1), I 1, I 0, I 1, I 0, I 1, I 0, I 2, I (-1), I 1, I 0, I 1, I 0, I 1, I 0, I 2, I (-1), I 1, I 0, I 1, I 0, I 1, I 0, I 2, I (-1), I 1]
theorem fourC4 : fourC 4 = [I 0, I 1, I 0, I 1, I 0, I 2, I (-1), I 1, I 0, I 1, I 0, I 1, I 0, I 2, I (-1), I 1, I 0, I 1, I 0, I 1, I 0, I 2, I (-1), I 1, I 0, I 1, I 0, I 1, I 0, I 2, I (-1), I 1] := rfl
theorem four_put {i : Nat} (h : i < 4) : put (fourC i) (0 + ((i : Nat) : Int).toNat * 8) [I 0, I 1, I 0, I 1, I 0, I 2, I (-1), I 1] = some (fourC (i + 1)) := by
  obtain rfl | rfl | rfl | rfl : i = 0 ∨ i = 1 ∨ i = 2 ∨ i = 3 := by omega
  all_goals rfl
theorem wrongs (b16 b17 b18 b19 b20 b21 : Nat) {i : Nat} (h : i < 6) : ∃ oa n c f, nth [nilS, sli (some ⟨b16, 0, Option.none⟩) 2 2, sli (some ⟨b17, 0, Option.none⟩) 3 3, sli (some ⟨b18, 0, Option.none⟩) 4 4, sli (some ⟨b19, 0, Option.none⟩) 4 4, sli (some ⟨b20, 0, Option.none⟩) 3 3] (0 + ((i : Nat) : Int).toNat * 1) = some (sli oa n c) ∧ (∀ H0 : Heap, SlO ((b21, blk [nilS, sli (some ⟨b16, 0, Option.none⟩) 2 2, sli (some ⟨b17, 0, Option.none⟩) 3 3, sli (some ⟨b18, 0, Option.none⟩) 4 4, sli (some ⟨b19, 0, Option.none⟩) 4 4, sli (some ⟨b20, 0, Option.none⟩) 3 3] 26) :: (b20, blk [I 0, I 0, I 40000, I 0, I 0, I 9] 36) :: (b19, blk [I 0, I 0, I 9, I 0, I 1, I 1, I 0, I 9] 36) :: (b18, blk [I 0, I 0, I 2, I 0, I 4, I 0, I 0, I 4] 36) :: (b17, blk [I 0, I 0, I 0, I 9, I 9, I 0] 36) :: (b16, blk [I 0, I 0, I 1, I 0] 36) :: H0) oa 2 encP f) ∧ f.length = n ∧ n ≤ 9223372036854775807 ∧ chkF f = 12 := by
  obtain rfl | rfl | rfl | rfl | rfl | rfl : i = 0 ∨ i = 1 ∨ i = 2 ∨ i = 3 ∨ i = 4 ∨ i = 5 := by omega
  · exact ⟨Option.none, 0, 0, [], rfl, fun _ => SlO.nil, rfl, by omega, kf0⟩
  · exact ⟨some ⟨b16, 0, Option.none⟩, 2, 2, [⟨0, 0⟩, ⟨1, 0⟩], rfl, fun _ => SlO.flat (fun _ => rfl) rfl, rfl, by omega, kf1⟩
  · exact ⟨some ⟨b17, 0, Option.none⟩, 3, 3, [⟨0, 0⟩, ⟨0, 9⟩, ⟨9, 0⟩], rfl, fun _ => SlO.flat (fun _ => rfl) rfl, rfl, by omega, kf2⟩
  · exact ⟨some ⟨b18, 0, Option.none⟩, 4, 4, [⟨0, 0⟩, ⟨2, 0⟩, ⟨4, 0⟩, ⟨0, 4⟩], rfl, fun _ => SlO.flat (fun _ => rfl) rfl, rfl, by omega, kf3⟩
  · exact ⟨some ⟨b19, 0, Option.none⟩, 4, 4, [⟨0, 0⟩, ⟨9, 0⟩, ⟨1, 1⟩, ⟨0, 9⟩], rfl, fun _ => SlO.flat (fun _ => rfl) rfl, rfl, by omega, kf4⟩
  · exact ⟨some ⟨b20, 0, Option.none⟩, 3, 3, [⟨0, 0⟩, ⟨40000, 0⟩, ⟨0, 9⟩], rfl, fun _ => SlO.flat (fun _ => rfl) rfl, rfl, by omega, kf5⟩

section
variable {P : Program} {k : FuncId} {xs : List Value}
theorem VHas.reR {A B : Heap} {X : RE} {a : Rg} {b : Int} (h : VHas P k xs (tup [vR X.1, I X.2]) A B) (e : X = (a, b)) : VHas P k xs (tup [vR a, I b]) A B := by rw [e] at h; exact h
theorem VHas.reN {A B : Heap} {X a : Int} (h : VHas P k xs (I X) A B) (e : X = a) : VHas P k xs (I a) A B := by rw [e] at h; exact h
theorem VPure.reL {X a : Bool} (h : VPure P k xs (.bool X)) (e : X = a) : VPure P k xs (.bool a) := by rw [e] at h; exact h
end

attribute [local irreducible] tightP hullP rootP farP rows endsOf sqL sqP twoE pickL srch cutsOf clashE ofE tightE meetE sumE sweptE reachE cntE extE distE moveE gapE coversE hitE joinE minusE hasE restP rootE inE
/-- paravane/paravanelaw01.RegionKnown -/
theorem l_RegionKnown (H : Heap) : VHas Try.prog 19 [] (.bool true) H H := by
  obtain ⟨w, hw, hw1, hw2⟩ := reach_sq
  refine vcall_of_vrun Try.func19 rfl (N := 351) rfl rfl ?_
  refine vseq ?_
  refine vregion ?_
  refine vone rfl (vxq (vas rfl) rfl rfl ?_)
  refine vnil ?_
  refine vseq ?_
  refine vregion ?_
  refine vone rfl (vxq (vcp rfl rfl rfl (c_law01_bound _ _)) rfl rfl ?_)
  refine vone rfl (vxq (vcp rfl rfl rfl (c_law01_bound _ _)) rfl rfl ?_)
  refine vone rfl (vxq (vcp rfl rfl rfl (c_law01_bound _ _)) rfl rfl ?_)
  refine vone rfl (vxq (vbd rfl rfl) rfl rfl ?_)
  refine vone rfl (vxq (vcp rfl rfl rfl ((c_Tight ⟨⟨0, 9⟩, ⟨0, 9⟩, ⟨3, 3⟩, ⟨0, 0⟩⟩).reR k1)) rfl rfl ?_)
  refine vone rfl (vxq (vmv rfl) rfl rfl ?_)
  refine vone rfl (vxq (vex rfl rfl) rfl rfl ?_)
  refine vone rfl (vxq (vex rfl rfl) rfl rfl ?_)
  refine vone rfl (vxa valloc rfl rfl (fun b1 => ?_))
  refine vone rfl (vxs (vstn rfl rfl rfl rfl rfl) rfl ?_)
  refine vone rfl (vxq (vas rfl) rfl rfl ?_)
  refine vnil ?_
  refine vseq ?_
  refine vregion ?_
  refine vone rfl (vxq (vcq rfl rfl rfl ((@q_Of [] Option.none 0 0 rfl (by omega) _ SlO.nil).reR k2)) rfl rfl ?_)
  refine vone rfl (vxq (vmv rfl) rfl rfl ?_)
  refine vone rfl (vxq (vex rfl rfl) rfl rfl ?_)
  refine vone rfl (vxq (vex rfl rfl) rfl rfl ?_)
  refine vone rfl (vxa valloc rfl rfl (fun b2 => ?_))
  refine vone rfl (vxs (vstn rfl rfl rfl rfl rfl) rfl ?_)
  refine vone rfl (vxq (vas rfl) rfl rfl ?_)
  refine vnil ?_
  refine vseq ?_
  refine vregion ?_
  refine vone rfl (vxq (vbd rfl rfl) rfl rfl ?_)
  refine vone rfl (vxg (vbs rfl rfl rfl rfl rfl rfl) rfl rfl ?_)
  rintro _ _ ⟨b3, rfl, rfl⟩
  refine vone rfl (vxq (vcq rfl rfl rfl ((@q_Of [⟨32769, 0⟩] (some ⟨b3, 0, Option.none⟩) 1 1 rfl (by omega) _ (SlO.flat (fun _ => rfl) rfl)).reR k3)) rfl rfl ?_)
  refine vone rfl (vxq (vmv rfl) rfl rfl ?_)
  refine vone rfl (vxq (vex rfl rfl) rfl rfl ?_)
  refine vone rfl (vxq (vex rfl rfl) rfl rfl ?_)
  refine vone rfl (vxa valloc rfl rfl (fun b4 => ?_))
  refine vone rfl (vxs (vstn rfl rfl rfl rfl rfl) rfl ?_)
  refine vone rfl (vxq (vas rfl) rfl rfl ?_)
  refine vnil ?_
  refine vseq ?_
  refine vregion ?_
  refine vone rfl (vxg (vmks (n := 257) rfl rfl rfl rfl) rfl rfl ?_)
  rintro _ _ ⟨b5, rfl, rfl⟩
  refine vone rfl (vxq (vcq rfl rfl rfl ((@q_Of (List.replicate 257 zP) (some ⟨b5, 0, Option.none⟩) 257 257 (by rw [List.length_replicate]) (by omega) _ (SlO.flat (fun _ => rfl) (rep_flat encP zP 257).symm)).reR k4)) rfl rfl ?_)
  refine vone rfl (vxq (vmv rfl) rfl rfl ?_)
  refine vone rfl (vxq (vex rfl rfl) rfl rfl ?_)
  refine vone rfl (vxq (vex rfl rfl) rfl rfl ?_)
  refine vone rfl (vxa valloc rfl rfl (fun b6 => ?_))
  refine vone rfl (vxs (vstn rfl rfl rfl rfl rfl) rfl ?_)
  refine vone rfl (vxq (vas rfl) rfl rfl ?_)
  refine vnil ?_
  refine vseq ?_
  refine vregion ?_
  refine vone rfl (vxq (vcp rfl rfl rfl (c_All)) rfl rfl ?_)
  refine vone rfl (vxq (vcp rfl rfl rfl (c_sqr)) rfl rfl ?_)
  refine vone rfl (vxq (vcp rfl rfl rfl ((c_Sum allR sqR).reR sumE_all)) rfl rfl ?_)
  refine vone rfl (vxq (vmv rfl) rfl rfl ?_)
  refine vone rfl (vxq (vex rfl rfl) rfl rfl ?_)
  refine vone rfl (vxq (vex rfl rfl) rfl rfl ?_)
  refine vone rfl (vxa valloc rfl rfl (fun b7 => ?_))
  refine vone rfl (vxs (vstn rfl rfl rfl rfl rfl) rfl ?_)
  refine vone rfl (vxq (vas rfl) rfl rfl ?_)
  refine vnil ?_
  refine vseq ?_
  refine vregion ?_
  refine vone rfl (vxq (vcp rfl rfl rfl (c_sqr)) rfl rfl ?_)
  refine vone rfl (vxq (vbd rfl rfl) rfl rfl ?_)
  refine vone rfl (vxq (vcp rfl rfl rfl ((c_Move sqR ⟨65537, 0⟩).reR k6)) rfl rfl ?_)
  refine vone rfl (vxq (vmv rfl) rfl rfl ?_)
  refine vone rfl (vxq (vex rfl rfl) rfl rfl ?_)
  refine vone rfl (vxq (vex rfl rfl) rfl rfl ?_)
  refine vone rfl (vxa valloc rfl rfl (fun b8 => ?_))
  refine vone rfl (vxs (vstn rfl rfl rfl rfl rfl) rfl ?_)
  refine vone rfl (vxq (vas rfl) rfl rfl ?_)
  refine vnil ?_
  refine vseq ?_
  refine vregion ?_
  refine vone rfl (vxq (vcp rfl rfl rfl (c_sqr)) rfl rfl ?_)
  refine vone rfl (vxq (vbd rfl rfl) rfl rfl ?_)
  refine vone rfl (vxq (vcp rfl rfl rfl ((c_Move sqR ⟨32768, 0⟩).reR k7)) rfl rfl ?_)
  refine vone rfl (vxq (vmv rfl) rfl rfl ?_)
  refine vone rfl (vxq (vex rfl rfl) rfl rfl ?_)
  refine vone rfl (vxq (vex rfl rfl) rfl rfl ?_)
  refine vone rfl (vxa valloc rfl rfl (fun b9 => ?_))
  refine vone rfl (vxs (vstn rfl rfl rfl rfl rfl) rfl ?_)
  refine vone rfl (vxq (vas rfl) rfl rfl ?_)
  refine vnil ?_
  refine vseq ?_
  refine vregion ?_
  refine vone rfl (vxq (vcp rfl rfl rfl (c_sqr)) rfl rfl ?_)
  refine vone rfl (vxq (vcp rfl rfl rfl ((c_Reach sqR 32769).reR k8)) rfl rfl ?_)
  refine vone rfl (vxq (vmv rfl) rfl rfl ?_)
  refine vone rfl (vxq (vex rfl rfl) rfl rfl ?_)
  refine vone rfl (vxq (vex rfl rfl) rfl rfl ?_)
  refine vone rfl (vxa valloc rfl rfl (fun b10 => ?_))
  refine vone rfl (vxs (vstn rfl rfl rfl rfl rfl) rfl ?_)
  refine vone rfl (vxq (vas rfl) rfl rfl ?_)
  refine vnil ?_
  refine vseq ?_
  refine vseq ?_
  refine vregion ?_
  refine vone rfl (vxq (vmv rfl) rfl rfl ?_)
  refine vone rfl (vxq (vneq rfl rfl) rfl rfl ?_)
  refine vknow (d := 75) (b' := false) rfl (by decide) ?_
  refine vone rfl (vxq (vmv rfl) rfl rfl ?_)
  refine vyes rfl rfl rfl (vxq (vmv rfl) rfl rfl ?_)
  refine vyes rfl rfl rfl (vxq (vneq rfl rfl) rfl rfl ?_)
  refine vknow (d := 78) (b' := false) rfl (by decide) ?_
  refine vone rfl (vxq (vpkf rfl rfl) rfl rfl ?_)
  refine vone rfl (vxq (vmv rfl) rfl rfl ?_)
  refine vyes rfl rfl rfl (vxq (vmv rfl) rfl rfl ?_)
  refine vyes rfl rfl rfl (vxq (vneq rfl rfl) rfl rfl ?_)
  refine vknow (d := 82) (b' := false) rfl (by decide) ?_
  refine vone rfl (vxq (vpkf rfl rfl) rfl rfl ?_)
  refine vone rfl (vxq (vmv rfl) rfl rfl ?_)
  refine vyes rfl rfl rfl (vxq (vmv rfl) rfl rfl ?_)
  refine vyes rfl rfl rfl (vxq (vneq rfl rfl) rfl rfl ?_)
  refine vknow (d := 86) (b' := false) rfl (by decide) ?_
  refine vone rfl (vxq (vpkf rfl rfl) rfl rfl ?_)
  refine vone rfl (vxq (vmv rfl) rfl rfl ?_)
  refine vyes rfl rfl rfl (vxq (vmv rfl) rfl rfl ?_)
  refine vyes rfl rfl rfl (vxq (vneq rfl rfl) rfl rfl ?_)
  refine vknow (d := 90) (b' := false) rfl (by decide) ?_
  refine vone rfl (vxq (vpkf rfl rfl) rfl rfl ?_)
  refine vone rfl (vxq (vmv rfl) rfl rfl ?_)
  refine vyes rfl rfl rfl (vxq (vmv rfl) rfl rfl ?_)
  refine vyes rfl rfl rfl (vxq (vneq rfl rfl) rfl rfl ?_)
  refine vknow (d := 94) (b' := false) rfl (by decide) ?_
  refine vone rfl (vxq (vpkf rfl rfl) rfl rfl ?_)
  refine vone rfl (vxq (vmv rfl) rfl rfl ?_)
  refine vyes rfl rfl rfl (vxq (vmv rfl) rfl rfl ?_)
  refine vyes rfl rfl rfl (vxq (vneq rfl rfl) rfl rfl ?_)
  refine vknow (d := 98) (b' := false) rfl (by decide) ?_
  refine vone rfl (vxq (vpkf rfl rfl) rfl rfl ?_)
  refine vone rfl (vxq (vmv rfl) rfl rfl ?_)
  refine vyes rfl rfl rfl (vxq (vmv rfl) rfl rfl ?_)
  refine vyes rfl rfl rfl (vxq (vneq rfl rfl) rfl rfl ?_)
  refine vknow (d := 102) (b' := false) rfl (by decide) ?_
  refine vone rfl (vxq (vpkf rfl rfl) rfl rfl ?_)
  refine vnil ?_
  refine vcondf rfl ?_
  refine vskip ?_
  refine vseq ?_
  refine vregion ?_
  refine vone rfl (vxq (vcp rfl rfl rfl (c_All)) rfl rfl ?_)
  refine vone rfl (vxq (vcp rfl rfl rfl ((c_Count allR).reI cntE_all)) rfl rfl ?_)
  refine vone rfl (vxq (vmv rfl) rfl rfl ?_)
  refine vone rfl (vxq (vex rfl rfl) rfl rfl ?_)
  refine vone rfl (vxq (vex rfl rfl) rfl rfl ?_)
  refine vone rfl (vxq (vas rfl) rfl rfl ?_)
  refine vone rfl (vxq (vas rfl) rfl rfl ?_)
  refine vnil ?_
  refine vseq ?_
  refine vregion ?_
  refine vone rfl (vxq (vcp rfl rfl rfl (c_sqr)) rfl rfl ?_)
  refine vone rfl (vxq (vcp rfl rfl rfl ((c_Reach sqR 32768).reR hw)) rfl rfl ?_)
  refine vone rfl (vxq (vmv rfl) rfl rfl ?_)
  refine vone rfl (vxq (vex rfl rfl) rfl rfl ?_)
  refine vone rfl (vxq (vex rfl rfl) rfl rfl ?_)
  refine vone rfl (vxa valloc rfl rfl (fun b11 => ?_))
  refine vone rfl (vxs (vstn rfl rfl rfl rfl rfl) rfl ?_)
  refine vone rfl (vxq (vas rfl) rfl rfl ?_)
  refine vnil ?_
  refine vseq ?_
  refine vregion ?_
  refine vone rfl (vxq (vcp rfl rfl rfl (c_All)) rfl rfl ?_)
  refine vone rfl (vxq (vcp rfl rfl rfl ((c_Tight allR).reR tightE_all)) rfl rfl ?_)
  refine vone rfl (vxq (vmv rfl) rfl rfl ?_)
  refine vone rfl (vxq (vex rfl rfl) rfl rfl ?_)
  refine vone rfl (vxq (vex rfl rfl) rfl rfl ?_)
  refine vone rfl (vxa valloc rfl rfl (fun b12 => ?_))
  refine vone rfl (vxs (vstn rfl rfl rfl rfl rfl) rfl ?_)
  refine vone rfl (vxq (vas rfl) rfl rfl ?_)
  refine vnil ?_
  refine vseq ?_
  refine vregion ?_
  refine vone rfl (vxq (vcp rfl rfl rfl (c_sqr)) rfl rfl ?_)
  refine vone rfl (vxq (vbd rfl rfl) rfl rfl ?_)
  refine vone rfl (vxq (vcp rfl rfl rfl ((c_Extreme sqR ⟨0, 1001⟩).reK k12)) rfl rfl ?_)
  refine vone rfl (vxq (vmv rfl) rfl rfl ?_)
  refine vone rfl (vxq (vex rfl rfl) rfl rfl ?_)
  refine vone rfl (vxq (vex rfl rfl) rfl rfl ?_)
  refine vone rfl (vxq (vas rfl) rfl rfl ?_)
  refine vnil ?_
  refine vseq ?_
  refine vregion ?_
  refine vone rfl (vxq (vcp rfl rfl rfl (c_sqr)) rfl rfl ?_)
  refine vone rfl (vxq (vbd rfl rfl) rfl rfl ?_)
  refine vone rfl (vxq (vcp rfl rfl rfl ((c_Extreme sqR ⟨0, -1⟩).reK k13)) rfl rfl ?_)
  refine vone rfl (vxq (vmv rfl) rfl rfl ?_)
  refine vone rfl (vxq (vex rfl rfl) rfl rfl ?_)
  refine vone rfl (vxq (vex rfl rfl) rfl rfl ?_)
  refine vone rfl (vxa valloc rfl rfl (fun b13 => ?_))
  refine vone rfl (vxs (vstn rfl rfl rfl rfl rfl) rfl ?_)
  refine vone rfl (vxq (vas rfl) rfl rfl ?_)
  refine vnil ?_
  refine vseq ?_
  refine vregion ?_
  refine vone rfl (vxg (vmks (n := 13) rfl rfl rfl rfl) rfl rfl ?_)
  rintro _ _ ⟨b14, rfl, rfl⟩
  refine vone rfl (vxg (vcg rfl rfl rfl (@g_Clash (List.replicate 13 zR) (some ⟨b14, 0, Option.none⟩) 13 13 (by rw [List.length_replicate]) (by omega) _ (SlO.flat (fun _ => rfl) (rep_flat encR zR 13).symm)) (fun o H' h => h)) rfl rfl ?_)
  rintro t133 _ ⟨B13, rfl, hc13⟩
  rw [k14] at hc13
  obtain ⟨oa13, m13, c13, rfl, hm13, hS13⟩ := hc13
  refine vone rfl (vxq (vmv rfl) rfl rfl ?_)
  refine vone rfl (vxq (vex rfl rfl) rfl rfl ?_)
  refine vone rfl (vxq (vex rfl rfl) rfl rfl ?_)
  refine vone rfl (vxq (vas rfl) rfl rfl ?_)
  refine vnil ?_
  refine vseq ?_
  refine vregion ?_
  refine vone rfl (vxg (vcg rfl rfl rfl (@g_Clash [] Option.none 0 0 rfl (by omega) _ SlO.nil) (fun o H' h => h)) rfl rfl ?_)
  rintro t137 _ ⟨B14, rfl, hc14⟩
  rw [k15] at hc14
  obtain ⟨oa14, m14, c14, rfl, hm14, hS14⟩ := hc14
  refine vone rfl (vxq (vmv rfl) rfl rfl ?_)
  refine vone rfl (vxq (vex rfl rfl) rfl rfl ?_)
  refine vone rfl (vxq (vex rfl rfl) rfl rfl ?_)
  refine vone rfl (vxq (vas rfl) rfl rfl ?_)
  refine vnil ?_
  refine vseq ?_
  refine vregion ?_
  refine vone rfl (vxq (vcp rfl rfl rfl (c_sqr)) rfl rfl ?_)
  refine vone rfl (vxq (vbd rfl rfl) rfl rfl ?_)
  refine vone rfl (vxq (vcp rfl rfl rfl ((c_Has sqR ⟨0, -32769⟩).reT k16)) rfl rfl ?_)
  refine vone rfl (vxq (vmv rfl) rfl rfl ?_)
  refine vone rfl (vxq (vex rfl rfl) rfl rfl ?_)
  refine vone rfl (vxq (vex rfl rfl) rfl rfl ?_)
  refine vone rfl (vxq (vas rfl) rfl rfl ?_)
  refine vnil ?_
  refine vseq ?_
  refine vseq ?_
  refine vdraw0 [(.q, 0), (.q, 1), (.q, 2), (.q, 3), (.q, 4), (.q, 5), (.q, 6), (.q, 7), (.q, 8), (.q, 9), (.q, 10), (.q, 11), (.q, 12), (.q, 13), (.q, 14), (.q, 15), (.q, 16), (.q, 17), (.q, 18), (.q, 19), (.q, 20), (.q, 21), (.q, 22), (.q, 23), (.q, 24), (.q, 25), (.q, 26), (.q, 27), (.q, 28), (.q, 29), (.q, 30), (.q, 31), (.q, 32), (.q, 33), (.q, 34), (.q, 35), (.q, 36), (.q, 37), (.q, 38), (.q, 39), (.q, 40), (.q, 41), (.q, 42), (.q, 43), (.q, 44), (.q, 45), (.q, 46), (.q, 47), (.q, 48), (.q, 49), (.q, 50), (.q, 51), (.q, 52), (.q, 53), (.q, 54), (.q, 55), (.q, 56), (.q, 57)] Try.mixed (by kernel_rfl) (by kernel_rfl) ?_
  refine vdq (mone rfl) (vmv rfl) rfl rfl ?_
  refine vdq (mone rfl) (vneq rfl rfl) rfl rfl ?_
  refine vdknow (d := 147) (b' := false) rfl (by decide) ?_
  refine vdq (mone rfl) (vmv rfl) rfl rfl ?_
  refine vdq (myes rfl rfl rfl) (vmv rfl) rfl rfl ?_
  refine vdq (myes rfl rfl rfl) (vneq rfl rfl) rfl rfl ?_
  refine vdknow (d := 150) (b' := false) rfl (by decide) ?_
  refine vdq (mone rfl) (vpkf rfl rfl) rfl rfl ?_
  refine vdq (mone rfl) (vmv rfl) rfl rfl ?_
  refine vdq (myes rfl rfl rfl) (vmv rfl) rfl rfl ?_
  refine vdq (myes rfl rfl rfl) (vneq rfl rfl) rfl rfl ?_
  refine vdknow (d := 154) (b' := false) rfl (by decide) ?_
  refine vdq (mone rfl) (vpkf rfl rfl) rfl rfl ?_
  refine vdq (mone rfl) (vmv rfl) rfl rfl ?_
  refine vdq (myes rfl rfl rfl) (vmv rfl) rfl rfl ?_
  refine vdq (myes rfl rfl rfl) (vneq rfl rfl) rfl rfl ?_
  refine vdknow (d := 158) (b' := false) rfl (by decide) ?_
  refine vdq (mone rfl) (vpkf rfl rfl) rfl rfl ?_
  refine vdq (mone rfl) (vmv rfl) rfl rfl ?_
  refine vdq (myes rfl rfl rfl) (vfa rfl) rfl rfl ?_
  refine vdq (myes rfl rfl rfl) (vfa rfl) rfl rfl ?_
  refine vdq (myes rfl rfl rfl) (vld1 rfl rfl) rfl rfl ?_
  refine vdq (myes rfl rfl rfl) (vneq rfl rfl) rfl rfl ?_
  refine vdknow (d := 164) (b' := false) rfl (decide_eq_false (fun h => h hw1)) ?_
  refine vdq (mone rfl) (vpkf rfl rfl) rfl rfl ?_
  refine vdq (mone rfl) (vmv rfl) rfl rfl ?_
  refine vdq (myes rfl rfl rfl) (vfa rfl) rfl rfl ?_
  refine vdq (myes rfl rfl rfl) (vfa rfl) rfl rfl ?_
  refine vdq (myes rfl rfl rfl) (vld1 rfl rfl) rfl rfl ?_
  refine vdq (myes rfl rfl rfl) (vneq rfl rfl) rfl rfl ?_
  refine vdknow (d := 170) (b' := false) rfl (decide_eq_false (fun h => h hw2)) ?_
  refine vdq (mone rfl) (vpkf rfl rfl) rfl rfl ?_
  refine vdq (mone rfl) (vmv rfl) rfl rfl ?_
  refine vdq (myes rfl rfl rfl) (vldn rfl rfl) rfl rfl ?_
  refine vdq (myes rfl rfl rfl) (vcp rfl rfl rfl (c_All)) rfl rfl ?_
  refine vdq (myes rfl rfl rfl) (vnes rfl rfl rfl rfl rfl rfl) rfl rfl ?_
  refine vdknow (d := 175) (b' := false) rfl (by decide) ?_
  refine vdq (mone rfl) (vpkf rfl rfl) rfl rfl ?_
  refine vdq (mone rfl) (vmv rfl) rfl rfl ?_
  refine vdq (myes rfl rfl rfl) (vmv rfl) rfl rfl ?_
  refine vdq (myes rfl rfl rfl) (vneq rfl rfl) rfl rfl ?_
  refine vdknow (d := 179) (b' := false) rfl (by decide) ?_
  refine vdq (mone rfl) (vpkf rfl rfl) rfl rfl ?_
  refine vdq (mone rfl) (vmv rfl) rfl rfl ?_
  refine vdq (myes rfl rfl rfl) (vmv rfl) rfl rfl ?_
  refine vdq (myes rfl rfl rfl) (vneq rfl rfl) rfl rfl ?_
  refine vdknow (d := 183) (b' := false) rfl (by decide) ?_
  refine vdq (mone rfl) (vpkf rfl rfl) rfl rfl ?_
  refine vdq (mone rfl) (vmv rfl) rfl rfl ?_
  refine vdq (myes rfl rfl rfl) (vldn rfl rfl) rfl rfl ?_
  refine vdq (myes rfl rfl rfl) (vbd rfl rfl) rfl rfl ?_
  refine vdq (myes rfl rfl rfl) (vbd rfl rfl) rfl rfl ?_
  refine vdq (myes rfl rfl rfl) (vbd rfl rfl) rfl rfl ?_
  refine vdq (myes rfl rfl rfl) (vnes rfl rfl rfl rfl rfl rfl) rfl rfl ?_
  refine vdknow (d := 190) (b' := false) rfl (by decide) ?_
  refine vdq (mone rfl) (vpkf rfl rfl) rfl rfl ?_
  refine vdq (mone rfl) (vmv rfl) rfl rfl ?_
  refine vdq (myes rfl rfl rfl) (vmv rfl) rfl rfl ?_
  refine vdq (myes rfl rfl rfl) (vneq rfl rfl) rfl rfl ?_
  refine vdknow (d := 194) (b' := false) rfl (by decide) ?_
  refine vdq (mone rfl) (vpkf rfl rfl) rfl rfl ?_
  refine vdq (mone rfl) (vmv rfl) rfl rfl ?_
  refine vdq (myes rfl rfl rfl) (vmv rfl) rfl rfl ?_
  refine vdq (myes rfl rfl rfl) (vneq rfl rfl) rfl rfl ?_
  refine vdknow (d := 198) (b' := false) rfl (by decide) ?_
  refine vdq (mone rfl) (vpkf rfl rfl) rfl rfl ?_
  refine vdq (mone rfl) (vmv rfl) rfl rfl ?_
  refine vdq (myes rfl rfl rfl) (vmv rfl) rfl rfl ?_
  refine vdq (myes rfl rfl rfl) (vneq rfl rfl) rfl rfl ?_
  refine vdknow (d := 202) (b' := false) rfl (by decide) ?_
  refine vdq (mone rfl) (vpkf rfl rfl) rfl rfl ?_
  refine vdend rfl ?_
  refine vcondf rfl ?_
  refine vskip ?_
  refine vseq ?_
  refine vregion ?_
  refine vone rfl (vxq (vcp rfl rfl rfl (c_sqr)) rfl rfl ?_)
  refine vone rfl (vxq (vcp rfl rfl rfl (c_sqr)) rfl rfl ?_)
  refine vone rfl (vxq (vcp rfl rfl rfl (c_sqr)) rfl rfl ?_)
  refine vone rfl (vxq (vcp rfl rfl rfl (c_sqr)) rfl rfl ?_)
  refine vone rfl (vxg (vbs rfl rfl rfl rfl rfl rfl) rfl rfl ?_)
  rintro _ _ ⟨b15, rfl, rfl⟩
  refine vone rfl (vxq (vas rfl) rfl rfl ?_)
  refine vnil ?_
  refine vseq ?_
  refine vseq ?_
  refine vregion ?_
  refine vone rfl (vxq (vas rfl) rfl rfl ?_)
  refine vnil ?_
  refine vblock ?_
  refine vwhile (σ := Nat) (fun i => 4 - i) (fun i => [(0, .bool false), (21, sli (some ⟨b15, 0, Option.none⟩) 4 4), (22, I (i : Int))]) (fun i => (b15, blk (fourC i) 25) :: H) (fun i => i ≤ 4) 0 (by omega) ⟨rfl, rfl, rfl, True.intro⟩ (by repeat first | exact .refl _ | refine .cons_cons _ ?_ | refine .cons _ ?_ | exact sl0 _ | refine slA ?_) ?_
  rintro i hi IH
  change VRun _ _ _ _ _ [(0, .bool false), (21, sli (some ⟨b15, 0, Option.none⟩) 4 4), (22, I (i : Int))] _ ((b15, blk (fourC i) 25) :: H) _
  refine vseq ?_
  refine vseq ?_
  refine vregion ?_
  refine vone rfl (vxq (vmv rfl) rfl rfl ?_)
  refine vone rfl (vxq (vmv rfl) rfl rfl ?_)
  refine vone rfl (vxq (vlen rfl) rfl rfl ?_)
  refine vone rfl (vxq (vlss rfl rfl) rfl rfl ?_)
  refine vnil ?_
  refine vcondd rfl (fun h212 => ?_) (fun h212 => ?_)
  · skip
    refine vskip ?_
    refine vseq ?_
    refine vblock ?_
    refine vregion ?_
    refine vone rfl (vxq (vmv rfl) rfl rfl ?_)
    refine vone rfl (vxq (vmv rfl) rfl rfl ?_)
    refine vone rfl (vxq (vcp rfl rfl rfl (c_law01_bound _ _)) rfl rfl ?_)
    refine vone rfl (vxq (vcp rfl rfl rfl (c_law01_bound _ _)) rfl rfl ?_)
    refine vone rfl (vxq (vcp rfl rfl rfl (c_law01_bound _ _)) rfl rfl ?_)
    refine vone rfl (vxq (vcp rfl rfl rfl (c_law01_bound _ _)) rfl rfl ?_)
    refine vone rfl (vxq (vbd rfl rfl) rfl rfl ?_)
    refine vone rfl (vxq (vis rfl rfl (by omega)) rfl rfl ?_)
    refine vone rfl (vxs (vstn rfl rfl rfl rfl (four_put (by omega))) rfl ?_)
    refine vnil ?_
    refine vinblock ?_
    refine vregion ?_
    refine vone rfl (vxq (vmv rfl) rfl rfl ?_)
    refine vone rfl (vxq (vadd rfl rfl (by unfold InR; omega)) rfl rfl ?_)
    refine vone rfl (vxq (vas rfl) rfl rfl ?_)
    refine vnil ?_
    exact vback (IH (i + 1) (by omega) (by omega)) ⟨rfl, rfl, rfl, True.intro⟩ (by repeat first | exact .refl _ | refine .cons_cons _ ?_ | refine .cons _ ?_ | exact sl0 _ | refine slA ?_)
  · skip
    obtain rfl : i = 4 := by omega
    rw [fourC4]
    refine vexit (k' := _) rfl ?_
    refine vseq ?_
    refine vregion ?_
    refine vone rfl (vxq (vmv rfl) rfl rfl ?_)
    refine vone rfl (vxq (vmv rfl) rfl rfl ?_)
    refine vone rfl (vxq (vmv rfl) rfl rfl ?_)
    refine vone rfl (vxq (vmv rfl) rfl rfl ?_)
    refine vone rfl (vxq (vis rfl rfl (by omega)) rfl rfl ?_)
    refine vone rfl (vxq (vfa rfl) rfl rfl ?_)
    refine vone rfl (vxq (vfa rfl) rfl rfl ?_)
    refine vone rfl (vxs (vst1 rfl rfl rfl rfl) rfl ?_)
    refine vone rfl (vxq (vis rfl rfl (by omega)) rfl rfl ?_)
    refine vone rfl (vxq (vfa rfl) rfl rfl ?_)
    refine vone rfl (vxq (vfa rfl) rfl rfl ?_)
    refine vone rfl (vxs (vst1 rfl rfl rfl rfl) rfl ?_)
    refine vone rfl (vxq (vis rfl rfl (by omega)) rfl rfl ?_)
    refine vone rfl (vxq (vfa rfl) rfl rfl ?_)
    refine vone rfl (vxq (vfa rfl) rfl rfl ?_)
    refine vone rfl (vxs (vst1 rfl rfl rfl rfl) rfl ?_)
    refine vone rfl (vxq (vis rfl rfl (by omega)) rfl rfl ?_)
    refine vone rfl (vxq (vfa rfl) rfl rfl ?_)
    refine vone rfl (vxq (vfa rfl) rfl rfl ?_)
    refine vone rfl (vxs (vst1 rfl rfl rfl rfl) rfl ?_)
    refine vnil ?_
    refine vseq ?_
    refine vregion ?_
    refine vone rfl (vxq (vmv rfl) rfl rfl ?_)
    refine vone rfl (vxg (vcg rfl rfl rfl (@g_Clash [⟨⟨0, 1⟩, ⟨0, 1⟩, ⟨1, 2⟩, ⟨-1, 1⟩⟩, ⟨⟨0, 1⟩, ⟨0, 1⟩, ⟨0, 1⟩, ⟨-1, 1⟩⟩, ⟨⟨0, 1⟩, ⟨0, 1⟩, ⟨0, 2⟩, ⟨0, 1⟩⟩, ⟨⟨0, 1⟩, ⟨0, 1⟩, ⟨0, 2⟩, ⟨-1, 0⟩⟩] (some ⟨b15, 0, Option.none⟩) 4 4 rfl (by omega) _ (SlO.flat (fun _ => rfl) rfl)) (fun o H' h => h)) rfl rfl ?_)
    rintro t241 _ ⟨B15, rfl, hc15⟩
    rw [k17] at hc15
    obtain ⟨oa, m, c, rfl, hm, hS15⟩ := hc15
    refine vone rfl (vxq (vmv rfl) rfl rfl ?_)
    refine vone rfl (vxq (vex rfl rfl) rfl rfl ?_)
    refine vone rfl (vxq (vex rfl rfl) rfl rfl ?_)
    refine vone rfl (vxq (vas rfl) rfl rfl ?_)
    refine vone rfl (vxq (vas rfl) rfl rfl ?_)
    refine vnil ?_
    refine vseq ?_
    refine vregion ?_
    refine vone rfl (vxq (vbd rfl rfl) rfl rfl ?_)
    refine vone rfl (vxq (vbd rfl rfl) rfl rfl ?_)
    refine vone rfl (vxg (vbs rfl rfl rfl rfl rfl rfl) rfl rfl ?_)
    rintro _ _ ⟨b16, rfl, rfl⟩
    refine vone rfl (vxq (vbd rfl rfl) rfl rfl ?_)
    refine vone rfl (vxq (vbd rfl rfl) rfl rfl ?_)
    refine vone rfl (vxq (vbd rfl rfl) rfl rfl ?_)
    refine vone rfl (vxg (vbs rfl rfl rfl rfl rfl rfl) rfl rfl ?_)
    rintro _ _ ⟨b17, rfl, rfl⟩
    refine vone rfl (vxq (vbd rfl rfl) rfl rfl ?_)
    refine vone rfl (vxq (vbd rfl rfl) rfl rfl ?_)
    refine vone rfl (vxq (vbd rfl rfl) rfl rfl ?_)
    refine vone rfl (vxq (vbd rfl rfl) rfl rfl ?_)
    refine vone rfl (vxg (vbs rfl rfl rfl rfl rfl rfl) rfl rfl ?_)
    rintro _ _ ⟨b18, rfl, rfl⟩
    refine vone rfl (vxq (vbd rfl rfl) rfl rfl ?_)
    refine vone rfl (vxq (vbd rfl rfl) rfl rfl ?_)
    refine vone rfl (vxq (vbd rfl rfl) rfl rfl ?_)
    refine vone rfl (vxq (vbd rfl rfl) rfl rfl ?_)
    refine vone rfl (vxg (vbs rfl rfl rfl rfl rfl rfl) rfl rfl ?_)
    rintro _ _ ⟨b19, rfl, rfl⟩
    refine vone rfl (vxq (vbd rfl rfl) rfl rfl ?_)
    refine vone rfl (vxq (vbd rfl rfl) rfl rfl ?_)
    refine vone rfl (vxq (vbd rfl rfl) rfl rfl ?_)
    refine vone rfl (vxg (vbs rfl rfl rfl rfl rfl rfl) rfl rfl ?_)
    rintro _ _ ⟨b20, rfl, rfl⟩
    refine vone rfl (vxg (vbs rfl rfl rfl rfl rfl rfl) rfl rfl ?_)
    rintro _ _ ⟨b21, rfl, rfl⟩
    refine vone rfl (vxq (vas rfl) rfl rfl ?_)
    refine vnil ?_
    refine vseq ?_
    refine vseq ?_
    refine vregion ?_
    refine vone rfl (vxq (vas rfl) rfl rfl ?_)
    refine vnil ?_
    refine vblock ?_
    refine vwhile (σ := Nat) (fun i => 6 - i) (fun i => [(0, .bool false), (23, sli oa m c), (2, I 0), (24, sli (some ⟨b21, 0, Option.none⟩) 6 6), (25, I (i : Int))]) (fun i => (b21, blk [nilS, sli (some ⟨b16, 0, Option.none⟩) 2 2, sli (some ⟨b17, 0, Option.none⟩) 3 3, sli (some ⟨b18, 0, Option.none⟩) 4 4, sli (some ⟨b19, 0, Option.none⟩) 4 4, sli (some ⟨b20, 0, Option.none⟩) 3 3] 26) :: (b20, blk [I 0, I 0, I 40000, I 0, I 0, I 9] 36) :: (b19, blk [I 0, I 0, I 9, I 0, I 1, I 1, I 0, I 9] 36) :: (b18, blk [I 0, I 0, I 2, I 0, I 4, I 0, I 0, I 4] 36) :: (b17, blk [I 0, I 0, I 0, I 9, I 9, I 0] 36) :: (b16, blk [I 0, I 0, I 1, I 0] 36) :: (B15 ++ ((b15, blk [I 0, I 1, I 0, I 1, I 1, I 2, I (-1), I 1, I 0, I 1, I 0, I 1, I 0, I 1, I (-1), I 1, I 0, I 1, I 0, I 1, I 0, I 2, I 0, I 1, I 0, I 1, I 0, I 1, I 0, I 2, I (-1), I 0] 25) :: H))) (fun i => i ≤ 6) 0 (by omega) ⟨rfl, rfl, rfl, rfl, rfl, True.intro⟩ (by repeat first | exact .refl _ | refine .cons_cons _ ?_ | refine .cons _ ?_ | exact sl0 _ | refine slA ?_) ?_
    rintro i hi IH
    change VRun _ _ _ _ _ [(0, .bool false), (23, sli oa m c), (2, I 0), (24, sli (some ⟨b21, 0, Option.none⟩) 6 6), (25, I (i : Int))] _ ((b21, blk [nilS, sli (some ⟨b16, 0, Option.none⟩) 2 2, sli (some ⟨b17, 0, Option.none⟩) 3 3, sli (some ⟨b18, 0, Option.none⟩) 4 4, sli (some ⟨b19, 0, Option.none⟩) 4 4, sli (some ⟨b20, 0, Option.none⟩) 3 3] 26) :: (b20, blk [I 0, I 0, I 40000, I 0, I 0, I 9] 36) :: (b19, blk [I 0, I 0, I 9, I 0, I 1, I 1, I 0, I 9] 36) :: (b18, blk [I 0, I 0, I 2, I 0, I 4, I 0, I 0, I 4] 36) :: (b17, blk [I 0, I 0, I 0, I 9, I 9, I 0] 36) :: (b16, blk [I 0, I 0, I 1, I 0] 36) :: (B15 ++ ((b15, blk [I 0, I 1, I 0, I 1, I 1, I 2, I (-1), I 1, I 0, I 1, I 0, I 1, I 0, I 1, I (-1), I 1, I 0, I 1, I 0, I 1, I 0, I 2, I 0, I 1, I 0, I 1, I 0, I 1, I 0, I 2, I (-1), I 0] 25) :: H))) _
    refine vseq ?_
    refine vseq ?_
    refine vregion ?_
    refine vone rfl (vxq (vmv rfl) rfl rfl ?_)
    refine vone rfl (vxq (vmv rfl) rfl rfl ?_)
    refine vone rfl (vxq (vlen rfl) rfl rfl ?_)
    refine vone rfl (vxq (vlss rfl rfl) rfl rfl ?_)
    refine vnil ?_
    refine vcondd rfl (fun h269 => ?_) (fun h269 => ?_)
    · skip
      obtain ⟨oa6, n6, c6, f6, hv6, hS6, hl6, hm6, hf6⟩ := wrongs b16 b17 b18 b19 b20 b21 (i := i) (by omega)
      refine vskip ?_
      refine vseq ?_
      refine vblock ?_
      refine vseq ?_
      refine vregion ?_
      refine vone rfl (vxq (vmv rfl) rfl rfl ?_)
      refine vone rfl (vxq (vmv rfl) rfl rfl ?_)
      refine vone rfl (vxq (vis rfl rfl (by omega)) rfl rfl ?_)
      refine vone rfl (vxq (vld1 rfl hv6) rfl rfl ?_)
      refine vone rfl (vxq (vcq rfl rfl rfl ((@q_CheckField f6 oa6 n6 c6 hl6 hm6 _ (hS6 _)).reN hf6)) rfl rfl ?_)
      refine vone rfl (vxq (vneq rfl rfl) rfl rfl ?_)
      refine vknow (d := 277) (b' := false) rfl (by decide) ?_
      refine vnil ?_
      refine vcondf rfl ?_
      refine vskip ?_
      refine vinblock ?_
      refine vregion ?_
      refine vone rfl (vxq (vmv rfl) rfl rfl ?_)
      refine vone rfl (vxq (vadd rfl rfl (by unfold InR; omega)) rfl rfl ?_)
      refine vone rfl (vxq (vas rfl) rfl rfl ?_)
      refine vnil ?_
      exact vback (IH (i + 1) (by omega) (by omega)) ⟨rfl, rfl, rfl, rfl, rfl, True.intro⟩ (by repeat first | exact .refl _ | refine .cons_cons _ ?_ | refine .cons _ ?_ | exact sl0 _ | refine slA ?_)
    · skip
      refine vexit (k' := _) rfl ?_
      refine vseq ?_
      refine vregion ?_
      refine vone rfl (vxq (vcp rfl rfl rfl ((c_Root 1099511627776).reI rootE_40)) rfl rfl ?_)
      refine vone rfl (vxq (vmv rfl) rfl rfl ?_)
      refine vone rfl (vxq (vex rfl rfl) rfl rfl ?_)
      refine vone rfl (vxq (vex rfl rfl) rfl rfl ?_)
      refine vone rfl (vxq (vas rfl) rfl rfl ?_)
      refine vone rfl (vxq (vas rfl) rfl rfl ?_)
      refine vnil ?_
      refine vseq ?_
      refine vregion ?_
      refine vone rfl (vxq (vcp rfl rfl rfl ((c_Root 24).reI rootE_24)) rfl rfl ?_)
      refine vone rfl (vxq (vmv rfl) rfl rfl ?_)
      refine vone rfl (vxq (vex rfl rfl) rfl rfl ?_)
      refine vone rfl (vxq (vex rfl rfl) rfl rfl ?_)
      refine vone rfl (vxq (vas rfl) rfl rfl ?_)
      refine vone rfl (vxq (vas rfl) rfl rfl ?_)
      refine vnil ?_
      refine vseq ?_
      refine vregion ?_
      refine vone rfl (vxq (vcp rfl rfl rfl ((c_Root (-1)).reI rootE_m)) rfl rfl ?_)
      refine vone rfl (vxq (vmv rfl) rfl rfl ?_)
      refine vone rfl (vxq (vex rfl rfl) rfl rfl ?_)
      refine vone rfl (vxq (vex rfl rfl) rfl rfl ?_)
      refine vone rfl (vxq (vas rfl) rfl rfl ?_)
      refine vnil ?_
      refine vseq ?_
      refine vregion ?_
      refine vone rfl (vxq (vcp rfl rfl rfl ((c_Root 1099511627777).reI rootE_41)) rfl rfl ?_)
      refine vone rfl (vxq (vmv rfl) rfl rfl ?_)
      refine vone rfl (vxq (vex rfl rfl) rfl rfl ?_)
      refine vone rfl (vxq (vex rfl rfl) rfl rfl ?_)
      refine vone rfl (vxq (vas rfl) rfl rfl ?_)
      refine vnil ?_
      refine vseq ?_
      refine vregion ?_
      refine vone rfl (vxq (vmv rfl) rfl rfl ?_)
      refine vone rfl (vxq (veql rfl rfl) rfl rfl ?_)
      refine vknow (d := 295) (b' := true) rfl (by decide) ?_
      refine vone rfl (vxq (vmv rfl) rfl rfl ?_)
      refine vyes rfl rfl rfl (vxq (vmv rfl) rfl rfl ?_)
      refine vyes rfl rfl rfl (vxg (vbs rfl rfl rfl rfl rfl rfl) rfl rfl ?_)
      rintro _ _ ⟨b22, rfl, rfl⟩
      refine vyes rfl rfl rfl (vxq (vcq rfl rfl rfl (@q_Alike [0, 1, 2, 3] [0, 1, 2, 3] oa (some ⟨b22, 0, Option.none⟩) m c 4 4 hm rfl (by have : m = 4 := hm.symm; omega) (by omega) _ _ (SlO.flat (fun _ => rfl) rfl))) rfl rfl ?_)
      refine vknow (d := 299) (b' := true) rfl (by decide) ?_
      refine vone rfl (vxq (vpkt rfl rfl) rfl rfl ?_)
      refine vone rfl (vxq (vmv rfl) rfl rfl ?_)
      refine vyes rfl rfl rfl (vxq (vmv rfl) rfl rfl ?_)
      refine vyes rfl rfl rfl (vxq (veql rfl rfl) rfl rfl ?_)
      refine vknow (d := 303) (b' := true) rfl (by decide) ?_
      refine vone rfl (vxq (vpkt rfl rfl) rfl rfl ?_)
      refine vone rfl (vxq (vmv rfl) rfl rfl ?_)
      refine vyes rfl rfl rfl (vxq (vmv rfl) rfl rfl ?_)
      refine vyes rfl rfl rfl (vxq (veql rfl rfl) rfl rfl ?_)
      refine vknow (d := 307) (b' := true) rfl (by decide) ?_
      refine vone rfl (vxq (vpkt rfl rfl) rfl rfl ?_)
      refine vone rfl (vxq (vmv rfl) rfl rfl ?_)
      refine vyes rfl rfl rfl (vxq (vmv rfl) rfl rfl ?_)
      refine vyes rfl rfl rfl (vxq (veql rfl rfl) rfl rfl ?_)
      refine vknow (d := 311) (b' := true) rfl (by decide) ?_
      refine vone rfl (vxq (vpkt rfl rfl) rfl rfl ?_)
      refine vone rfl (vxq (vmv rfl) rfl rfl ?_)
      refine vyes rfl rfl rfl (vxq (vmv rfl) rfl rfl ?_)
      refine vyes rfl rfl rfl (vxq (veql rfl rfl) rfl rfl ?_)
      refine vknow (d := 315) (b' := true) rfl (by decide) ?_
      refine vone rfl (vxq (vpkt rfl rfl) rfl rfl ?_)
      refine vone rfl (vxq (vmv rfl) rfl rfl ?_)
      refine vyes rfl rfl rfl (vxq (vmv rfl) rfl rfl ?_)
      refine vyes rfl rfl rfl (vxq (veql rfl rfl) rfl rfl ?_)
      refine vknow (d := 319) (b' := true) rfl (by decide) ?_
      refine vone rfl (vxq (vpkt rfl rfl) rfl rfl ?_)
      refine vone rfl (vxq (vmv rfl) rfl rfl ?_)
      refine vyes rfl rfl rfl (vxq (vmv rfl) rfl rfl ?_)
      refine vyes rfl rfl rfl (vxq (veql rfl rfl) rfl rfl ?_)
      refine vknow (d := 323) (b' := true) rfl (by decide) ?_
      refine vone rfl (vxq (vpkt rfl rfl) rfl rfl ?_)
      refine vone rfl (vxq (vmv rfl) rfl rfl ?_)
      refine vyes rfl rfl rfl (vxq (vcp rfl rfl rfl ((c_IsName _ (by decide)).reL name_0)) rfl rfl ?_)
      refine vyes rfl rfl rfl (vxq (vnot rfl) rfl rfl ?_)
      refine vknow (d := 327) (b' := true) rfl rfl ?_
      refine vone rfl (vxq (vpkt rfl rfl) rfl rfl ?_)
      refine vone rfl (vxq (vmv rfl) rfl rfl ?_)
      refine vyes rfl rfl rfl (vxq (vcp rfl rfl rfl ((c_IsName _ (by decide)).reL name_1)) rfl rfl ?_)
      refine vyes rfl rfl rfl (vxq (vnot rfl) rfl rfl ?_)
      refine vknow (d := 331) (b' := true) rfl rfl ?_
      refine vone rfl (vxq (vpkt rfl rfl) rfl rfl ?_)
      refine vone rfl (vxq (vmv rfl) rfl rfl ?_)
      refine vyes rfl rfl rfl (vxq (vcp rfl rfl rfl ((c_IsName _ (by decide)).reL name_2)) rfl rfl ?_)
      refine vknow (d := 334) (b' := true) rfl rfl ?_
      refine vone rfl (vxq (vpkt rfl rfl) rfl rfl ?_)
      refine vone rfl (vxq (vmv rfl) rfl rfl ?_)
      refine vyes rfl rfl rfl (vxq (vcp rfl rfl rfl ((c_IsName _ (by decide)).reL (name_17 rfl))) rfl rfl ?_)
      refine vyes rfl rfl rfl (vxq (vnot rfl) rfl rfl ?_)
      refine vknow (d := 338) (b' := true) rfl rfl ?_
      refine vone rfl (vxq (vpkt rfl rfl) rfl rfl ?_)
      refine vone rfl (vxq (vmv rfl) rfl rfl ?_)
      refine vyes rfl rfl rfl (vxq (vcp rfl rfl rfl (c_law01_bound _ _)) rfl rfl ?_)
      refine vyes rfl rfl rfl (vxq (vbd rfl rfl) rfl rfl ?_)
      refine vyes rfl rfl rfl (vxq (vcp rfl rfl rfl (c_region_Check ⟨⟨1, 0⟩, ⟨0, 0⟩, ⟨0, 0⟩, ⟨0, 0⟩⟩)) rfl rfl ?_)
      refine vyes rfl rfl rfl (vxq (veql rfl rfl) rfl rfl ?_)
      refine vknow (d := 344) (b' := true) rfl (by decide) ?_
      refine vone rfl (vxq (vpkt rfl rfl) rfl rfl ?_)
      refine vone rfl (vxq (vmv rfl) rfl rfl ?_)
      refine vone rfl (vxq (vpkt rfl rfl) rfl rfl ?_)
      refine vone rfl (vxq (vmv rfl) rfl rfl ?_)
      refine vyes rfl rfl rfl (vxq (vcp rfl rfl rfl (c_works)) rfl rfl ?_)
      refine vone rfl (vxq (vpkt rfl rfl) rfl rfl ?_)
      refine vone rfl (vxq (vas rfl) rfl rfl ?_)
      refine vnil ?_
      refine vret (vr1 (H' := H) Try.func19 rfl (.tmp rfl) (by repeat first | exact .refl _ | refine .cons_cons _ ?_ | refine .cons _ ?_ | exact sl0 _ | refine slA ?_) ?_)
      exact ⟨rfl, rfl⟩
end Go.Proofs.Ytffpfcomikcimaa
