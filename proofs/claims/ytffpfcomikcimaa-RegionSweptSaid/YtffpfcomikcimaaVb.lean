/-
  The walks of RegionBoth, RegionReached and RegionSwept.
-/
import Derived.Test.YtffpfcomikcimaaWz
namespace Go.Proofs.Ytffpfcomikcimaa
open Go
set_option maxRecDepth 100000
attribute [local irreducible] tightP hullP rootP farP rows endsOf sqL sqP twoE pickL srch cutsOf clashE ofE tightE meetE sumE sweptE reachE cntE extE distE moveE gapE coversE hitE joinE minusE hasE restP rootE inE
/-- paravane/paravanelaw01.RegionBoth -/
theorem l_Both0 (a b : Rg) (p : Pt) (x y : Bool) (e f : Int) (hA : hasE a p = (x, e)) (hB : hasE b p = (y, f)) (he : e ≠ 0 ∨ f ≠ 0) (H : Heap) : VHas Try.prog 11 [vR a, vR b, vP p] (.bool true) H H := by
  refine vcall_of_vrun Try.func11 rfl (N := 145) rfl rfl ?_
  refine vseq ?_
  refine vregion ?_
  refine vone rfl (vxa (vbox rfl rfl) rfl rfl (fun b1 => ?_))
  refine vone rfl (vxa (vbox rfl rfl) rfl rfl (fun b2 => ?_))
  refine vone rfl (vxa (vbox rfl rfl) rfl rfl (fun b3 => ?_))
  refine vone rfl (vxq (vas rfl) rfl rfl ?_)
  refine vnil ?_
  refine vseq ?_
  refine vregion ?_
  refine vone rfl (vxq (vldn rfl rfl) rfl rfl ?_)
  refine vone rfl (vxq (vldn rfl rfl) rfl rfl ?_)
  refine vone rfl (vxq (vcp rfl rfl rfl ((c_Has a p).reT hA)) rfl rfl ?_)
  refine vone rfl (vxq (vmv rfl) rfl rfl ?_)
  refine vone rfl (vxq (vex rfl rfl) rfl rfl ?_)
  refine vone rfl (vxq (vex rfl rfl) rfl rfl ?_)
  refine vone rfl (vxq (vas rfl) rfl rfl ?_)
  refine vone rfl (vxq (vas rfl) rfl rfl ?_)
  refine vnil ?_
  refine vseq ?_
  refine vregion ?_
  refine vone rfl (vxq (vldn rfl rfl) rfl rfl ?_)
  refine vone rfl (vxq (vldn rfl rfl) rfl rfl ?_)
  refine vone rfl (vxq (vcp rfl rfl rfl ((c_Has b p).reT hB)) rfl rfl ?_)
  refine vone rfl (vxq (vmv rfl) rfl rfl ?_)
  refine vone rfl (vxq (vex rfl rfl) rfl rfl ?_)
  refine vone rfl (vxq (vex rfl rfl) rfl rfl ?_)
  refine vone rfl (vxq (vas rfl) rfl rfl ?_)
  refine vone rfl (vxq (vas rfl) rfl rfl ?_)
  refine vnil ?_
  refine vseq ?_
  refine vseq ?_
  refine vregion ?_
  refine vone rfl (vxq (vmv rfl) rfl rfl ?_)
  refine vone rfl (vxq (vneq rfl rfl) rfl rfl ?_)
  refine vone rfl (vxq (vmv rfl) rfl rfl ?_)
  refine vsplitd (d := 35) rfl (fun h35 => ?_) (fun h35 => ?_)
  · skip
    refine vno rfl rfl rfl rfl rfl ?_
    refine vno rfl rfl rfl rfl rfl ?_
    refine vone rfl (vxq (vpkt rfl rfl) rfl rfl ?_)
    refine vnil ?_
    refine vcondt rfl ?_
    refine vseq ?_
    refine vregion ?_
    refine vone rfl (vxq (vcp rfl rfl rfl (c_works)) rfl rfl ?_)
    refine vone rfl (vxq (vas rfl) rfl rfl ?_)
    refine vnil ?_
    refine vret (vr1 (H' := H) Try.func11 rfl (.tmp rfl) (by repeat first | exact .refl _ | refine .cons_cons _ ?_ | refine .cons _ ?_ | exact sl0 _ | refine slA ?_) ?_)
    exact ⟨rfl, rfl⟩
  · skip
    refine vyes rfl rfl rfl (vxq (vmv rfl) rfl rfl ?_)
    refine vyes rfl rfl rfl (vxq (vneq rfl rfl) rfl rfl ?_)
    refine vknow (d := 37) (b' := true) rfl (decide_eq_true (by rcases he with h | h; exact absurd h h35; exact h)) ?_
    refine vone rfl (vxq (vpkf rfl rfl) rfl rfl ?_)
    refine vnil ?_
    refine vcondt rfl ?_
    refine vseq ?_
    refine vregion ?_
    refine vone rfl (vxq (vcp rfl rfl rfl (c_works)) rfl rfl ?_)
    refine vone rfl (vxq (vas rfl) rfl rfl ?_)
    refine vnil ?_
    refine vret (vr1 (H' := H) Try.func11 rfl (.tmp rfl) (by repeat first | exact .refl _ | refine .cons_cons _ ?_ | refine .cons _ ?_ | exact sl0 _ | refine slA ?_) ?_)
    exact ⟨rfl, rfl⟩
/-- paravane/paravanelaw01.RegionBoth -/
theorem l_Both1 (a b : Rg) (p : Pt) (x y : Bool) (hA : hasE a p = (x, 0)) (hB : hasE b p = (y, 0)) (m j : Rg) (h1 : meetE a b = (m, 0)) (h2 : meetE b a = (m, 0)) (h5 : hasE m p = (x && y, 0)) (z : Bool) (h3 : joinE a b = (j, 0)) (h4 : joinE b a = (j, 0)) (h6 : hasE j p = (z, 0)) (hz : x = true ∨ y = true → z = true) (H : Heap) : VHas Try.prog 11 [vR a, vR b, vP p] (.bool true) H H := by
  refine vcall_of_vrun Try.func11 rfl (N := 145) rfl rfl ?_
  refine vseq ?_
  refine vregion ?_
  refine vone rfl (vxa (vbox rfl rfl) rfl rfl (fun b1 => ?_))
  refine vone rfl (vxa (vbox rfl rfl) rfl rfl (fun b2 => ?_))
  refine vone rfl (vxa (vbox rfl rfl) rfl rfl (fun b3 => ?_))
  refine vone rfl (vxq (vas rfl) rfl rfl ?_)
  refine vnil ?_
  refine vseq ?_
  refine vregion ?_
  refine vone rfl (vxq (vldn rfl rfl) rfl rfl ?_)
  refine vone rfl (vxq (vldn rfl rfl) rfl rfl ?_)
  refine vone rfl (vxq (vcp rfl rfl rfl ((c_Has a p).reT hA)) rfl rfl ?_)
  refine vone rfl (vxq (vmv rfl) rfl rfl ?_)
  refine vone rfl (vxq (vex rfl rfl) rfl rfl ?_)
  refine vone rfl (vxq (vex rfl rfl) rfl rfl ?_)
  refine vone rfl (vxq (vas rfl) rfl rfl ?_)
  refine vone rfl (vxq (vas rfl) rfl rfl ?_)
  refine vnil ?_
  refine vseq ?_
  refine vregion ?_
  refine vone rfl (vxq (vldn rfl rfl) rfl rfl ?_)
  refine vone rfl (vxq (vldn rfl rfl) rfl rfl ?_)
  refine vone rfl (vxq (vcp rfl rfl rfl ((c_Has b p).reT hB)) rfl rfl ?_)
  refine vone rfl (vxq (vmv rfl) rfl rfl ?_)
  refine vone rfl (vxq (vex rfl rfl) rfl rfl ?_)
  refine vone rfl (vxq (vex rfl rfl) rfl rfl ?_)
  refine vone rfl (vxq (vas rfl) rfl rfl ?_)
  refine vone rfl (vxq (vas rfl) rfl rfl ?_)
  refine vnil ?_
  refine vseq ?_
  refine vseq ?_
  refine vregion ?_
  refine vone rfl (vxq (vmv rfl) rfl rfl ?_)
  refine vone rfl (vxq (vneq rfl rfl) rfl rfl ?_)
  refine vknow (d := 34) (b' := false) rfl (by decide) ?_
  refine vone rfl (vxq (vmv rfl) rfl rfl ?_)
  refine vyes rfl rfl rfl (vxq (vmv rfl) rfl rfl ?_)
  refine vyes rfl rfl rfl (vxq (vneq rfl rfl) rfl rfl ?_)
  refine vknow (d := 37) (b' := false) rfl (by decide) ?_
  refine vone rfl (vxq (vpkf rfl rfl) rfl rfl ?_)
  refine vnil ?_
  refine vcondf rfl ?_
  refine vskip ?_
  refine vseq ?_
  refine vregion ?_
  refine vone rfl (vxq (vldn rfl rfl) rfl rfl ?_)
  refine vone rfl (vxq (vldn rfl rfl) rfl rfl ?_)
  refine vone rfl (vxq (vcp rfl rfl rfl ((c_Meet a b).reR h1)) rfl rfl ?_)
  refine vone rfl (vxq (vmv rfl) rfl rfl ?_)
  refine vone rfl (vxq (vex rfl rfl) rfl rfl ?_)
  refine vone rfl (vxq (vex rfl rfl) rfl rfl ?_)
  refine vone rfl (vxa valloc rfl rfl (fun b4 => ?_))
  refine vone rfl (vxs (vstn rfl rfl rfl rfl rfl) rfl ?_)
  refine vone rfl (vxq (vas rfl) rfl rfl ?_)
  refine vnil ?_
  refine vseq ?_
  refine vregion ?_
  refine vone rfl (vxq (vldn rfl rfl) rfl rfl ?_)
  refine vone rfl (vxq (vldn rfl rfl) rfl rfl ?_)
  refine vone rfl (vxq (vcp rfl rfl rfl ((c_Meet b a).reR h2)) rfl rfl ?_)
  refine vone rfl (vxq (vmv rfl) rfl rfl ?_)
  refine vone rfl (vxq (vex rfl rfl) rfl rfl ?_)
  refine vone rfl (vxq (vex rfl rfl) rfl rfl ?_)
  refine vone rfl (vxa valloc rfl rfl (fun b5 => ?_))
  refine vone rfl (vxs (vstn rfl rfl rfl rfl rfl) rfl ?_)
  refine vone rfl (vxq (vas rfl) rfl rfl ?_)
  refine vnil ?_
  refine vseq ?_
  refine vregion ?_
  refine vone rfl (vxq (vldn rfl rfl) rfl rfl ?_)
  refine vone rfl (vxq (vldn rfl rfl) rfl rfl ?_)
  refine vone rfl (vxq (vcp rfl rfl rfl ((c_Join a b).reR h3)) rfl rfl ?_)
  refine vone rfl (vxq (vmv rfl) rfl rfl ?_)
  refine vone rfl (vxq (vex rfl rfl) rfl rfl ?_)
  refine vone rfl (vxq (vex rfl rfl) rfl rfl ?_)
  refine vone rfl (vxa valloc rfl rfl (fun b6 => ?_))
  refine vone rfl (vxs (vstn rfl rfl rfl rfl rfl) rfl ?_)
  refine vone rfl (vxq (vas rfl) rfl rfl ?_)
  refine vnil ?_
  refine vseq ?_
  refine vregion ?_
  refine vone rfl (vxq (vldn rfl rfl) rfl rfl ?_)
  refine vone rfl (vxq (vldn rfl rfl) rfl rfl ?_)
  refine vone rfl (vxq (vcp rfl rfl rfl ((c_Join b a).reR h4)) rfl rfl ?_)
  refine vone rfl (vxq (vmv rfl) rfl rfl ?_)
  refine vone rfl (vxq (vex rfl rfl) rfl rfl ?_)
  refine vone rfl (vxq (vex rfl rfl) rfl rfl ?_)
  refine vone rfl (vxa valloc rfl rfl (fun b7 => ?_))
  refine vone rfl (vxs (vstn rfl rfl rfl rfl rfl) rfl ?_)
  refine vone rfl (vxq (vas rfl) rfl rfl ?_)
  refine vnil ?_
  refine vseq ?_
  refine vseq ?_
  refine vregion ?_
  refine vone rfl (vxq (vldn rfl rfl) rfl rfl ?_)
  refine vone rfl (vxq (vldn rfl rfl) rfl rfl ?_)
  refine vone rfl (vxq (vnes rfl rfl rfl rfl rfl rfl) rfl rfl ?_)
  refine vknow (d := 66) (b' := false) rfl (decide_eq_false (fun h => h rfl)) ?_
  refine vone rfl (vxq (vmv rfl) rfl rfl ?_)
  refine vyes rfl rfl rfl (vxq (vmv rfl) rfl rfl ?_)
  refine vyes rfl rfl rfl (vxq (vmv rfl) rfl rfl ?_)
  refine vyes rfl rfl rfl (vxq (vneq rfl rfl) rfl rfl ?_)
  refine vknow (d := 70) (b' := false) rfl (decide_eq_false (fun h => h rfl)) ?_
  refine vone rfl (vxq (vpkf rfl rfl) rfl rfl ?_)
  refine vone rfl (vxq (vmv rfl) rfl rfl ?_)
  refine vyes rfl rfl rfl (vxq (vldn rfl rfl) rfl rfl ?_)
  refine vyes rfl rfl rfl (vxq (vldn rfl rfl) rfl rfl ?_)
  refine vyes rfl rfl rfl (vxq (vnes rfl rfl rfl rfl rfl rfl) rfl rfl ?_)
  refine vknow (d := 75) (b' := false) rfl (decide_eq_false (fun h => h rfl)) ?_
  refine vone rfl (vxq (vpkf rfl rfl) rfl rfl ?_)
  refine vone rfl (vxq (vmv rfl) rfl rfl ?_)
  refine vyes rfl rfl rfl (vxq (vmv rfl) rfl rfl ?_)
  refine vyes rfl rfl rfl (vxq (vmv rfl) rfl rfl ?_)
  refine vyes rfl rfl rfl (vxq (vneq rfl rfl) rfl rfl ?_)
  refine vknow (d := 80) (b' := false) rfl (decide_eq_false (fun h => h rfl)) ?_
  refine vone rfl (vxq (vpkf rfl rfl) rfl rfl ?_)
  refine vnil ?_
  refine vcondf rfl ?_
  refine vskip ?_
  refine vseq ?_
  refine vseq ?_
  refine vregion ?_
  refine vone rfl (vxq (vmv rfl) rfl rfl ?_)
  refine vone rfl (vxq (veql rfl rfl) rfl rfl ?_)
  refine vknow (d := 83) (b' := true) rfl (by decide) ?_
  refine vnil ?_
  refine vcondt rfl ?_
  refine vseq ?_
  refine vregion ?_
  refine vone rfl (vxq (vldn rfl rfl) rfl rfl ?_)
  refine vone rfl (vxq (vldn rfl rfl) rfl rfl ?_)
  refine vone rfl (vxq (vcp rfl rfl rfl ((c_Has m p).reT h5)) rfl rfl ?_)
  refine vone rfl (vxq (vmv rfl) rfl rfl ?_)
  refine vone rfl (vxq (vex rfl rfl) rfl rfl ?_)
  refine vone rfl (vxq (vex rfl rfl) rfl rfl ?_)
  refine vone rfl (vxq (vas rfl) rfl rfl ?_)
  refine vone rfl (vxq (vas rfl) rfl rfl ?_)
  refine vnil ?_
  refine vseq ?_
  refine vregion ?_
  refine vone rfl (vxq (vmv rfl) rfl rfl ?_)
  refine vone rfl (vxq (vneq rfl rfl) rfl rfl ?_)
  refine vknow (d := 91) (b' := false) rfl (by decide) ?_
  refine vone rfl (vxq (vmv rfl) rfl rfl ?_)
  refine vyes rfl rfl rfl (vxq (vmv rfl) rfl rfl ?_)
  refine vyes rfl rfl rfl (vxq (vmv rfl) rfl rfl ?_)
  refine vyes rfl rfl rfl (vxq (vmv rfl) rfl rfl ?_)
  refine vsplit (d := 95) rfl (fun h95 => ?_) (fun h95 => ?_)
  · skip
    refine vyes rfl rfl rfl (vxq (vmv rfl) rfl rfl ?_)
    refine vyes rfl rfl rfl (vxq (vpkt rfl rfl) rfl rfl ?_)
    refine vyes rfl rfl rfl (vxq (vneqb (by kernel_rfl) rfl rfl) rfl rfl ?_)
    refine vknow (d := 98) (b' := false) rfl (by simp [h95]) ?_
    refine vone rfl (vxq (vpkf rfl rfl) rfl rfl ?_)
    refine vnil ?_
    refine vcondf rfl ?_
    refine vskip ?_
    refine vseq ?_
    refine vseq ?_
    refine vregion ?_
    refine vone rfl (vxq (vmv rfl) rfl rfl ?_)
    refine vone rfl (vxq (vneq rfl rfl) rfl rfl ?_)
    refine vknow (d := 109) (b' := false) rfl (by decide) ?_
    refine vnil ?_
    refine vcondf rfl ?_
    refine vskip ?_
    refine vseq ?_
    refine vregion ?_
    refine vone rfl (vxq (vldn rfl rfl) rfl rfl ?_)
    refine vone rfl (vxq (vldn rfl rfl) rfl rfl ?_)
    refine vone rfl (vxq (vcp rfl rfl rfl ((c_Has j p).reT h6)) rfl rfl ?_)
    refine vone rfl (vxq (vmv rfl) rfl rfl ?_)
    refine vone rfl (vxq (vex rfl rfl) rfl rfl ?_)
    refine vone rfl (vxq (vex rfl rfl) rfl rfl ?_)
    refine vone rfl (vxq (vas rfl) rfl rfl ?_)
    refine vone rfl (vxq (vas rfl) rfl rfl ?_)
    refine vnil ?_
    refine vseq ?_
    refine vregion ?_
    refine vone rfl (vxq (vmv rfl) rfl rfl ?_)
    refine vone rfl (vxq (veql rfl rfl) rfl rfl ?_)
    refine vknow (d := 130) (b' := true) rfl (by decide) ?_
    refine vone rfl (vxq (vmv rfl) rfl rfl ?_)
    refine vyes rfl rfl rfl (vxq (vmv rfl) rfl rfl ?_)
    refine vyes rfl rfl rfl (vxq (vmv rfl) rfl rfl ?_)
    refine vsplit (d := 133) rfl (fun h133 => ?_) (fun h133 => ?_)
    · skip
      refine vno rfl rfl rfl rfl rfl ?_
      refine vno rfl rfl rfl rfl rfl ?_
      refine vno rfl rfl rfl rfl rfl ?_
      refine vnou rfl rfl rfl rfl rfl ?_
      refine vnou rfl rfl rfl rfl rfl ?_
      refine vno rfl rfl rfl rfl rfl ?_
      refine vyes rfl rfl rfl (vxq (vpkt rfl rfl) rfl rfl ?_)
      refine vone rfl (vxq (vpkt rfl rfl) rfl rfl ?_)
      refine vone rfl (vxq (vmv rfl) rfl rfl ?_)
      refine vyes rfl rfl rfl (vxq (vcp rfl rfl rfl (c_works)) rfl rfl ?_)
      refine vone rfl (vxq (vpkt rfl rfl) rfl rfl ?_)
      refine vone rfl (vxq (vas rfl) rfl rfl ?_)
      refine vnil ?_
      refine vret (vr1 (H' := H) Try.func11 rfl (.tmp rfl) (by repeat first | exact .refl _ | refine .cons_cons _ ?_ | refine .cons _ ?_ | exact sl0 _ | refine slA ?_) ?_)
      exact ⟨rfl, rfl⟩
    · skip
      refine vyes rfl rfl rfl (vxq (vmv rfl) rfl rfl ?_)
      refine vknow (d := 134) (b' := false) rfl (by cases x; rfl; simp [h133] at hz) ?_
      refine vyes rfl rfl rfl (vxq (vnot rfl) rfl rfl ?_)
      refine vyes rfl rfl rfl (vxq (vmv rfl) rfl rfl ?_)
      refine vyes rfl rfl rfl (vxq (vmv rfl) rfl rfl ?_)
      refine vknow (d := 137) (b' := false) rfl (by cases y; rfl; simp [h133] at hz) ?_
      refine vyes rfl rfl rfl (vxq (vnot rfl) rfl rfl ?_)
      refine vyes rfl rfl rfl (vxq (vpkt rfl rfl) rfl rfl ?_)
      refine vyes rfl rfl rfl (vxq (vpkf rfl rfl) rfl rfl ?_)
      refine vone rfl (vxq (vpkt rfl rfl) rfl rfl ?_)
      refine vone rfl (vxq (vmv rfl) rfl rfl ?_)
      refine vyes rfl rfl rfl (vxq (vcp rfl rfl rfl (c_works)) rfl rfl ?_)
      refine vone rfl (vxq (vpkt rfl rfl) rfl rfl ?_)
      refine vone rfl (vxq (vas rfl) rfl rfl ?_)
      refine vnil ?_
      refine vret (vr1 (H' := H) Try.func11 rfl (.tmp rfl) (by repeat first | exact .refl _ | refine .cons_cons _ ?_ | refine .cons _ ?_ | exact sl0 _ | refine slA ?_) ?_)
      exact ⟨rfl, rfl⟩
  · skip
    refine vno rfl rfl rfl rfl rfl ?_
    refine vyes rfl rfl rfl (vxq (vpkf rfl rfl) rfl rfl ?_)
    refine vyes rfl rfl rfl (vxq (vneqb (by kernel_rfl) rfl rfl) rfl rfl ?_)
    refine vknow (d := 98) (b' := false) rfl (by simp [h95]) ?_
    refine vone rfl (vxq (vpkf rfl rfl) rfl rfl ?_)
    refine vnil ?_
    refine vcondf rfl ?_
    refine vskip ?_
    refine vseq ?_
    refine vseq ?_
    refine vregion ?_
    refine vone rfl (vxq (vmv rfl) rfl rfl ?_)
    refine vone rfl (vxq (vneq rfl rfl) rfl rfl ?_)
    refine vknow (d := 109) (b' := false) rfl (by decide) ?_
    refine vnil ?_
    refine vcondf rfl ?_
    refine vskip ?_
    refine vseq ?_
    refine vregion ?_
    refine vone rfl (vxq (vldn rfl rfl) rfl rfl ?_)
    refine vone rfl (vxq (vldn rfl rfl) rfl rfl ?_)
    refine vone rfl (vxq (vcp rfl rfl rfl ((c_Has j p).reT h6)) rfl rfl ?_)
    refine vone rfl (vxq (vmv rfl) rfl rfl ?_)
    refine vone rfl (vxq (vex rfl rfl) rfl rfl ?_)
    refine vone rfl (vxq (vex rfl rfl) rfl rfl ?_)
    refine vone rfl (vxq (vas rfl) rfl rfl ?_)
    refine vone rfl (vxq (vas rfl) rfl rfl ?_)
    refine vnil ?_
    refine vseq ?_
    refine vregion ?_
    refine vone rfl (vxq (vmv rfl) rfl rfl ?_)
    refine vone rfl (vxq (veql rfl rfl) rfl rfl ?_)
    refine vknow (d := 130) (b' := true) rfl (by decide) ?_
    refine vone rfl (vxq (vmv rfl) rfl rfl ?_)
    refine vyes rfl rfl rfl (vxq (vmv rfl) rfl rfl ?_)
    refine vyes rfl rfl rfl (vxq (vmv rfl) rfl rfl ?_)
    refine vsplit (d := 133) rfl (fun h133 => ?_) (fun h133 => ?_)
    · skip
      refine vno rfl rfl rfl rfl rfl ?_
      refine vno rfl rfl rfl rfl rfl ?_
      refine vno rfl rfl rfl rfl rfl ?_
      refine vnou rfl rfl rfl rfl rfl ?_
      refine vnou rfl rfl rfl rfl rfl ?_
      refine vno rfl rfl rfl rfl rfl ?_
      refine vyes rfl rfl rfl (vxq (vpkt rfl rfl) rfl rfl ?_)
      refine vone rfl (vxq (vpkt rfl rfl) rfl rfl ?_)
      refine vone rfl (vxq (vmv rfl) rfl rfl ?_)
      refine vyes rfl rfl rfl (vxq (vcp rfl rfl rfl (c_works)) rfl rfl ?_)
      refine vone rfl (vxq (vpkt rfl rfl) rfl rfl ?_)
      refine vone rfl (vxq (vas rfl) rfl rfl ?_)
      refine vnil ?_
      refine vret (vr1 (H' := H) Try.func11 rfl (.tmp rfl) (by repeat first | exact .refl _ | refine .cons_cons _ ?_ | refine .cons _ ?_ | exact sl0 _ | refine slA ?_) ?_)
      exact ⟨rfl, rfl⟩
    · skip
      refine vyes rfl rfl rfl (vxq (vmv rfl) rfl rfl ?_)
      refine vknow (d := 134) (b' := false) rfl (by cases x; rfl; simp [h133] at hz) ?_
      refine vyes rfl rfl rfl (vxq (vnot rfl) rfl rfl ?_)
      refine vyes rfl rfl rfl (vxq (vmv rfl) rfl rfl ?_)
      refine vyes rfl rfl rfl (vxq (vmv rfl) rfl rfl ?_)
      refine vknow (d := 137) (b' := false) rfl (by cases y; rfl; simp [h133] at hz) ?_
      refine vyes rfl rfl rfl (vxq (vnot rfl) rfl rfl ?_)
      refine vyes rfl rfl rfl (vxq (vpkt rfl rfl) rfl rfl ?_)
      refine vyes rfl rfl rfl (vxq (vpkf rfl rfl) rfl rfl ?_)
      refine vone rfl (vxq (vpkt rfl rfl) rfl rfl ?_)
      refine vone rfl (vxq (vmv rfl) rfl rfl ?_)
      refine vyes rfl rfl rfl (vxq (vcp rfl rfl rfl (c_works)) rfl rfl ?_)
      refine vone rfl (vxq (vpkt rfl rfl) rfl rfl ?_)
      refine vone rfl (vxq (vas rfl) rfl rfl ?_)
      refine vnil ?_
      refine vret (vr1 (H' := H) Try.func11 rfl (.tmp rfl) (by repeat first | exact .refl _ | refine .cons_cons _ ?_ | refine .cons _ ?_ | exact sl0 _ | refine slA ?_) ?_)
      exact ⟨rfl, rfl⟩
/-- paravane/paravanelaw01.RegionBoth -/
theorem l_Both2 (a b : Rg) (p : Pt) (x y : Bool) (hA : hasE a p = (x, 0)) (hB : hasE b p = (y, 0)) (m j : Rg) (h1 : meetE a b = (m, 4)) (h2 : meetE b a = (m, 4)) (hxy : (x && y) = false) (z : Bool) (h3 : joinE a b = (j, 0)) (h4 : joinE b a = (j, 0)) (h6 : hasE j p = (z, 0)) (hz : x = true ∨ y = true → z = true) (H : Heap) : VHas Try.prog 11 [vR a, vR b, vP p] (.bool true) H H := by
  refine vcall_of_vrun Try.func11 rfl (N := 145) rfl rfl ?_
  refine vseq ?_
  refine vregion ?_
  refine vone rfl (vxa (vbox rfl rfl) rfl rfl (fun b1 => ?_))
  refine vone rfl (vxa (vbox rfl rfl) rfl rfl (fun b2 => ?_))
  refine vone rfl (vxa (vbox rfl rfl) rfl rfl (fun b3 => ?_))
  refine vone rfl (vxq (vas rfl) rfl rfl ?_)
  refine vnil ?_
  refine vseq ?_
  refine vregion ?_
  refine vone rfl (vxq (vldn rfl rfl) rfl rfl ?_)
  refine vone rfl (vxq (vldn rfl rfl) rfl rfl ?_)
  refine vone rfl (vxq (vcp rfl rfl rfl ((c_Has a p).reT hA)) rfl rfl ?_)
  refine vone rfl (vxq (vmv rfl) rfl rfl ?_)
  refine vone rfl (vxq (vex rfl rfl) rfl rfl ?_)
  refine vone rfl (vxq (vex rfl rfl) rfl rfl ?_)
  refine vone rfl (vxq (vas rfl) rfl rfl ?_)
  refine vone rfl (vxq (vas rfl) rfl rfl ?_)
  refine vnil ?_
  refine vseq ?_
  refine vregion ?_
  refine vone rfl (vxq (vldn rfl rfl) rfl rfl ?_)
  refine vone rfl (vxq (vldn rfl rfl) rfl rfl ?_)
  refine vone rfl (vxq (vcp rfl rfl rfl ((c_Has b p).reT hB)) rfl rfl ?_)
  refine vone rfl (vxq (vmv rfl) rfl rfl ?_)
  refine vone rfl (vxq (vex rfl rfl) rfl rfl ?_)
  refine vone rfl (vxq (vex rfl rfl) rfl rfl ?_)
  refine vone rfl (vxq (vas rfl) rfl rfl ?_)
  refine vone rfl (vxq (vas rfl) rfl rfl ?_)
  refine vnil ?_
  refine vseq ?_
  refine vseq ?_
  refine vregion ?_
  refine vone rfl (vxq (vmv rfl) rfl rfl ?_)
  refine vone rfl (vxq (vneq rfl rfl) rfl rfl ?_)
  refine vknow (d := 34) (b' := false) rfl (by decide) ?_
  refine vone rfl (vxq (vmv rfl) rfl rfl ?_)
  refine vyes rfl rfl rfl (vxq (vmv rfl) rfl rfl ?_)
  refine vyes rfl rfl rfl (vxq (vneq rfl rfl) rfl rfl ?_)
  refine vknow (d := 37) (b' := false) rfl (by decide) ?_
  refine vone rfl (vxq (vpkf rfl rfl) rfl rfl ?_)
  refine vnil ?_
  refine vcondf rfl ?_
  refine vskip ?_
  refine vseq ?_
  refine vregion ?_
  refine vone rfl (vxq (vldn rfl rfl) rfl rfl ?_)
  refine vone rfl (vxq (vldn rfl rfl) rfl rfl ?_)
  refine vone rfl (vxq (vcp rfl rfl rfl ((c_Meet a b).reR h1)) rfl rfl ?_)
  refine vone rfl (vxq (vmv rfl) rfl rfl ?_)
  refine vone rfl (vxq (vex rfl rfl) rfl rfl ?_)
  refine vone rfl (vxq (vex rfl rfl) rfl rfl ?_)
  refine vone rfl (vxa valloc rfl rfl (fun b4 => ?_))
  refine vone rfl (vxs (vstn rfl rfl rfl rfl rfl) rfl ?_)
  refine vone rfl (vxq (vas rfl) rfl rfl ?_)
  refine vnil ?_
  refine vseq ?_
  refine vregion ?_
  refine vone rfl (vxq (vldn rfl rfl) rfl rfl ?_)
  refine vone rfl (vxq (vldn rfl rfl) rfl rfl ?_)
  refine vone rfl (vxq (vcp rfl rfl rfl ((c_Meet b a).reR h2)) rfl rfl ?_)
  refine vone rfl (vxq (vmv rfl) rfl rfl ?_)
  refine vone rfl (vxq (vex rfl rfl) rfl rfl ?_)
  refine vone rfl (vxq (vex rfl rfl) rfl rfl ?_)
  refine vone rfl (vxa valloc rfl rfl (fun b5 => ?_))
  refine vone rfl (vxs (vstn rfl rfl rfl rfl rfl) rfl ?_)
  refine vone rfl (vxq (vas rfl) rfl rfl ?_)
  refine vnil ?_
  refine vseq ?_
  refine vregion ?_
  refine vone rfl (vxq (vldn rfl rfl) rfl rfl ?_)
  refine vone rfl (vxq (vldn rfl rfl) rfl rfl ?_)
  refine vone rfl (vxq (vcp rfl rfl rfl ((c_Join a b).reR h3)) rfl rfl ?_)
  refine vone rfl (vxq (vmv rfl) rfl rfl ?_)
  refine vone rfl (vxq (vex rfl rfl) rfl rfl ?_)
  refine vone rfl (vxq (vex rfl rfl) rfl rfl ?_)
  refine vone rfl (vxa valloc rfl rfl (fun b6 => ?_))
  refine vone rfl (vxs (vstn rfl rfl rfl rfl rfl) rfl ?_)
  refine vone rfl (vxq (vas rfl) rfl rfl ?_)
  refine vnil ?_
  refine vseq ?_
  refine vregion ?_
  refine vone rfl (vxq (vldn rfl rfl) rfl rfl ?_)
  refine vone rfl (vxq (vldn rfl rfl) rfl rfl ?_)
  refine vone rfl (vxq (vcp rfl rfl rfl ((c_Join b a).reR h4)) rfl rfl ?_)
  refine vone rfl (vxq (vmv rfl) rfl rfl ?_)
  refine vone rfl (vxq (vex rfl rfl) rfl rfl ?_)
  refine vone rfl (vxq (vex rfl rfl) rfl rfl ?_)
  refine vone rfl (vxa valloc rfl rfl (fun b7 => ?_))
  refine vone rfl (vxs (vstn rfl rfl rfl rfl rfl) rfl ?_)
  refine vone rfl (vxq (vas rfl) rfl rfl ?_)
  refine vnil ?_
  refine vseq ?_
  refine vseq ?_
  refine vregion ?_
  refine vone rfl (vxq (vldn rfl rfl) rfl rfl ?_)
  refine vone rfl (vxq (vldn rfl rfl) rfl rfl ?_)
  refine vone rfl (vxq (vnes rfl rfl rfl rfl rfl rfl) rfl rfl ?_)
  refine vknow (d := 66) (b' := false) rfl (decide_eq_false (fun h => h rfl)) ?_
  refine vone rfl (vxq (vmv rfl) rfl rfl ?_)
  refine vyes rfl rfl rfl (vxq (vmv rfl) rfl rfl ?_)
  refine vyes rfl rfl rfl (vxq (vmv rfl) rfl rfl ?_)
  refine vyes rfl rfl rfl (vxq (vneq rfl rfl) rfl rfl ?_)
  refine vknow (d := 70) (b' := false) rfl (decide_eq_false (fun h => h rfl)) ?_
  refine vone rfl (vxq (vpkf rfl rfl) rfl rfl ?_)
  refine vone rfl (vxq (vmv rfl) rfl rfl ?_)
  refine vyes rfl rfl rfl (vxq (vldn rfl rfl) rfl rfl ?_)
  refine vyes rfl rfl rfl (vxq (vldn rfl rfl) rfl rfl ?_)
  refine vyes rfl rfl rfl (vxq (vnes rfl rfl rfl rfl rfl rfl) rfl rfl ?_)
  refine vknow (d := 75) (b' := false) rfl (decide_eq_false (fun h => h rfl)) ?_
  refine vone rfl (vxq (vpkf rfl rfl) rfl rfl ?_)
  refine vone rfl (vxq (vmv rfl) rfl rfl ?_)
  refine vyes rfl rfl rfl (vxq (vmv rfl) rfl rfl ?_)
  refine vyes rfl rfl rfl (vxq (vmv rfl) rfl rfl ?_)
  refine vyes rfl rfl rfl (vxq (vneq rfl rfl) rfl rfl ?_)
  refine vknow (d := 80) (b' := false) rfl (decide_eq_false (fun h => h rfl)) ?_
  refine vone rfl (vxq (vpkf rfl rfl) rfl rfl ?_)
  refine vnil ?_
  refine vcondf rfl ?_
  refine vskip ?_
  refine vseq ?_
  refine vseq ?_
  refine vregion ?_
  refine vone rfl (vxq (vmv rfl) rfl rfl ?_)
  refine vone rfl (vxq (veql rfl rfl) rfl rfl ?_)
  refine vknow (d := 83) (b' := false) rfl (by decide) ?_
  refine vnil ?_
  refine vcondf rfl ?_
  refine vseq ?_
  refine vregion ?_
  refine vone rfl (vxq (vmv rfl) rfl rfl ?_)
  refine vone rfl (vxq (vneq rfl rfl) rfl rfl ?_)
  refine vknow (d := 101) (b' := false) rfl (by decide) ?_
  refine vone rfl (vxq (vmv rfl) rfl rfl ?_)
  refine vyes rfl rfl rfl (vxq (vmv rfl) rfl rfl ?_)
  refine vyes rfl rfl rfl (vxq (vmv rfl) rfl rfl ?_)
  refine vsplit (d := 104) rfl (fun h104 => ?_) (fun h104 => ?_)
  · skip
    refine vyes rfl rfl rfl (vxq (vmv rfl) rfl rfl ?_)
    refine vknow (d := 105) (b' := false) rfl (by simpa [h104] using hxy) ?_
    refine vyes rfl rfl rfl (vxq (vpkt rfl rfl) rfl rfl ?_)
    refine vone rfl (vxq (vpkf rfl rfl) rfl rfl ?_)
    refine vnil ?_
    refine vcondf rfl ?_
    refine vskip ?_
    refine vseq ?_
    refine vseq ?_
    refine vregion ?_
    refine vone rfl (vxq (vmv rfl) rfl rfl ?_)
    refine vone rfl (vxq (vneq rfl rfl) rfl rfl ?_)
    refine vknow (d := 109) (b' := false) rfl (by decide) ?_
    refine vnil ?_
    refine vcondf rfl ?_
    refine vskip ?_
    refine vseq ?_
    refine vregion ?_
    refine vone rfl (vxq (vldn rfl rfl) rfl rfl ?_)
    refine vone rfl (vxq (vldn rfl rfl) rfl rfl ?_)
    refine vone rfl (vxq (vcp rfl rfl rfl ((c_Has j p).reT h6)) rfl rfl ?_)
    refine vone rfl (vxq (vmv rfl) rfl rfl ?_)
    refine vone rfl (vxq (vex rfl rfl) rfl rfl ?_)
    refine vone rfl (vxq (vex rfl rfl) rfl rfl ?_)
    refine vone rfl (vxq (vas rfl) rfl rfl ?_)
    refine vone rfl (vxq (vas rfl) rfl rfl ?_)
    refine vnil ?_
    refine vseq ?_
    refine vregion ?_
    refine vone rfl (vxq (vmv rfl) rfl rfl ?_)
    refine vone rfl (vxq (veql rfl rfl) rfl rfl ?_)
    refine vknow (d := 130) (b' := true) rfl (by decide) ?_
    refine vone rfl (vxq (vmv rfl) rfl rfl ?_)
    refine vyes rfl rfl rfl (vxq (vmv rfl) rfl rfl ?_)
    refine vyes rfl rfl rfl (vxq (vmv rfl) rfl rfl ?_)
    refine vsplit (d := 133) rfl (fun h133 => ?_) (fun h133 => ?_)
    · skip
      refine vno rfl rfl rfl rfl rfl ?_
      refine vno rfl rfl rfl rfl rfl ?_
      refine vno rfl rfl rfl rfl rfl ?_
      refine vnou rfl rfl rfl rfl rfl ?_
      refine vnou rfl rfl rfl rfl rfl ?_
      refine vno rfl rfl rfl rfl rfl ?_
      refine vyes rfl rfl rfl (vxq (vpkt rfl rfl) rfl rfl ?_)
      refine vone rfl (vxq (vpkt rfl rfl) rfl rfl ?_)
      refine vone rfl (vxq (vmv rfl) rfl rfl ?_)
      refine vyes rfl rfl rfl (vxq (vcp rfl rfl rfl (c_works)) rfl rfl ?_)
      refine vone rfl (vxq (vpkt rfl rfl) rfl rfl ?_)
      refine vone rfl (vxq (vas rfl) rfl rfl ?_)
      refine vnil ?_
      refine vret (vr1 (H' := H) Try.func11 rfl (.tmp rfl) (by repeat first | exact .refl _ | refine .cons_cons _ ?_ | refine .cons _ ?_ | exact sl0 _ | refine slA ?_) ?_)
      exact ⟨rfl, rfl⟩
    · skip
      refine vyes rfl rfl rfl (vxq (vmv rfl) rfl rfl ?_)
      refine vknow (d := 134) (b' := false) rfl (by cases x; rfl; simp [h133] at hz) ?_
      refine vyes rfl rfl rfl (vxq (vnot rfl) rfl rfl ?_)
      refine vyes rfl rfl rfl (vxq (vmv rfl) rfl rfl ?_)
      refine vyes rfl rfl rfl (vxq (vmv rfl) rfl rfl ?_)
      refine vknow (d := 137) (b' := false) rfl (by cases y; rfl; simp [h133] at hz) ?_
      refine vyes rfl rfl rfl (vxq (vnot rfl) rfl rfl ?_)
      refine vyes rfl rfl rfl (vxq (vpkt rfl rfl) rfl rfl ?_)
      refine vyes rfl rfl rfl (vxq (vpkf rfl rfl) rfl rfl ?_)
      refine vone rfl (vxq (vpkt rfl rfl) rfl rfl ?_)
      refine vone rfl (vxq (vmv rfl) rfl rfl ?_)
      refine vyes rfl rfl rfl (vxq (vcp rfl rfl rfl (c_works)) rfl rfl ?_)
      refine vone rfl (vxq (vpkt rfl rfl) rfl rfl ?_)
      refine vone rfl (vxq (vas rfl) rfl rfl ?_)
      refine vnil ?_
      refine vret (vr1 (H' := H) Try.func11 rfl (.tmp rfl) (by repeat first | exact .refl _ | refine .cons_cons _ ?_ | refine .cons _ ?_ | exact sl0 _ | refine slA ?_) ?_)
      exact ⟨rfl, rfl⟩
  · skip
    refine vno rfl rfl rfl rfl rfl ?_
    refine vyes rfl rfl rfl (vxq (vpkf rfl rfl) rfl rfl ?_)
    refine vone rfl (vxq (vpkf rfl rfl) rfl rfl ?_)
    refine vnil ?_
    refine vcondf rfl ?_
    refine vskip ?_
    refine vseq ?_
    refine vseq ?_
    refine vregion ?_
    refine vone rfl (vxq (vmv rfl) rfl rfl ?_)
    refine vone rfl (vxq (vneq rfl rfl) rfl rfl ?_)
    refine vknow (d := 109) (b' := false) rfl (by decide) ?_
    refine vnil ?_
    refine vcondf rfl ?_
    refine vskip ?_
    refine vseq ?_
    refine vregion ?_
    refine vone rfl (vxq (vldn rfl rfl) rfl rfl ?_)
    refine vone rfl (vxq (vldn rfl rfl) rfl rfl ?_)
    refine vone rfl (vxq (vcp rfl rfl rfl ((c_Has j p).reT h6)) rfl rfl ?_)
    refine vone rfl (vxq (vmv rfl) rfl rfl ?_)
    refine vone rfl (vxq (vex rfl rfl) rfl rfl ?_)
    refine vone rfl (vxq (vex rfl rfl) rfl rfl ?_)
    refine vone rfl (vxq (vas rfl) rfl rfl ?_)
    refine vone rfl (vxq (vas rfl) rfl rfl ?_)
    refine vnil ?_
    refine vseq ?_
    refine vregion ?_
    refine vone rfl (vxq (vmv rfl) rfl rfl ?_)
    refine vone rfl (vxq (veql rfl rfl) rfl rfl ?_)
    refine vknow (d := 130) (b' := true) rfl (by decide) ?_
    refine vone rfl (vxq (vmv rfl) rfl rfl ?_)
    refine vyes rfl rfl rfl (vxq (vmv rfl) rfl rfl ?_)
    refine vyes rfl rfl rfl (vxq (vmv rfl) rfl rfl ?_)
    refine vsplit (d := 133) rfl (fun h133 => ?_) (fun h133 => ?_)
    · skip
      refine vno rfl rfl rfl rfl rfl ?_
      refine vno rfl rfl rfl rfl rfl ?_
      refine vno rfl rfl rfl rfl rfl ?_
      refine vnou rfl rfl rfl rfl rfl ?_
      refine vnou rfl rfl rfl rfl rfl ?_
      refine vno rfl rfl rfl rfl rfl ?_
      refine vyes rfl rfl rfl (vxq (vpkt rfl rfl) rfl rfl ?_)
      refine vone rfl (vxq (vpkt rfl rfl) rfl rfl ?_)
      refine vone rfl (vxq (vmv rfl) rfl rfl ?_)
      refine vyes rfl rfl rfl (vxq (vcp rfl rfl rfl (c_works)) rfl rfl ?_)
      refine vone rfl (vxq (vpkt rfl rfl) rfl rfl ?_)
      refine vone rfl (vxq (vas rfl) rfl rfl ?_)
      refine vnil ?_
      refine vret (vr1 (H' := H) Try.func11 rfl (.tmp rfl) (by repeat first | exact .refl _ | refine .cons_cons _ ?_ | refine .cons _ ?_ | exact sl0 _ | refine slA ?_) ?_)
      exact ⟨rfl, rfl⟩
    · skip
      refine vyes rfl rfl rfl (vxq (vmv rfl) rfl rfl ?_)
      refine vknow (d := 134) (b' := false) rfl (by cases x; rfl; simp [h133] at hz) ?_
      refine vyes rfl rfl rfl (vxq (vnot rfl) rfl rfl ?_)
      refine vyes rfl rfl rfl (vxq (vmv rfl) rfl rfl ?_)
      refine vyes rfl rfl rfl (vxq (vmv rfl) rfl rfl ?_)
      refine vknow (d := 137) (b' := false) rfl (by cases y; rfl; simp [h133] at hz) ?_
      refine vyes rfl rfl rfl (vxq (vnot rfl) rfl rfl ?_)
      refine vyes rfl rfl rfl (vxq (vpkt rfl rfl) rfl rfl ?_)
      refine vyes rfl rfl rfl (vxq (vpkf rfl rfl) rfl rfl ?_)
      refine vone rfl (vxq (vpkt rfl rfl) rfl rfl ?_)
      refine vone rfl (vxq (vmv rfl) rfl rfl ?_)
      refine vyes rfl rfl rfl (vxq (vcp rfl rfl rfl (c_works)) rfl rfl ?_)
      refine vone rfl (vxq (vpkt rfl rfl) rfl rfl ?_)
      refine vone rfl (vxq (vas rfl) rfl rfl ?_)
      refine vnil ?_
      refine vret (vr1 (H' := H) Try.func11 rfl (.tmp rfl) (by repeat first | exact .refl _ | refine .cons_cons _ ?_ | refine .cons _ ?_ | exact sl0 _ | refine slA ?_) ?_)
      exact ⟨rfl, rfl⟩
/-- paravane/paravanelaw01.RegionBoth -/
theorem l_Both3 (a b : Rg) (p : Pt) (hA : hasE a p = (false, 0)) (hB : hasE b p = (false, 0)) (m j : Rg) (h1 : meetE a b = (m, 4)) (h2 : meetE b a = (m, 4)) (h3 : joinE a b = (j, 4)) (h4 : joinE b a = (j, 4)) (H : Heap) : VHas Try.prog 11 [vR a, vR b, vP p] (.bool true) H H := by
  refine vcall_of_vrun Try.func11 rfl (N := 145) rfl rfl ?_
  refine vseq ?_
  refine vregion ?_
  refine vone rfl (vxa (vbox rfl rfl) rfl rfl (fun b1 => ?_))
  refine vone rfl (vxa (vbox rfl rfl) rfl rfl (fun b2 => ?_))
  refine vone rfl (vxa (vbox rfl rfl) rfl rfl (fun b3 => ?_))
  refine vone rfl (vxq (vas rfl) rfl rfl ?_)
  refine vnil ?_
  refine vseq ?_
  refine vregion ?_
  refine vone rfl (vxq (vldn rfl rfl) rfl rfl ?_)
  refine vone rfl (vxq (vldn rfl rfl) rfl rfl ?_)
  refine vone rfl (vxq (vcp rfl rfl rfl ((c_Has a p).reT hA)) rfl rfl ?_)
  refine vone rfl (vxq (vmv rfl) rfl rfl ?_)
  refine vone rfl (vxq (vex rfl rfl) rfl rfl ?_)
  refine vone rfl (vxq (vex rfl rfl) rfl rfl ?_)
  refine vone rfl (vxq (vas rfl) rfl rfl ?_)
  refine vone rfl (vxq (vas rfl) rfl rfl ?_)
  refine vnil ?_
  refine vseq ?_
  refine vregion ?_
  refine vone rfl (vxq (vldn rfl rfl) rfl rfl ?_)
  refine vone rfl (vxq (vldn rfl rfl) rfl rfl ?_)
  refine vone rfl (vxq (vcp rfl rfl rfl ((c_Has b p).reT hB)) rfl rfl ?_)
  refine vone rfl (vxq (vmv rfl) rfl rfl ?_)
  refine vone rfl (vxq (vex rfl rfl) rfl rfl ?_)
  refine vone rfl (vxq (vex rfl rfl) rfl rfl ?_)
  refine vone rfl (vxq (vas rfl) rfl rfl ?_)
  refine vone rfl (vxq (vas rfl) rfl rfl ?_)
  refine vnil ?_
  refine vseq ?_
  refine vseq ?_
  refine vregion ?_
  refine vone rfl (vxq (vmv rfl) rfl rfl ?_)
  refine vone rfl (vxq (vneq rfl rfl) rfl rfl ?_)
  refine vknow (d := 34) (b' := false) rfl (by decide) ?_
  refine vone rfl (vxq (vmv rfl) rfl rfl ?_)
  refine vyes rfl rfl rfl (vxq (vmv rfl) rfl rfl ?_)
  refine vyes rfl rfl rfl (vxq (vneq rfl rfl) rfl rfl ?_)
  refine vknow (d := 37) (b' := false) rfl (by decide) ?_
  refine vone rfl (vxq (vpkf rfl rfl) rfl rfl ?_)
  refine vnil ?_
  refine vcondf rfl ?_
  refine vskip ?_
  refine vseq ?_
  refine vregion ?_
  refine vone rfl (vxq (vldn rfl rfl) rfl rfl ?_)
  refine vone rfl (vxq (vldn rfl rfl) rfl rfl ?_)
  refine vone rfl (vxq (vcp rfl rfl rfl ((c_Meet a b).reR h1)) rfl rfl ?_)
  refine vone rfl (vxq (vmv rfl) rfl rfl ?_)
  refine vone rfl (vxq (vex rfl rfl) rfl rfl ?_)
  refine vone rfl (vxq (vex rfl rfl) rfl rfl ?_)
  refine vone rfl (vxa valloc rfl rfl (fun b4 => ?_))
  refine vone rfl (vxs (vstn rfl rfl rfl rfl rfl) rfl ?_)
  refine vone rfl (vxq (vas rfl) rfl rfl ?_)
  refine vnil ?_
  refine vseq ?_
  refine vregion ?_
  refine vone rfl (vxq (vldn rfl rfl) rfl rfl ?_)
  refine vone rfl (vxq (vldn rfl rfl) rfl rfl ?_)
  refine vone rfl (vxq (vcp rfl rfl rfl ((c_Meet b a).reR h2)) rfl rfl ?_)
  refine vone rfl (vxq (vmv rfl) rfl rfl ?_)
  refine vone rfl (vxq (vex rfl rfl) rfl rfl ?_)
  refine vone rfl (vxq (vex rfl rfl) rfl rfl ?_)
  refine vone rfl (vxa valloc rfl rfl (fun b5 => ?_))
  refine vone rfl (vxs (vstn rfl rfl rfl rfl rfl) rfl ?_)
  refine vone rfl (vxq (vas rfl) rfl rfl ?_)
  refine vnil ?_
  refine vseq ?_
  refine vregion ?_
  refine vone rfl (vxq (vldn rfl rfl) rfl rfl ?_)
  refine vone rfl (vxq (vldn rfl rfl) rfl rfl ?_)
  refine vone rfl (vxq (vcp rfl rfl rfl ((c_Join a b).reR h3)) rfl rfl ?_)
  refine vone rfl (vxq (vmv rfl) rfl rfl ?_)
  refine vone rfl (vxq (vex rfl rfl) rfl rfl ?_)
  refine vone rfl (vxq (vex rfl rfl) rfl rfl ?_)
  refine vone rfl (vxa valloc rfl rfl (fun b6 => ?_))
  refine vone rfl (vxs (vstn rfl rfl rfl rfl rfl) rfl ?_)
  refine vone rfl (vxq (vas rfl) rfl rfl ?_)
  refine vnil ?_
  refine vseq ?_
  refine vregion ?_
  refine vone rfl (vxq (vldn rfl rfl) rfl rfl ?_)
  refine vone rfl (vxq (vldn rfl rfl) rfl rfl ?_)
  refine vone rfl (vxq (vcp rfl rfl rfl ((c_Join b a).reR h4)) rfl rfl ?_)
  refine vone rfl (vxq (vmv rfl) rfl rfl ?_)
  refine vone rfl (vxq (vex rfl rfl) rfl rfl ?_)
  refine vone rfl (vxq (vex rfl rfl) rfl rfl ?_)
  refine vone rfl (vxa valloc rfl rfl (fun b7 => ?_))
  refine vone rfl (vxs (vstn rfl rfl rfl rfl rfl) rfl ?_)
  refine vone rfl (vxq (vas rfl) rfl rfl ?_)
  refine vnil ?_
  refine vseq ?_
  refine vseq ?_
  refine vregion ?_
  refine vone rfl (vxq (vldn rfl rfl) rfl rfl ?_)
  refine vone rfl (vxq (vldn rfl rfl) rfl rfl ?_)
  refine vone rfl (vxq (vnes rfl rfl rfl rfl rfl rfl) rfl rfl ?_)
  refine vknow (d := 66) (b' := false) rfl (decide_eq_false (fun h => h rfl)) ?_
  refine vone rfl (vxq (vmv rfl) rfl rfl ?_)
  refine vyes rfl rfl rfl (vxq (vmv rfl) rfl rfl ?_)
  refine vyes rfl rfl rfl (vxq (vmv rfl) rfl rfl ?_)
  refine vyes rfl rfl rfl (vxq (vneq rfl rfl) rfl rfl ?_)
  refine vknow (d := 70) (b' := false) rfl (decide_eq_false (fun h => h rfl)) ?_
  refine vone rfl (vxq (vpkf rfl rfl) rfl rfl ?_)
  refine vone rfl (vxq (vmv rfl) rfl rfl ?_)
  refine vyes rfl rfl rfl (vxq (vldn rfl rfl) rfl rfl ?_)
  refine vyes rfl rfl rfl (vxq (vldn rfl rfl) rfl rfl ?_)
  refine vyes rfl rfl rfl (vxq (vnes rfl rfl rfl rfl rfl rfl) rfl rfl ?_)
  refine vknow (d := 75) (b' := false) rfl (decide_eq_false (fun h => h rfl)) ?_
  refine vone rfl (vxq (vpkf rfl rfl) rfl rfl ?_)
  refine vone rfl (vxq (vmv rfl) rfl rfl ?_)
  refine vyes rfl rfl rfl (vxq (vmv rfl) rfl rfl ?_)
  refine vyes rfl rfl rfl (vxq (vmv rfl) rfl rfl ?_)
  refine vyes rfl rfl rfl (vxq (vneq rfl rfl) rfl rfl ?_)
  refine vknow (d := 80) (b' := false) rfl (decide_eq_false (fun h => h rfl)) ?_
  refine vone rfl (vxq (vpkf rfl rfl) rfl rfl ?_)
  refine vnil ?_
  refine vcondf rfl ?_
  refine vskip ?_
  refine vseq ?_
  refine vseq ?_
  refine vregion ?_
  refine vone rfl (vxq (vmv rfl) rfl rfl ?_)
  refine vone rfl (vxq (veql rfl rfl) rfl rfl ?_)
  refine vknow (d := 83) (b' := false) rfl (by decide) ?_
  refine vnil ?_
  refine vcondf rfl ?_
  refine vseq ?_
  refine vregion ?_
  refine vone rfl (vxq (vmv rfl) rfl rfl ?_)
  refine vone rfl (vxq (vneq rfl rfl) rfl rfl ?_)
  refine vknow (d := 101) (b' := false) rfl (by decide) ?_
  refine vone rfl (vxq (vmv rfl) rfl rfl ?_)
  refine vyes rfl rfl rfl (vxq (vmv rfl) rfl rfl ?_)
  refine vknow (d := 103) (b' := false) rfl rfl ?_
  refine vyes rfl rfl rfl (vxq (vmv rfl) rfl rfl ?_)
  refine vno rfl rfl rfl rfl rfl ?_
  refine vyes rfl rfl rfl (vxq (vpkf rfl rfl) rfl rfl ?_)
  refine vone rfl (vxq (vpkf rfl rfl) rfl rfl ?_)
  refine vnil ?_
  refine vcondf rfl ?_
  refine vskip ?_
  refine vseq ?_
  refine vseq ?_
  refine vregion ?_
  refine vone rfl (vxq (vmv rfl) rfl rfl ?_)
  refine vone rfl (vxq (vneq rfl rfl) rfl rfl ?_)
  refine vknow (d := 109) (b' := true) rfl (by decide) ?_
  refine vnil ?_
  refine vcondt rfl ?_
  refine vseq ?_
  refine vregion ?_
  refine vone rfl (vxq (vmv rfl) rfl rfl ?_)
  refine vone rfl (vxq (veql rfl rfl) rfl rfl ?_)
  refine vknow (d := 111) (b' := true) rfl (by decide) ?_
  refine vone rfl (vxq (vmv rfl) rfl rfl ?_)
  refine vyes rfl rfl rfl (vxq (vmv rfl) rfl rfl ?_)
  refine vknow (d := 113) (b' := false) rfl rfl ?_
  refine vyes rfl rfl rfl (vxq (vnot rfl) rfl rfl ?_)
  refine vone rfl (vxq (vpkt rfl rfl) rfl rfl ?_)
  refine vone rfl (vxq (vmv rfl) rfl rfl ?_)
  refine vyes rfl rfl rfl (vxq (vmv rfl) rfl rfl ?_)
  refine vknow (d := 117) (b' := false) rfl rfl ?_
  refine vyes rfl rfl rfl (vxq (vnot rfl) rfl rfl ?_)
  refine vone rfl (vxq (vpkt rfl rfl) rfl rfl ?_)
  refine vone rfl (vxq (vmv rfl) rfl rfl ?_)
  refine vyes rfl rfl rfl (vxq (vcp rfl rfl rfl (c_works)) rfl rfl ?_)
  refine vone rfl (vxq (vpkt rfl rfl) rfl rfl ?_)
  refine vone rfl (vxq (vas rfl) rfl rfl ?_)
  refine vnil ?_
  refine vret (vr1 (H' := H) Try.func11 rfl (.tmp rfl) (by repeat first | exact .refl _ | refine .cons_cons _ ?_ | refine .cons _ ?_ | exact sl0 _ | refine slA ?_) ?_)
  exact ⟨rfl, rfl⟩

theorem l_RegionBoth (a b : Rg) (p : Pt) (H : Heap) : VHas Try.prog 11 [vR a, vR b, vP p] (.bool true) H H := by
  rcases has_cases a p with ⟨ha, hp, hA⟩ | ⟨e, he, hA⟩
  · rcases has_cases b p with ⟨hb, _, hB⟩ | ⟨f, hf, hB⟩
    · rcases both_join ha hb hp with ⟨j, z, h3, h4, h6, hz⟩ | ⟨j, h3, h4, x0, y0⟩
      · rcases both_meet ha hb hp with ⟨m, h1, h2, h5⟩ | ⟨m, h1, h2, hxy⟩
        · exact l_Both1 a b p _ _ hA hB m j h1 h2 h5 z h3 h4 h6 hz H
        · exact l_Both2 a b p _ _ hA hB m j h1 h2 hxy z h3 h4 h6 hz H
      · rw [x0] at hA
        rw [y0] at hB
        rcases both_meet ha hb hp with ⟨m, h1, h2, h5⟩ | ⟨m, h1, h2, hxy⟩
        · exfalso
          have hc : joinE a b = optE (hullP (endsOf a ++ endsOf b)) := by unfold joinE; rw [if_pos (chk2_zero.2 ⟨ha, hb⟩)]
          have hm : meetE a b = optE (tightP (a.map2 Bd.cut b)) := by unfold meetE; rw [if_pos (chk2_zero.2 ⟨ha, hb⟩)]
          cases hh : hullP (endsOf a ++ endsOf b) with
          | some w => rw [hh] at hc; rw [h3] at hc; cases hc
          | none =>
            cases ht : tightP (a.map2 Bd.cut b) with
            | none => rw [ht] at hm; rw [h1] at hm; cases hm
            | some w =>
              obtain ⟨q, hq⟩ := tight_ne ht
              exact tight_none.1 (hull_none2.1 hh).1 q (inR_cut.1 hq).1
        · exact l_Both3 a b p hA hB m j h1 h2 h3 h4 H
    · exact l_Both0 a b p _ _ 0 f hA hB (.inr hf) H
  · exact l_Both0 a b p _ _ e (hasE b p).2 hA (by rfl) (.inl he) H

/-- paravane/paravanelaw01.RegionReached -/
theorem l_Reached0 (r t w : Rg) (u v : Pt) (n a b e f : Int) (h1 : tightE r = (t, e)) (h2 : reachE r n = (w, f)) (he : e ≠ 0 ∨ f ≠ 0) (H : Heap) : VHas Try.prog 12 [vR r, .agg [I u.x, I u.y, I v.x, I v.y, I n].toArray, .agg [I a, I b].toArray] (.bool true) H H := by
  refine vcall_of_vrun Try.func12 rfl (N := 152) rfl rfl ?_
  refine vseq ?_
  refine vregion ?_
  refine vone rfl (vxa (vbox rfl rfl) rfl rfl (fun b1 => ?_))
  refine vone rfl (vxa (vbox rfl rfl) rfl rfl (fun b2 => ?_))
  refine vone rfl (vxa (vbox rfl rfl) rfl rfl (fun b3 => ?_))
  refine vone rfl (vxq (vas rfl) rfl rfl ?_)
  refine vnil ?_
  refine vseq ?_
  refine vregion ?_
  refine vone rfl (vxq (vldn rfl rfl) rfl rfl ?_)
  refine vone rfl (vxq (vcp rfl rfl rfl ((c_Tight r).reR h1)) rfl rfl ?_)
  refine vone rfl (vxq (vmv rfl) rfl rfl ?_)
  refine vone rfl (vxq (vex rfl rfl) rfl rfl ?_)
  refine vone rfl (vxq (vex rfl rfl) rfl rfl ?_)
  refine vone rfl (vxa valloc rfl rfl (fun b4 => ?_))
  refine vone rfl (vxs (vstn rfl rfl rfl rfl rfl) rfl ?_)
  refine vone rfl (vxq (vas rfl) rfl rfl ?_)
  refine vnil ?_
  refine vseq ?_
  refine vregion ?_
  refine vone rfl (vxq (vldn rfl rfl) rfl rfl ?_)
  refine vone rfl (vxq (vfa rfl) rfl rfl ?_)
  refine vone rfl (vxq (vld1 rfl rfl) rfl rfl ?_)
  refine vone rfl (vxq (vcp rfl rfl rfl ((c_Reach r n).reR h2)) rfl rfl ?_)
  refine vone rfl (vxq (vmv rfl) rfl rfl ?_)
  refine vone rfl (vxq (vex rfl rfl) rfl rfl ?_)
  refine vone rfl (vxq (vex rfl rfl) rfl rfl ?_)
  refine vone rfl (vxa valloc rfl rfl (fun b5 => ?_))
  refine vone rfl (vxs (vstn rfl rfl rfl rfl rfl) rfl ?_)
  refine vone rfl (vxq (vas rfl) rfl rfl ?_)
  refine vnil ?_
  refine vseq ?_
  refine vseq ?_
  refine vregion ?_
  refine vone rfl (vxq (vmv rfl) rfl rfl ?_)
  refine vone rfl (vxq (vneq rfl rfl) rfl rfl ?_)
  refine vone rfl (vxq (vmv rfl) rfl rfl ?_)
  refine vsplitd (d := 33) rfl (fun h33 => ?_) (fun h33 => ?_)
  · skip
    refine vno rfl rfl rfl rfl rfl ?_
    refine vno rfl rfl rfl rfl rfl ?_
    refine vone rfl (vxq (vpkt rfl rfl) rfl rfl ?_)
    refine vnil ?_
    refine vcondt rfl ?_
    refine vseq ?_
    refine vregion ?_
    refine vone rfl (vxq (vcp rfl rfl rfl (c_works)) rfl rfl ?_)
    refine vone rfl (vxq (vas rfl) rfl rfl ?_)
    refine vnil ?_
    refine vret (vr1 (H' := H) Try.func12 rfl (.tmp rfl) (by repeat first | exact .refl _ | refine .cons_cons _ ?_ | refine .cons _ ?_ | exact sl0 _ | refine slA ?_) ?_)
    exact ⟨rfl, rfl⟩
  · skip
    refine vyes rfl rfl rfl (vxq (vmv rfl) rfl rfl ?_)
    refine vyes rfl rfl rfl (vxq (vneq rfl rfl) rfl rfl ?_)
    refine vknow (d := 35) (b' := true) rfl (decide_eq_true (by rcases he with h | h; exact absurd h h33; exact h)) ?_
    refine vone rfl (vxq (vpkf rfl rfl) rfl rfl ?_)
    refine vnil ?_
    refine vcondt rfl ?_
    refine vseq ?_
    refine vregion ?_
    refine vone rfl (vxq (vcp rfl rfl rfl (c_works)) rfl rfl ?_)
    refine vone rfl (vxq (vas rfl) rfl rfl ?_)
    refine vnil ?_
    refine vret (vr1 (H' := H) Try.func12 rfl (.tmp rfl) (by repeat first | exact .refl _ | refine .cons_cons _ ?_ | refine .cons _ ?_ | exact sl0 _ | refine slA ?_) ?_)
    exact ⟨rfl, rfl⟩

theorem wrap_pt {p v : Pt} (hp : p.ok) (hx : InR v.x) (hy : InR v.y) (hq : (⟨IntKind.i64.wrap (p.x + v.x), IntKind.i64.wrap (p.y + v.y)⟩ : Pt).ok) : (-65536 ≤ v.x ∧ v.x ≤ 65536) ∧ (-65536 ≤ v.y ∧ v.y ≤ 65536) := by
  unfold Pt.ok at *
  unfold InR at *
  simp only [IntKind.wrap_i64] at hq
  omega
theorem reach_fin {t w : Rg} {n : Int} {p v : Pt} (hpo : p.ok) (hx : InR v.x) (hy : InR v.y) (hn : 0 ≤ n) (hw : tightP (wideR t n (farP n)) = some w) (hp : inR t p) (hq : (⟨IntKind.i64.wrap (p.x + v.x), IntKind.i64.wrap (p.y + v.y)⟩ : Pt).ok) (h1 : ¬ n < max v.x (-v.x)) (h2 : ¬ n < max v.y (-v.y)) (h3 : ¬ n * n < v.x * v.x + v.y * v.y) :
    hasE w ⟨IntKind.i64.wrap (p.x + v.x), IntKind.i64.wrap (p.y + v.y)⟩ = (true, 0) := by
  have hv := wrap_pt hpo hx hy hq
  unfold Pt.ok at hpo
  rw [wrap_id (by unfold InR; omega), wrap_id (by unfold InR; omega)] at hq ⊢
  exact reach_has hn hw hp hq (by omega) (by omega) (by omega)

/-- paravane/paravanelaw01.RegionReached -/
theorem l_Reached1 (r t w u' : Rg) (u v : Pt) (n a b : Int) (ha : InR a) (hb : InR b) (hvx : InR v.x) (hvy : InR v.y) (h1 : tightE r = (t, 0)) (h2 : reachE r n = (w, 0)) (h3 : reachE r 0 = (t, 0)) (h4 : reachE r (min 32768 (n + 1)) = (u', 0)) (h5 : meetE w u' = (w, 0)) (ht : TotR t t) (hto : t.ok) (hn : 0 ≤ n ∧ n ≤ 32768) (hw : tightP (wideR t n (farP n)) = some w) (H : Heap) : VHas Try.prog 12 [vR r, .agg [I u.x, I u.y, I v.x, I v.y, I n].toArray, .agg [I a, I b].toArray] (.bool true) H H := by
  refine vcall_of_vrun Try.func12 rfl (N := 152) rfl rfl ?_
  refine vseq ?_
  refine vregion ?_
  refine vone rfl (vxa (vbox rfl rfl) rfl rfl (fun b1 => ?_))
  refine vone rfl (vxa (vbox rfl rfl) rfl rfl (fun b2 => ?_))
  refine vone rfl (vxa (vbox rfl rfl) rfl rfl (fun b3 => ?_))
  refine vone rfl (vxq (vas rfl) rfl rfl ?_)
  refine vnil ?_
  refine vseq ?_
  refine vregion ?_
  refine vone rfl (vxq (vldn rfl rfl) rfl rfl ?_)
  refine vone rfl (vxq (vcp rfl rfl rfl ((c_Tight r).reR h1)) rfl rfl ?_)
  refine vone rfl (vxq (vmv rfl) rfl rfl ?_)
  refine vone rfl (vxq (vex rfl rfl) rfl rfl ?_)
  refine vone rfl (vxq (vex rfl rfl) rfl rfl ?_)
  refine vone rfl (vxa valloc rfl rfl (fun b4 => ?_))
  refine vone rfl (vxs (vstn rfl rfl rfl rfl rfl) rfl ?_)
  refine vone rfl (vxq (vas rfl) rfl rfl ?_)
  refine vnil ?_
  refine vseq ?_
  refine vregion ?_
  refine vone rfl (vxq (vldn rfl rfl) rfl rfl ?_)
  refine vone rfl (vxq (vfa rfl) rfl rfl ?_)
  refine vone rfl (vxq (vld1 rfl rfl) rfl rfl ?_)
  refine vone rfl (vxq (vcp rfl rfl rfl ((c_Reach r n).reR h2)) rfl rfl ?_)
  refine vone rfl (vxq (vmv rfl) rfl rfl ?_)
  refine vone rfl (vxq (vex rfl rfl) rfl rfl ?_)
  refine vone rfl (vxq (vex rfl rfl) rfl rfl ?_)
  refine vone rfl (vxa valloc rfl rfl (fun b5 => ?_))
  refine vone rfl (vxs (vstn rfl rfl rfl rfl rfl) rfl ?_)
  refine vone rfl (vxq (vas rfl) rfl rfl ?_)
  refine vnil ?_
  refine vseq ?_
  refine vseq ?_
  refine vregion ?_
  refine vone rfl (vxq (vmv rfl) rfl rfl ?_)
  refine vone rfl (vxq (vneq rfl rfl) rfl rfl ?_)
  refine vknow (d := 32) (b' := false) rfl (by decide) ?_
  refine vone rfl (vxq (vmv rfl) rfl rfl ?_)
  refine vyes rfl rfl rfl (vxq (vmv rfl) rfl rfl ?_)
  refine vyes rfl rfl rfl (vxq (vneq rfl rfl) rfl rfl ?_)
  refine vknow (d := 35) (b' := false) rfl (by decide) ?_
  refine vone rfl (vxq (vpkf rfl rfl) rfl rfl ?_)
  refine vnil ?_
  refine vcondf rfl ?_
  refine vskip ?_
  refine vseq ?_
  refine vregion ?_
  refine vone rfl (vxq (vldn rfl rfl) rfl rfl ?_)
  refine vone rfl (vxq (vcp rfl rfl rfl ((c_Reach r 0).reR h3)) rfl rfl ?_)
  refine vone rfl (vxq (vmv rfl) rfl rfl ?_)
  refine vone rfl (vxq (vex rfl rfl) rfl rfl ?_)
  refine vone rfl (vxq (vex rfl rfl) rfl rfl ?_)
  refine vone rfl (vxa valloc rfl rfl (fun b6 => ?_))
  refine vone rfl (vxs (vstn rfl rfl rfl rfl rfl) rfl ?_)
  refine vone rfl (vxq (vas rfl) rfl rfl ?_)
  refine vnil ?_
  refine vseq ?_
  refine vregion ?_
  refine vone rfl (vxq (vldn rfl rfl) rfl rfl ?_)
  refine vone rfl (vxq (vfa rfl) rfl rfl ?_)
  refine vone rfl (vxq (vld1 rfl rfl) rfl rfl ?_)
  refine vone rfl (vxq (vadd rfl rfl (by unfold InR; omega)) rfl rfl ?_)
  refine vone rfl (vxq (vmin2 rfl rfl) rfl rfl ?_)
  refine vone rfl (vxq (vcp rfl rfl rfl ((c_Reach r (min 32768 (n + 1))).reR h4)) rfl rfl ?_)
  refine vone rfl (vxq (vmv rfl) rfl rfl ?_)
  refine vone rfl (vxq (vex rfl rfl) rfl rfl ?_)
  refine vone rfl (vxq (vex rfl rfl) rfl rfl ?_)
  refine vone rfl (vxa valloc rfl rfl (fun b7 => ?_))
  refine vone rfl (vxs (vstn rfl rfl rfl rfl rfl) rfl ?_)
  refine vone rfl (vxq (vas rfl) rfl rfl ?_)
  refine vnil ?_
  refine vseq ?_
  refine vregion ?_
  refine vone rfl (vxq (vldn rfl rfl) rfl rfl ?_)
  refine vone rfl (vxq (vldn rfl rfl) rfl rfl ?_)
  refine vone rfl (vxq (vcp rfl rfl rfl ((c_Meet w u').reR h5)) rfl rfl ?_)
  refine vone rfl (vxq (vmv rfl) rfl rfl ?_)
  refine vone rfl (vxq (vex rfl rfl) rfl rfl ?_)
  refine vone rfl (vxq (vex rfl rfl) rfl rfl ?_)
  refine vone rfl (vxa valloc rfl rfl (fun b8 => ?_))
  refine vone rfl (vxs (vstn rfl rfl rfl rfl rfl) rfl ?_)
  refine vone rfl (vxq (vas rfl) rfl rfl ?_)
  refine vnil ?_
  refine vseq ?_
  refine vseq ?_
  refine vregion ?_
  refine vone rfl (vxq (vmv rfl) rfl rfl ?_)
  refine vone rfl (vxq (vneq rfl rfl) rfl rfl ?_)
  refine vknow (d := 59) (b' := false) rfl (by decide) ?_
  refine vone rfl (vxq (vmv rfl) rfl rfl ?_)
  refine vyes rfl rfl rfl (vxq (vmv rfl) rfl rfl ?_)
  refine vyes rfl rfl rfl (vxq (vneq rfl rfl) rfl rfl ?_)
  refine vknow (d := 62) (b' := false) rfl (by decide) ?_
  refine vone rfl (vxq (vpkf rfl rfl) rfl rfl ?_)
  refine vone rfl (vxq (vmv rfl) rfl rfl ?_)
  refine vyes rfl rfl rfl (vxq (vmv rfl) rfl rfl ?_)
  refine vyes rfl rfl rfl (vxq (vneq rfl rfl) rfl rfl ?_)
  refine vknow (d := 66) (b' := false) rfl (by decide) ?_
  refine vone rfl (vxq (vpkf rfl rfl) rfl rfl ?_)
  refine vone rfl (vxq (vmv rfl) rfl rfl ?_)
  refine vyes rfl rfl rfl (vxq (vldn rfl rfl) rfl rfl ?_)
  refine vyes rfl rfl rfl (vxq (vldn rfl rfl) rfl rfl ?_)
  refine vyes rfl rfl rfl (vxq (vnes rfl rfl rfl rfl rfl rfl) rfl rfl ?_)
  refine vknow (d := 71) (b' := false) rfl (decide_eq_false (fun h => h rfl)) ?_
  refine vone rfl (vxq (vpkf rfl rfl) rfl rfl ?_)
  refine vone rfl (vxq (vmv rfl) rfl rfl ?_)
  refine vyes rfl rfl rfl (vxq (vldn rfl rfl) rfl rfl ?_)
  refine vyes rfl rfl rfl (vxq (vldn rfl rfl) rfl rfl ?_)
  refine vyes rfl rfl rfl (vxq (vnes rfl rfl rfl rfl rfl rfl) rfl rfl ?_)
  refine vknow (d := 76) (b' := false) rfl (decide_eq_false (fun h => h rfl)) ?_
  refine vone rfl (vxq (vpkf rfl rfl) rfl rfl ?_)
  refine vnil ?_
  refine vcondf rfl ?_
  refine vskip ?_
  refine vseq ?_
  refine vregion ?_
  refine vone rfl (vxq (vldn rfl rfl) rfl rfl ?_)
  refine vone rfl (vxq (via rfl rfl (by omega)) rfl rfl ?_)
  refine vone rfl (vxq (vld1 rfl rfl) rfl rfl ?_)
  refine vone rfl (vxq (via rfl rfl (by omega)) rfl rfl ?_)
  refine vone rfl (vxq (vld1 rfl rfl) rfl rfl ?_)
  refine vone rfl (vxq (vcp rfl rfl rfl ((c_chosen t a b hto.sm ha hb).reC (cho_is ht a))) rfl rfl ?_)
  refine vone rfl (vxq (vmv rfl) rfl rfl ?_)
  refine vone rfl (vxq (vex rfl rfl) rfl rfl ?_)
  refine vone rfl (vxq (vex rfl rfl) rfl rfl ?_)
  refine vknow (d := 86) (b' := true) rfl rfl ?_
  refine vone rfl (vxa valloc rfl rfl (fun b9 => ?_))
  refine vone rfl (vxs (vstn rfl rfl rfl rfl rfl) rfl ?_)
  refine vone rfl (vxq (vas rfl) rfl rfl ?_)
  refine vnil ?_
  refine vseq ?_
  refine vseq ?_
  refine vregion ?_
  refine vone rfl (vxq (vmv rfl) rfl rfl ?_)
  refine vone rfl (vxq (vnot rfl) rfl rfl ?_)
  refine vnil ?_
  refine vcondf rfl ?_
  refine vskip ?_
  refine vseq ?_
  refine vregion ?_
  refine vone rfl (vxq (vldn rfl rfl) rfl rfl ?_)
  refine vone rfl (vxq (vfa rfl) rfl rfl ?_)
  refine vone rfl (vxq (vldn rfl rfl) rfl rfl ?_)
  refine vone rfl (vxq (vcp rfl rfl rfl (c_plusW (choP t a b) v)) rfl rfl ?_)
  refine vone rfl (vxa valloc rfl rfl (fun b10 => ?_))
  refine vone rfl (vxs (vstn rfl rfl rfl rfl rfl) rfl ?_)
  refine vnil ?_
  refine vseq ?_
  refine vseq ?_
  refine vdraw0 [(.q, 0), (.q, 1), (.q, 2), (.q, 3), (.q, 4), (.q, 5), (.q, 6), (.q, 7), (.q, 8), (.q, 9), (.q, 10), (.q, 11), (.q, 12), (.q, 13), (.q, 14), (.q, 15), (.q, 16), (.q, 17), (.q, 18), (.q, 19), (.q, 20), (.q, 21), (.q, 22), (.q, 23), (.q, 24), (.q, 25), (.q, 26), (.q, 27), (.q, 28), (.q, 29), (.q, 30), (.q, 31), (.q, 32), (.q, 33), (.q, 34), (.q, 35), (.q, 36), (.q, 37), (.q, 38), (.q, 39), (.q, 40), (.q, 41), (.q, 42), (.q, 43)] Try.mixed (by kernel_rfl) (by kernel_rfl) ?_
  refine vdq (mone rfl) (vldn rfl rfl) rfl rfl ?_
  refine vdq (mone rfl) (vcp rfl rfl rfl (c_region_CheckPoint ⟨IntKind.i64.wrap ((choP t a b).x + v.x), IntKind.i64.wrap ((choP t a b).y + v.y)⟩)) rfl rfl ?_
  refine vdq (mone rfl) (vneq rfl rfl) rfl rfl ?_
  refine vdq (mone rfl) (vmv rfl) rfl rfl ?_
  refine vdsplitd (d := 96) rfl (fun h96 => ?_) (fun h96 => ?_)
  · skip
    refine vdno rfl rfl rfl rfl rfl ?_
    refine vdno rfl rfl rfl rfl rfl ?_
    refine vdno rfl rfl rfl rfl rfl ?_
    refine vdno rfl rfl rfl rfl rfl ?_
    refine vdno rfl rfl rfl rfl rfl ?_
    refine vdno rfl rfl rfl rfl rfl ?_
    refine vdno rfl rfl rfl rfl rfl ?_
    refine vdq (mone rfl) (vpkt rfl rfl) rfl rfl ?_
    refine vdq (mone rfl) (vmv rfl) rfl rfl ?_
    refine vdno rfl rfl rfl rfl rfl ?_
    refine vdno rfl rfl rfl rfl rfl ?_
    refine vdno rfl rfl rfl rfl rfl ?_
    refine vdno rfl rfl rfl rfl rfl ?_
    refine vdno rfl rfl rfl rfl rfl ?_
    refine vdno rfl rfl rfl rfl rfl ?_
    refine vdno rfl rfl rfl rfl rfl ?_
    refine vdq (mone rfl) (vpkt rfl rfl) rfl rfl ?_
    refine vdq (mone rfl) (vmv rfl) rfl rfl ?_
    refine vdno rfl rfl rfl rfl rfl ?_
    refine vdno rfl rfl rfl rfl rfl ?_
    refine vdno rfl rfl rfl rfl rfl ?_
    refine vdno rfl rfl rfl rfl rfl ?_
    refine vdno rfl rfl rfl rfl rfl ?_
    refine vdno rfl rfl rfl rfl rfl ?_
    refine vdno rfl rfl rfl rfl rfl ?_
    refine vdno rfl rfl rfl rfl rfl ?_
    refine vdno rfl rfl rfl rfl rfl ?_
    refine vdno rfl rfl rfl rfl rfl ?_
    refine vdno rfl rfl rfl rfl rfl ?_
    refine vdno rfl rfl rfl rfl rfl ?_
    refine vdno rfl rfl rfl rfl rfl ?_
    refine vdno rfl rfl rfl rfl rfl ?_
    refine vdno rfl rfl rfl rfl rfl ?_
    refine vdno rfl rfl rfl rfl rfl ?_
    refine vdno rfl rfl rfl rfl rfl ?_
    refine vdno rfl rfl rfl rfl rfl ?_
    refine vdno rfl rfl rfl rfl rfl ?_
    refine vdno rfl rfl rfl rfl rfl ?_
    refine vdno rfl rfl rfl rfl rfl ?_
    refine vdq (mone rfl) (vpkt rfl rfl) rfl rfl ?_
    refine vdend rfl ?_
    refine vcondt rfl ?_
    refine vseq ?_
    refine vregion ?_
    refine vone rfl (vxq (vcp rfl rfl rfl (c_works)) rfl rfl ?_)
    refine vone rfl (vxq (vas rfl) rfl rfl ?_)
    refine vnil ?_
    refine vret (vr1 (H' := H) Try.func12 rfl (.tmp rfl) (by repeat first | exact .refl _ | refine .cons_cons _ ?_ | refine .cons _ ?_ | exact sl0 _ | refine slA ?_) ?_)
    exact ⟨rfl, rfl⟩
  · skip
    refine vdq (myes rfl rfl rfl) (vfa rfl) rfl rfl ?_
    have hq := chkP_zero.1 (nn h96)
    have hpo := ok_inR hto (cho_in ht a b)
    obtain ⟨hv1, hv2⟩ := wrap_pt hpo hvx hvy hq
    have m1 := sq_bd (m := 65536) hv1
    have m2 := sq_bd (m := 65536) hv2
    have m3 := sq_bd (a := n) (m := 32768) (by omega)
    refine vdq (myes rfl rfl rfl) (vfa rfl) rfl rfl ?_
    refine vdq (myes rfl rfl rfl) (vld1 rfl rfl) rfl rfl ?_
    refine vdq (myes rfl rfl rfl) (vcp rfl rfl rfl (c_Mag v.x (by unfold InR; omega))) rfl rfl ?_
    refine vdq (myes rfl rfl rfl) (vfa rfl) rfl rfl ?_
    refine vdq (myes rfl rfl rfl) (vld1 rfl rfl) rfl rfl ?_
    refine vdq (myes rfl rfl rfl) (vgtr rfl rfl) rfl rfl ?_
    refine vdq (mone rfl) (vpkf rfl rfl) rfl rfl ?_
    refine vdq (mone rfl) (vmv rfl) rfl rfl ?_
    refine vdsplitd (d := 105) rfl (fun h105 => ?_) (fun h105 => ?_)
    · skip
      refine vdno rfl rfl rfl rfl rfl ?_
      refine vdno rfl rfl rfl rfl rfl ?_
      refine vdno rfl rfl rfl rfl rfl ?_
      refine vdno rfl rfl rfl rfl rfl ?_
      refine vdno rfl rfl rfl rfl rfl ?_
      refine vdno rfl rfl rfl rfl rfl ?_
      refine vdno rfl rfl rfl rfl rfl ?_
      refine vdq (mone rfl) (vpkt rfl rfl) rfl rfl ?_
      refine vdq (mone rfl) (vmv rfl) rfl rfl ?_
      refine vdno rfl rfl rfl rfl rfl ?_
      refine vdno rfl rfl rfl rfl rfl ?_
      refine vdno rfl rfl rfl rfl rfl ?_
      refine vdno rfl rfl rfl rfl rfl ?_
      refine vdno rfl rfl rfl rfl rfl ?_
      refine vdno rfl rfl rfl rfl rfl ?_
      refine vdno rfl rfl rfl rfl rfl ?_
      refine vdno rfl rfl rfl rfl rfl ?_
      refine vdno rfl rfl rfl rfl rfl ?_
      refine vdno rfl rfl rfl rfl rfl ?_
      refine vdno rfl rfl rfl rfl rfl ?_
      refine vdno rfl rfl rfl rfl rfl ?_
      refine vdno rfl rfl rfl rfl rfl ?_
      refine vdno rfl rfl rfl rfl rfl ?_
      refine vdno rfl rfl rfl rfl rfl ?_
      refine vdno rfl rfl rfl rfl rfl ?_
      refine vdno rfl rfl rfl rfl rfl ?_
      refine vdno rfl rfl rfl rfl rfl ?_
      refine vdno rfl rfl rfl rfl rfl ?_
      refine vdno rfl rfl rfl rfl rfl ?_
      refine vdno rfl rfl rfl rfl rfl ?_
      refine vdq (mone rfl) (vpkt rfl rfl) rfl rfl ?_
      refine vdend rfl ?_
      refine vcondt rfl ?_
      refine vseq ?_
      refine vregion ?_
      refine vone rfl (vxq (vcp rfl rfl rfl (c_works)) rfl rfl ?_)
      refine vone rfl (vxq (vas rfl) rfl rfl ?_)
      refine vnil ?_
      refine vret (vr1 (H' := H) Try.func12 rfl (.tmp rfl) (by repeat first | exact .refl _ | refine .cons_cons _ ?_ | refine .cons _ ?_ | exact sl0 _ | refine slA ?_) ?_)
      exact ⟨rfl, rfl⟩
    · skip
      refine vdq (myes rfl rfl rfl) (vfa rfl) rfl rfl ?_
      refine vdq (myes rfl rfl rfl) (vfa rfl) rfl rfl ?_
      refine vdq (myes rfl rfl rfl) (vld1 rfl rfl) rfl rfl ?_
      refine vdq (myes rfl rfl rfl) (vcp rfl rfl rfl (c_Mag v.y (by unfold InR; omega))) rfl rfl ?_
      refine vdq (myes rfl rfl rfl) (vfa rfl) rfl rfl ?_
      refine vdq (myes rfl rfl rfl) (vld1 rfl rfl) rfl rfl ?_
      refine vdq (myes rfl rfl rfl) (vgtr rfl rfl) rfl rfl ?_
      refine vdq (mone rfl) (vpkf rfl rfl) rfl rfl ?_
      refine vdq (mone rfl) (vmv rfl) rfl rfl ?_
      refine vdsplitd (d := 114) rfl (fun h114 => ?_) (fun h114 => ?_)
      · skip
        refine vdno rfl rfl rfl rfl rfl ?_
        refine vdno rfl rfl rfl rfl rfl ?_
        refine vdno rfl rfl rfl rfl rfl ?_
        refine vdno rfl rfl rfl rfl rfl ?_
        refine vdno rfl rfl rfl rfl rfl ?_
        refine vdno rfl rfl rfl rfl rfl ?_
        refine vdno rfl rfl rfl rfl rfl ?_
        refine vdno rfl rfl rfl rfl rfl ?_
        refine vdno rfl rfl rfl rfl rfl ?_
        refine vdno rfl rfl rfl rfl rfl ?_
        refine vdno rfl rfl rfl rfl rfl ?_
        refine vdno rfl rfl rfl rfl rfl ?_
        refine vdno rfl rfl rfl rfl rfl ?_
        refine vdno rfl rfl rfl rfl rfl ?_
        refine vdno rfl rfl rfl rfl rfl ?_
        refine vdno rfl rfl rfl rfl rfl ?_
        refine vdno rfl rfl rfl rfl rfl ?_
        refine vdno rfl rfl rfl rfl rfl ?_
        refine vdno rfl rfl rfl rfl rfl ?_
        refine vdno rfl rfl rfl rfl rfl ?_
        refine vdno rfl rfl rfl rfl rfl ?_
        refine vdq (mone rfl) (vpkt rfl rfl) rfl rfl ?_
        refine vdend rfl ?_
        refine vcondt rfl ?_
        refine vseq ?_
        refine vregion ?_
        refine vone rfl (vxq (vcp rfl rfl rfl (c_works)) rfl rfl ?_)
        refine vone rfl (vxq (vas rfl) rfl rfl ?_)
        refine vnil ?_
        refine vret (vr1 (H' := H) Try.func12 rfl (.tmp rfl) (by repeat first | exact .refl _ | refine .cons_cons _ ?_ | refine .cons _ ?_ | exact sl0 _ | refine slA ?_) ?_)
        exact ⟨rfl, rfl⟩
      · skip
        refine vdq (myes rfl rfl rfl) (vfa rfl) rfl rfl ?_
        refine vdq (myes rfl rfl rfl) (vfa rfl) rfl rfl ?_
        refine vdq (myes rfl rfl rfl) (vld1 rfl rfl) rfl rfl ?_
        refine vdq (myes rfl rfl rfl) (vfa rfl) rfl rfl ?_
        refine vdq (myes rfl rfl rfl) (vfa rfl) rfl rfl ?_
        refine vdq (myes rfl rfl rfl) (vld1 rfl rfl) rfl rfl ?_
        refine vdq (myes rfl rfl rfl) (vmul rfl rfl (by unfold InR; omega)) rfl rfl ?_
        refine vdq (myes rfl rfl rfl) (vfa rfl) rfl rfl ?_
        refine vdq (myes rfl rfl rfl) (vfa rfl) rfl rfl ?_
        refine vdq (myes rfl rfl rfl) (vld1 rfl rfl) rfl rfl ?_
        refine vdq (myes rfl rfl rfl) (vfa rfl) rfl rfl ?_
        refine vdq (myes rfl rfl rfl) (vfa rfl) rfl rfl ?_
        refine vdq (myes rfl rfl rfl) (vld1 rfl rfl) rfl rfl ?_
        refine vdq (myes rfl rfl rfl) (vmul rfl rfl (by unfold InR; omega)) rfl rfl ?_
        refine vdq (myes rfl rfl rfl) (vadd rfl rfl (by unfold InR; omega)) rfl rfl ?_
        refine vdq (myes rfl rfl rfl) (vfa rfl) rfl rfl ?_
        refine vdq (myes rfl rfl rfl) (vld1 rfl rfl) rfl rfl ?_
        refine vdq (myes rfl rfl rfl) (vfa rfl) rfl rfl ?_
        refine vdq (myes rfl rfl rfl) (vld1 rfl rfl) rfl rfl ?_
        refine vdq (myes rfl rfl rfl) (vmul rfl rfl (by unfold InR; omega)) rfl rfl ?_
        refine vdq (myes rfl rfl rfl) (vgtr rfl rfl) rfl rfl ?_
        refine vdq (mone rfl) (vpkf rfl rfl) rfl rfl ?_
        refine vdend rfl ?_
        refine vcondd rfl (fun h136 => ?_) (fun h136 => ?_)
        · skip
          refine vseq ?_
          refine vregion ?_
          refine vone rfl (vxq (vcp rfl rfl rfl (c_works)) rfl rfl ?_)
          refine vone rfl (vxq (vas rfl) rfl rfl ?_)
          refine vnil ?_
          refine vret (vr1 (H' := H) Try.func12 rfl (.tmp rfl) (by repeat first | exact .refl _ | refine .cons_cons _ ?_ | refine .cons _ ?_ | exact sl0 _ | refine slA ?_) ?_)
          exact ⟨rfl, rfl⟩
        · skip
          have h6 := reach_fin hpo hvx hvy hn.1 hw (cho_in ht a b) hq h105 h114 h136
          refine vskip ?_
          refine vseq ?_
          refine vregion ?_
          refine vone rfl (vxq (vldn rfl rfl) rfl rfl ?_)
          refine vone rfl (vxq (vldn rfl rfl) rfl rfl ?_)
          refine vone rfl (vxq (vcp rfl rfl rfl ((c_Has w ⟨IntKind.i64.wrap ((choP t a b).x + v.x), IntKind.i64.wrap ((choP t a b).y + v.y)⟩).reT h6)) rfl rfl ?_)
          refine vone rfl (vxq (vmv rfl) rfl rfl ?_)
          refine vone rfl (vxq (vex rfl rfl) rfl rfl ?_)
          refine vknow (d := 142) (b' := true) rfl rfl ?_
          refine vone rfl (vxq (vex rfl rfl) rfl rfl ?_)
          refine vone rfl (vxq (vas rfl) rfl rfl ?_)
          refine vone rfl (vxq (vas rfl) rfl rfl ?_)
          refine vnil ?_
          refine vseq ?_
          refine vregion ?_
          refine vone rfl (vxq (vmv rfl) rfl rfl ?_)
          refine vone rfl (vxq (vmv rfl) rfl rfl ?_)
          refine vyes rfl rfl rfl (vxq (vmv rfl) rfl rfl ?_)
          refine vyes rfl rfl rfl (vxq (veql rfl rfl) rfl rfl ?_)
          refine vknow (d := 147) (b' := true) rfl (by decide) ?_
          refine vone rfl (vxq (vpkt rfl rfl) rfl rfl ?_)
          refine vone rfl (vxq (vmv rfl) rfl rfl ?_)
          refine vyes rfl rfl rfl (vxq (vcp rfl rfl rfl (c_works)) rfl rfl ?_)
          refine vone rfl (vxq (vpkt rfl rfl) rfl rfl ?_)
          refine vone rfl (vxq (vas rfl) rfl rfl ?_)
          refine vnil ?_
          refine vret (vr1 (H' := H) Try.func12 rfl (.tmp rfl) (by repeat first | exact .refl _ | refine .cons_cons _ ?_ | refine .cons _ ?_ | exact sl0 _ | refine slA ?_) ?_)
          exact ⟨rfl, rfl⟩

theorem l_RegionReached (r : Rg) (u v : Pt) (n a b : Int) (hvx : InR v.x) (hvy : InR v.y) (ha : InR a) (hb : InR b) (H : Heap) : VHas Try.prog 12 [vR r, .agg [I u.x, I u.y, I v.x, I v.y, I n].toArray, .agg [I a, I b].toArray] (.bool true) H H := by
  rcases reach_cases r n with ⟨t, w, hr, ht, h1, hn, hw, h2⟩ | ⟨t, e, w, f, h1, h2, he⟩
  · obtain ⟨u', h4, h5⟩ := reach_more hr ht hn hw
    exact l_Reached1 r t w u' u v n a b ha hb hvx hvy h1 h2 (reach_zero hr ht) h4 h5 (totR_self ht) (tight_ok ht hr) hn hw H
  · exact l_Reached0 r t w u v n a b e f h1 h2 he H

/-- paravane/paravanelaw01.RegionSwept -/
theorem l_Swept0 (r t : Rg) (u v : Pt) (n a b c d e : Int) (h1 : tightE r = (t, e)) (he : e ≠ 0) (H : Heap) : VHas Try.prog 13 [vR r, .agg [I u.x, I u.y, I v.x, I v.y, I n].toArray, .agg [I a, I b, I c, I d].toArray] (.bool true) H H := by
  refine vcall_of_vrun Try.func13 rfl (N := 143) rfl rfl ?_
  refine vseq ?_
  refine vregion ?_
  refine vone rfl (vxa (vbox rfl rfl) rfl rfl (fun b1 => ?_))
  refine vone rfl (vxa (vbox rfl rfl) rfl rfl (fun b2 => ?_))
  refine vone rfl (vxa (vbox rfl rfl) rfl rfl (fun b3 => ?_))
  refine vone rfl (vxq (vas rfl) rfl rfl ?_)
  refine vnil ?_
  refine vseq ?_
  refine vregion ?_
  refine vone rfl (vxq (vldn rfl rfl) rfl rfl ?_)
  refine vone rfl (vxq (vcp rfl rfl rfl ((c_Tight r).reR h1)) rfl rfl ?_)
  refine vone rfl (vxq (vmv rfl) rfl rfl ?_)
  refine vone rfl (vxq (vex rfl rfl) rfl rfl ?_)
  refine vone rfl (vxq (vex rfl rfl) rfl rfl ?_)
  refine vone rfl (vxa valloc rfl rfl (fun b4 => ?_))
  refine vone rfl (vxs (vstn rfl rfl rfl rfl rfl) rfl ?_)
  refine vone rfl (vxq (vas rfl) rfl rfl ?_)
  refine vnil ?_
  refine vseq ?_
  refine vseq ?_
  refine vregion ?_
  refine vone rfl (vxq (vmv rfl) rfl rfl ?_)
  refine vone rfl (vxq (vneq rfl rfl) rfl rfl ?_)
  refine vknow (d := 23) (b' := true) rfl (decide_eq_true he) ?_
  refine vone rfl (vxq (vmv rfl) rfl rfl ?_)
  refine vno rfl rfl rfl rfl rfl ?_
  refine vno rfl rfl rfl rfl rfl ?_
  refine vno rfl rfl rfl rfl rfl ?_
  refine vno rfl rfl rfl rfl rfl ?_
  refine vno rfl rfl rfl rfl rfl ?_
  refine vone rfl (vxq (vpkt rfl rfl) rfl rfl ?_)
  refine vone rfl (vxq (vmv rfl) rfl rfl ?_)
  refine vno rfl rfl rfl rfl rfl ?_
  refine vno rfl rfl rfl rfl rfl ?_
  refine vno rfl rfl rfl rfl rfl ?_
  refine vno rfl rfl rfl rfl rfl ?_
  refine vno rfl rfl rfl rfl rfl ?_
  refine vone rfl (vxq (vpkt rfl rfl) rfl rfl ?_)
  refine vnil ?_
  refine vcondt rfl ?_
  refine vseq ?_
  refine vregion ?_
  refine vone rfl (vxq (vcp rfl rfl rfl (c_works)) rfl rfl ?_)
  refine vone rfl (vxq (vas rfl) rfl rfl ?_)
  refine vnil ?_
  refine vret (vr1 (H' := H) Try.func13 rfl (.tmp rfl) (by repeat first | exact .refl _ | refine .cons_cons _ ?_ | refine .cons _ ?_ | exact sl0 _ | refine slA ?_) ?_)
  exact ⟨rfl, rfl⟩
/-- paravane/paravanelaw01.RegionSwept -/
theorem l_Swept1 (r t : Rg) (u v : Pt) (n a b c d : Int) (ha : InR a) (hb : InR b) (hc : InR c) (hd : InR d) (hvx : InR v.x) (hvy : InR v.y) (w : Rg) (h1 : tightE r = (t, 0)) (ht : TotR t t) (hto : t.ok) (h2 : sweptE r u ⟨u.x + (restP c 20) * (restP v.x 2001 - 1000), u.y + (restP c 20) * (restP v.y 2001 - 1000)⟩ = (w, 0)) (h3 : hasE w ⟨(choP t a b).x + u.x + (restP d ((restP c 20) + 1)) * (restP v.x 2001 - 1000), (choP t a b).y + u.y + (restP d ((restP c 20) + 1)) * (restP v.y 2001 - 1000)⟩ = (true, 0)) (H : Heap) : VHas Try.prog 13 [vR r, .agg [I u.x, I u.y, I v.x, I v.y, I n].toArray, .agg [I a, I b, I c, I d].toArray] (.bool true) H H := by
  refine vcall_of_vrun Try.func13 rfl (N := 143) rfl rfl ?_
  refine vseq ?_
  refine vregion ?_
  refine vone rfl (vxa (vbox rfl rfl) rfl rfl (fun b1 => ?_))
  refine vone rfl (vxa (vbox rfl rfl) rfl rfl (fun b2 => ?_))
  refine vone rfl (vxa (vbox rfl rfl) rfl rfl (fun b3 => ?_))
  refine vone rfl (vxq (vas rfl) rfl rfl ?_)
  refine vnil ?_
  refine vseq ?_
  refine vregion ?_
  refine vone rfl (vxq (vldn rfl rfl) rfl rfl ?_)
  refine vone rfl (vxq (vcp rfl rfl rfl ((c_Tight r).reR h1)) rfl rfl ?_)
  refine vone rfl (vxq (vmv rfl) rfl rfl ?_)
  refine vone rfl (vxq (vex rfl rfl) rfl rfl ?_)
  refine vone rfl (vxq (vex rfl rfl) rfl rfl ?_)
  refine vone rfl (vxa valloc rfl rfl (fun b4 => ?_))
  refine vone rfl (vxs (vstn rfl rfl rfl rfl rfl) rfl ?_)
  refine vone rfl (vxq (vas rfl) rfl rfl ?_)
  refine vnil ?_
  refine vseq ?_
  refine vseq ?_
  refine vregion ?_
  refine vone rfl (vxq (vmv rfl) rfl rfl ?_)
  refine vone rfl (vxq (vneq rfl rfl) rfl rfl ?_)
  refine vknow (d := 23) (b' := false) rfl (by decide) ?_
  refine vone rfl (vxq (vmv rfl) rfl rfl ?_)
  refine vyes rfl rfl rfl (vxq (vfa rfl) rfl rfl ?_)
  refine vyes rfl rfl rfl (vxq (vfa rfl) rfl rfl ?_)
  refine vyes rfl rfl rfl (vxq (vld1 rfl rfl) rfl rfl ?_)
  refine vyes rfl rfl rfl (vxq (vcp rfl rfl rfl (c_ref00_Between _ _ _)) rfl rfl ?_)
  refine vyes rfl rfl rfl (vxq (vnotd rfl) rfl rfl ?_)
  refine vone rfl (vxq (vpkf rfl rfl) rfl rfl ?_)
  refine vone rfl (vxq (vmv rfl) rfl rfl ?_)
  refine vsplitd (d := 31) rfl (fun h31 => ?_) (fun h31 => ?_)
  · skip
    refine vno rfl rfl rfl rfl rfl ?_
    refine vno rfl rfl rfl rfl rfl ?_
    refine vno rfl rfl rfl rfl rfl ?_
    refine vno rfl rfl rfl rfl rfl ?_
    refine vno rfl rfl rfl rfl rfl ?_
    refine vone rfl (vxq (vpkt rfl rfl) rfl rfl ?_)
    refine vnil ?_
    refine vcondt rfl ?_
    refine vseq ?_
    refine vregion ?_
    refine vone rfl (vxq (vcp rfl rfl rfl (c_works)) rfl rfl ?_)
    refine vone rfl (vxq (vas rfl) rfl rfl ?_)
    refine vnil ?_
    refine vret (vr1 (H' := H) Try.func13 rfl (.tmp rfl) (by repeat first | exact .refl _ | refine .cons_cons _ ?_ | refine .cons _ ?_ | exact sl0 _ | refine slA ?_) ?_)
    exact ⟨rfl, rfl⟩
  · skip
    refine vyes rfl rfl rfl (vxq (vfa rfl) rfl rfl ?_)
    refine vyes rfl rfl rfl (vxq (vfa rfl) rfl rfl ?_)
    refine vyes rfl rfl rfl (vxq (vld1 rfl rfl) rfl rfl ?_)
    refine vyes rfl rfl rfl (vxq (vcp rfl rfl rfl (c_ref00_Between _ _ _)) rfl rfl ?_)
    refine vyes rfl rfl rfl (vxq (vnotd rfl) rfl rfl ?_)
    refine vone rfl (vxq (vpkf rfl rfl) rfl rfl ?_)
    refine vnil ?_
    refine vcondd rfl (fun h37 => ?_) (fun h37 => ?_)
    · skip
      refine vseq ?_
      refine vregion ?_
      refine vone rfl (vxq (vcp rfl rfl rfl (c_works)) rfl rfl ?_)
      refine vone rfl (vxq (vas rfl) rfl rfl ?_)
      refine vnil ?_
      refine vret (vr1 (H' := H) Try.func13 rfl (.tmp rfl) (by repeat first | exact .refl _ | refine .cons_cons _ ?_ | refine .cons _ ?_ | exact sl0 _ | refine slA ?_) ?_)
      exact ⟨rfl, rfl⟩
    · skip
      refine vskip ?_
      refine vseq ?_
      refine vdraw [(.q, 0), (.q, 1), (.q, 2), (.q, 3), (.q, 4), (.q, 5), (.q, 6), (.q, 7), (.q, 8), (.q, 9), (.q, 10), (.a (blk [.int .i64 0, .int .i64 0] 36), 11), (.s, 12)] Try.mixed (by kernel_rfl) ⟨⟨_, _, _, _, _, rfl, _, inferInstance, rfl⟩, True.intro⟩ ?_
      refine vdq (mone rfl) (vfa rfl) rfl rfl ?_
      refine vdq (mone rfl) (vfa rfl) rfl rfl ?_
      refine vdq (mone rfl) (vld1 rfl rfl) rfl rfl ?_
      refine vdq (mone rfl) (vcp rfl rfl rfl (c_Rest _ _ hvx (by unfold InR; omega))) rfl rfl ?_
      have r1 := rest_bd (n := v.x) (m := 2001) (by omega)
      refine vdq (mone rfl) (vsub rfl rfl (by unfold InR; omega)) rfl rfl ?_
      refine vdq (mone rfl) (vfa rfl) rfl rfl ?_
      refine vdq (mone rfl) (vfa rfl) rfl rfl ?_
      refine vdq (mone rfl) (vld1 rfl rfl) rfl rfl ?_
      refine vdq (mone rfl) (vcp rfl rfl rfl (c_Rest _ _ hvy (by unfold InR; omega))) rfl rfl ?_
      have r2 := rest_bd (n := v.y) (m := 2001) (by omega)
      refine vdq (mone rfl) (vsub rfl rfl (by unfold InR; omega)) rfl rfl ?_
      refine vdq (mone rfl) (vbd rfl rfl) rfl rfl ?_
      refine vda rfl rfl (fun b5 => ?_)
      refine vds (mone rfl) (vstn rfl rfl rfl rfl rfl) rfl ?_
      refine vdend rfl ?_
      refine vseq ?_
      refine vregion ?_
      refine vone rfl (vxq (via rfl rfl (by omega)) rfl rfl ?_)
      refine vone rfl (vxq (vld1 rfl rfl) rfl rfl ?_)
      refine vone rfl (vxq (vcp rfl rfl rfl (c_Rest _ _ hc (by unfold InR; omega))) rfl rfl ?_)
      have r3 := rest_bd (n := c) (m := 20) (by omega)
      refine vone rfl (vxq (vas rfl) rfl rfl ?_)
      refine vnil ?_
      refine vseq ?_
      refine vregion ?_
      refine vone rfl (vxq (via rfl rfl (by omega)) rfl rfl ?_)
      refine vone rfl (vxq (vld1 rfl rfl) rfl rfl ?_)
      refine vone rfl (vxq (vmv rfl) rfl rfl ?_)
      refine vone rfl (vxq (vadd rfl rfl (by unfold InR; omega)) rfl rfl ?_)
      refine vone rfl (vxq (vcp rfl rfl rfl (c_Rest _ _ hd (by unfold InR; omega))) rfl rfl ?_)
      have r4 := rest_bd (n := d) (m := (restP c 20) + 1) (by omega)
      have q1 := mul_rng (a := (restP c 20)) (b := (restP v.x 2001 - 1000)) (m := 19) (s := 1000) (by omega) (by omega)
      have q2 := mul_rng (a := (restP c 20)) (b := (restP v.y 2001 - 1000)) (m := 19) (s := 1000) (by omega) (by omega)
      have q3 := mul_rng (a := (restP d ((restP c 20) + 1))) (b := (restP v.x 2001 - 1000)) (m := 19) (s := 1000) (by omega) (by omega)
      have q4 := mul_rng (a := (restP d ((restP c 20) + 1))) (b := (restP v.y 2001 - 1000)) (m := 19) (s := 1000) (by omega) (by omega)
      refine vone rfl (vxq (vas rfl) rfl rfl ?_)
      refine vnil ?_
      refine vseq ?_
      refine vregion ?_
      refine vone rfl (vxq (vfa rfl) rfl rfl ?_)
      refine vone rfl (vxq (vfa rfl) rfl rfl ?_)
      refine vone rfl (vxq (vld1 rfl rfl) rfl rfl ?_)
      refine vone rfl (vxq (vmv rfl) rfl rfl ?_)
      refine vone rfl (vxq (vfa rfl) rfl rfl ?_)
      refine vone rfl (vxq (vld1 rfl rfl) rfl rfl ?_)
      refine vone rfl (vxq (vmul rfl rfl (by unfold InR; omega)) rfl rfl ?_)
      refine vone rfl (vxq (vadd rfl rfl (by unfold InR; omega)) rfl rfl ?_)
      refine vone rfl (vxq (vfa rfl) rfl rfl ?_)
      refine vone rfl (vxq (vfa rfl) rfl rfl ?_)
      refine vone rfl (vxq (vld1 rfl rfl) rfl rfl ?_)
      refine vone rfl (vxq (vmv rfl) rfl rfl ?_)
      refine vone rfl (vxq (vfa rfl) rfl rfl ?_)
      refine vone rfl (vxq (vld1 rfl rfl) rfl rfl ?_)
      refine vone rfl (vxq (vmul rfl rfl (by unfold InR; omega)) rfl rfl ?_)
      refine vone rfl (vxq (vadd rfl rfl (by unfold InR; omega)) rfl rfl ?_)
      refine vone rfl (vxq (vbd rfl rfl) rfl rfl ?_)
      refine vone rfl (vxa valloc rfl rfl (fun b6 => ?_))
      refine vone rfl (vxs (vstn rfl rfl rfl rfl rfl) rfl ?_)
      refine vnil ?_
      refine vseq ?_
      refine vregion ?_
      refine vone rfl (vxq (vldn rfl rfl) rfl rfl ?_)
      refine vone rfl (vxq (vfa rfl) rfl rfl ?_)
      refine vone rfl (vxq (vldn rfl rfl) rfl rfl ?_)
      refine vone rfl (vxq (vldn rfl rfl) rfl rfl ?_)
      refine vone rfl (vxq (vcp rfl rfl rfl ((c_Swept r u ⟨u.x + (restP c 20) * (restP v.x 2001 - 1000), u.y + (restP c 20) * (restP v.y 2001 - 1000)⟩).reR h2)) rfl rfl ?_)
      refine vone rfl (vxq (vmv rfl) rfl rfl ?_)
      refine vone rfl (vxq (vex rfl rfl) rfl rfl ?_)
      refine vone rfl (vxq (vex rfl rfl) rfl rfl ?_)
      refine vone rfl (vxa valloc rfl rfl (fun b7 => ?_))
      refine vone rfl (vxs (vstn rfl rfl rfl rfl rfl) rfl ?_)
      refine vone rfl (vxq (vas rfl) rfl rfl ?_)
      refine vnil ?_
      refine vseq ?_
      refine vseq ?_
      refine vregion ?_
      refine vone rfl (vxq (vmv rfl) rfl rfl ?_)
      refine vone rfl (vxq (vneq rfl rfl) rfl rfl ?_)
      refine vknow (d := 84) (b' := false) rfl (by decide) ?_
      refine vnil ?_
      refine vcondf rfl ?_
      refine vskip ?_
      refine vseq ?_
      refine vregion ?_
      refine vone rfl (vxq (vldn rfl rfl) rfl rfl ?_)
      refine vone rfl (vxq (via rfl rfl (by omega)) rfl rfl ?_)
      refine vone rfl (vxq (vld1 rfl rfl) rfl rfl ?_)
      refine vone rfl (vxq (via rfl rfl (by omega)) rfl rfl ?_)
      refine vone rfl (vxq (vld1 rfl rfl) rfl rfl ?_)
      refine vone rfl (vxq (vcp rfl rfl rfl ((c_chosen t a b hto.sm ha hb).reC (cho_is ht a))) rfl rfl ?_)
      have hpo := ok_inR hto (cho_in ht a b)
      unfold Pt.ok at hpo
      refine vone rfl (vxq (vmv rfl) rfl rfl ?_)
      refine vone rfl (vxq (vex rfl rfl) rfl rfl ?_)
      refine vone rfl (vxq (vex rfl rfl) rfl rfl ?_)
      refine vknow (d := 103) (b' := true) rfl rfl ?_
      refine vone rfl (vxa valloc rfl rfl (fun b8 => ?_))
      refine vone rfl (vxs (vstn rfl rfl rfl rfl rfl) rfl ?_)
      refine vone rfl (vxq (vas rfl) rfl rfl ?_)
      refine vnil ?_
      refine vseq ?_
      refine vregion ?_
      refine vone rfl (vxq (vldn rfl rfl) rfl rfl ?_)
      refine vone rfl (vxq (vfa rfl) rfl rfl ?_)
      refine vone rfl (vxq (vld1 rfl rfl) rfl rfl ?_)
      refine vone rfl (vxq (vfa rfl) rfl rfl ?_)
      refine vone rfl (vxq (vfa rfl) rfl rfl ?_)
      refine vone rfl (vxq (vld1 rfl rfl) rfl rfl ?_)
      refine vone rfl (vxq (vadd rfl rfl (by unfold InR; omega)) rfl rfl ?_)
      refine vone rfl (vxq (vmv rfl) rfl rfl ?_)
      refine vone rfl (vxq (vfa rfl) rfl rfl ?_)
      refine vone rfl (vxq (vld1 rfl rfl) rfl rfl ?_)
      refine vone rfl (vxq (vmul rfl rfl (by unfold InR; omega)) rfl rfl ?_)
      refine vone rfl (vxq (vadd rfl rfl (by unfold InR; omega)) rfl rfl ?_)
      refine vone rfl (vxq (vfa rfl) rfl rfl ?_)
      refine vone rfl (vxq (vld1 rfl rfl) rfl rfl ?_)
      refine vone rfl (vxq (vfa rfl) rfl rfl ?_)
      refine vone rfl (vxq (vfa rfl) rfl rfl ?_)
      refine vone rfl (vxq (vld1 rfl rfl) rfl rfl ?_)
      refine vone rfl (vxq (vadd rfl rfl (by unfold InR; omega)) rfl rfl ?_)
      refine vone rfl (vxq (vmv rfl) rfl rfl ?_)
      refine vone rfl (vxq (vfa rfl) rfl rfl ?_)
      refine vone rfl (vxq (vld1 rfl rfl) rfl rfl ?_)
      refine vone rfl (vxq (vmul rfl rfl (by unfold InR; omega)) rfl rfl ?_)
      refine vone rfl (vxq (vadd rfl rfl (by unfold InR; omega)) rfl rfl ?_)
      refine vone rfl (vxq (vbd rfl rfl) rfl rfl ?_)
      refine vone rfl (vxq (vcp rfl rfl rfl ((c_Has w ⟨(choP t a b).x + u.x + (restP d ((restP c 20) + 1)) * (restP v.x 2001 - 1000), (choP t a b).y + u.y + (restP d ((restP c 20) + 1)) * (restP v.y 2001 - 1000)⟩).reT h3)) rfl rfl ?_)
      refine vone rfl (vxq (vmv rfl) rfl rfl ?_)
      refine vone rfl (vxq (vex rfl rfl) rfl rfl ?_)
      refine vknow (d := 130) (b' := true) rfl rfl ?_
      refine vone rfl (vxq (vex rfl rfl) rfl rfl ?_)
      refine vone rfl (vxq (vas rfl) rfl rfl ?_)
      refine vone rfl (vxq (vas rfl) rfl rfl ?_)
      refine vnil ?_
      refine vseq ?_
      refine vregion ?_
      refine vone rfl (vxq (vmv rfl) rfl rfl ?_)
      refine vone rfl (vxq (vmv rfl) rfl rfl ?_)
      refine vyes rfl rfl rfl (vxq (vmv rfl) rfl rfl ?_)
      refine vone rfl (vxq (vpkt rfl rfl) rfl rfl ?_)
      refine vone rfl (vxq (vmv rfl) rfl rfl ?_)
      refine vyes rfl rfl rfl (vxq (vmv rfl) rfl rfl ?_)
      refine vyes rfl rfl rfl (vxq (veql rfl rfl) rfl rfl ?_)
      refine vknow (d := 138) (b' := true) rfl (by decide) ?_
      refine vone rfl (vxq (vpkt rfl rfl) rfl rfl ?_)
      refine vone rfl (vxq (vmv rfl) rfl rfl ?_)
      refine vyes rfl rfl rfl (vxq (vcp rfl rfl rfl (c_works)) rfl rfl ?_)
      refine vone rfl (vxq (vpkt rfl rfl) rfl rfl ?_)
      refine vone rfl (vxq (vas rfl) rfl rfl ?_)
      refine vnil ?_
      refine vret (vr1 (H' := H) Try.func13 rfl (.tmp rfl) (by repeat first | exact .refl _ | refine .cons_cons _ ?_ | refine .cons _ ?_ | exact sl0 _ | refine slA ?_) ?_)
      exact ⟨rfl, rfl⟩
/-- paravane/paravanelaw01.RegionSwept -/
theorem l_Swept2 (r t : Rg) (u v : Pt) (n a b c d : Int) (ha : InR a) (hb : InR b) (hc : InR c) (hd : InR d) (hvx : InR v.x) (hvy : InR v.y) (h1 : tightE r = (t, 0)) (h2 : sweptE r u ⟨u.x + (restP c 20) * (restP v.x 2001 - 1000), u.y + (restP c 20) * (restP v.y 2001 - 1000)⟩ = (zR, 7)) (H : Heap) : VHas Try.prog 13 [vR r, .agg [I u.x, I u.y, I v.x, I v.y, I n].toArray, .agg [I a, I b, I c, I d].toArray] (.bool true) H H := by
  refine vcall_of_vrun Try.func13 rfl (N := 143) rfl rfl ?_
  refine vseq ?_
  refine vregion ?_
  refine vone rfl (vxa (vbox rfl rfl) rfl rfl (fun b1 => ?_))
  refine vone rfl (vxa (vbox rfl rfl) rfl rfl (fun b2 => ?_))
  refine vone rfl (vxa (vbox rfl rfl) rfl rfl (fun b3 => ?_))
  refine vone rfl (vxq (vas rfl) rfl rfl ?_)
  refine vnil ?_
  refine vseq ?_
  refine vregion ?_
  refine vone rfl (vxq (vldn rfl rfl) rfl rfl ?_)
  refine vone rfl (vxq (vcp rfl rfl rfl ((c_Tight r).reR h1)) rfl rfl ?_)
  refine vone rfl (vxq (vmv rfl) rfl rfl ?_)
  refine vone rfl (vxq (vex rfl rfl) rfl rfl ?_)
  refine vone rfl (vxq (vex rfl rfl) rfl rfl ?_)
  refine vone rfl (vxa valloc rfl rfl (fun b4 => ?_))
  refine vone rfl (vxs (vstn rfl rfl rfl rfl rfl) rfl ?_)
  refine vone rfl (vxq (vas rfl) rfl rfl ?_)
  refine vnil ?_
  refine vseq ?_
  refine vseq ?_
  refine vregion ?_
  refine vone rfl (vxq (vmv rfl) rfl rfl ?_)
  refine vone rfl (vxq (vneq rfl rfl) rfl rfl ?_)
  refine vknow (d := 23) (b' := false) rfl (by decide) ?_
  refine vone rfl (vxq (vmv rfl) rfl rfl ?_)
  refine vyes rfl rfl rfl (vxq (vfa rfl) rfl rfl ?_)
  refine vyes rfl rfl rfl (vxq (vfa rfl) rfl rfl ?_)
  refine vyes rfl rfl rfl (vxq (vld1 rfl rfl) rfl rfl ?_)
  refine vyes rfl rfl rfl (vxq (vcp rfl rfl rfl (c_ref00_Between _ _ _)) rfl rfl ?_)
  refine vyes rfl rfl rfl (vxq (vnotd rfl) rfl rfl ?_)
  refine vone rfl (vxq (vpkf rfl rfl) rfl rfl ?_)
  refine vone rfl (vxq (vmv rfl) rfl rfl ?_)
  refine vsplitd (d := 31) rfl (fun h31 => ?_) (fun h31 => ?_)
  · skip
    refine vno rfl rfl rfl rfl rfl ?_
    refine vno rfl rfl rfl rfl rfl ?_
    refine vno rfl rfl rfl rfl rfl ?_
    refine vno rfl rfl rfl rfl rfl ?_
    refine vno rfl rfl rfl rfl rfl ?_
    refine vone rfl (vxq (vpkt rfl rfl) rfl rfl ?_)
    refine vnil ?_
    refine vcondt rfl ?_
    refine vseq ?_
    refine vregion ?_
    refine vone rfl (vxq (vcp rfl rfl rfl (c_works)) rfl rfl ?_)
    refine vone rfl (vxq (vas rfl) rfl rfl ?_)
    refine vnil ?_
    refine vret (vr1 (H' := H) Try.func13 rfl (.tmp rfl) (by repeat first | exact .refl _ | refine .cons_cons _ ?_ | refine .cons _ ?_ | exact sl0 _ | refine slA ?_) ?_)
    exact ⟨rfl, rfl⟩
  · skip
    refine vyes rfl rfl rfl (vxq (vfa rfl) rfl rfl ?_)
    refine vyes rfl rfl rfl (vxq (vfa rfl) rfl rfl ?_)
    refine vyes rfl rfl rfl (vxq (vld1 rfl rfl) rfl rfl ?_)
    refine vyes rfl rfl rfl (vxq (vcp rfl rfl rfl (c_ref00_Between _ _ _)) rfl rfl ?_)
    refine vyes rfl rfl rfl (vxq (vnotd rfl) rfl rfl ?_)
    refine vone rfl (vxq (vpkf rfl rfl) rfl rfl ?_)
    refine vnil ?_
    refine vcondd rfl (fun h37 => ?_) (fun h37 => ?_)
    · skip
      refine vseq ?_
      refine vregion ?_
      refine vone rfl (vxq (vcp rfl rfl rfl (c_works)) rfl rfl ?_)
      refine vone rfl (vxq (vas rfl) rfl rfl ?_)
      refine vnil ?_
      refine vret (vr1 (H' := H) Try.func13 rfl (.tmp rfl) (by repeat first | exact .refl _ | refine .cons_cons _ ?_ | refine .cons _ ?_ | exact sl0 _ | refine slA ?_) ?_)
      exact ⟨rfl, rfl⟩
    · skip
      refine vskip ?_
      refine vseq ?_
      refine vdraw [(.q, 0), (.q, 1), (.q, 2), (.q, 3), (.q, 4), (.q, 5), (.q, 6), (.q, 7), (.q, 8), (.q, 9), (.q, 10), (.a (blk [.int .i64 0, .int .i64 0] 36), 11), (.s, 12)] Try.mixed (by kernel_rfl) ⟨⟨_, _, _, _, _, rfl, _, inferInstance, rfl⟩, True.intro⟩ ?_
      refine vdq (mone rfl) (vfa rfl) rfl rfl ?_
      refine vdq (mone rfl) (vfa rfl) rfl rfl ?_
      refine vdq (mone rfl) (vld1 rfl rfl) rfl rfl ?_
      refine vdq (mone rfl) (vcp rfl rfl rfl (c_Rest _ _ hvx (by unfold InR; omega))) rfl rfl ?_
      have r1 := rest_bd (n := v.x) (m := 2001) (by omega)
      refine vdq (mone rfl) (vsub rfl rfl (by unfold InR; omega)) rfl rfl ?_
      refine vdq (mone rfl) (vfa rfl) rfl rfl ?_
      refine vdq (mone rfl) (vfa rfl) rfl rfl ?_
      refine vdq (mone rfl) (vld1 rfl rfl) rfl rfl ?_
      refine vdq (mone rfl) (vcp rfl rfl rfl (c_Rest _ _ hvy (by unfold InR; omega))) rfl rfl ?_
      have r2 := rest_bd (n := v.y) (m := 2001) (by omega)
      refine vdq (mone rfl) (vsub rfl rfl (by unfold InR; omega)) rfl rfl ?_
      refine vdq (mone rfl) (vbd rfl rfl) rfl rfl ?_
      refine vda rfl rfl (fun b5 => ?_)
      refine vds (mone rfl) (vstn rfl rfl rfl rfl rfl) rfl ?_
      refine vdend rfl ?_
      refine vseq ?_
      refine vregion ?_
      refine vone rfl (vxq (via rfl rfl (by omega)) rfl rfl ?_)
      refine vone rfl (vxq (vld1 rfl rfl) rfl rfl ?_)
      refine vone rfl (vxq (vcp rfl rfl rfl (c_Rest _ _ hc (by unfold InR; omega))) rfl rfl ?_)
      have r3 := rest_bd (n := c) (m := 20) (by omega)
      refine vone rfl (vxq (vas rfl) rfl rfl ?_)
      refine vnil ?_
      refine vseq ?_
      refine vregion ?_
      refine vone rfl (vxq (via rfl rfl (by omega)) rfl rfl ?_)
      refine vone rfl (vxq (vld1 rfl rfl) rfl rfl ?_)
      refine vone rfl (vxq (vmv rfl) rfl rfl ?_)
      refine vone rfl (vxq (vadd rfl rfl (by unfold InR; omega)) rfl rfl ?_)
      refine vone rfl (vxq (vcp rfl rfl rfl (c_Rest _ _ hd (by unfold InR; omega))) rfl rfl ?_)
      have r4 := rest_bd (n := d) (m := (restP c 20) + 1) (by omega)
      have q1 := mul_rng (a := (restP c 20)) (b := (restP v.x 2001 - 1000)) (m := 19) (s := 1000) (by omega) (by omega)
      have q2 := mul_rng (a := (restP c 20)) (b := (restP v.y 2001 - 1000)) (m := 19) (s := 1000) (by omega) (by omega)
      have q3 := mul_rng (a := (restP d ((restP c 20) + 1))) (b := (restP v.x 2001 - 1000)) (m := 19) (s := 1000) (by omega) (by omega)
      have q4 := mul_rng (a := (restP d ((restP c 20) + 1))) (b := (restP v.y 2001 - 1000)) (m := 19) (s := 1000) (by omega) (by omega)
      refine vone rfl (vxq (vas rfl) rfl rfl ?_)
      refine vnil ?_
      refine vseq ?_
      refine vregion ?_
      refine vone rfl (vxq (vfa rfl) rfl rfl ?_)
      refine vone rfl (vxq (vfa rfl) rfl rfl ?_)
      refine vone rfl (vxq (vld1 rfl rfl) rfl rfl ?_)
      refine vone rfl (vxq (vmv rfl) rfl rfl ?_)
      refine vone rfl (vxq (vfa rfl) rfl rfl ?_)
      refine vone rfl (vxq (vld1 rfl rfl) rfl rfl ?_)
      refine vone rfl (vxq (vmul rfl rfl (by unfold InR; omega)) rfl rfl ?_)
      refine vone rfl (vxq (vadd rfl rfl (by unfold InR; omega)) rfl rfl ?_)
      refine vone rfl (vxq (vfa rfl) rfl rfl ?_)
      refine vone rfl (vxq (vfa rfl) rfl rfl ?_)
      refine vone rfl (vxq (vld1 rfl rfl) rfl rfl ?_)
      refine vone rfl (vxq (vmv rfl) rfl rfl ?_)
      refine vone rfl (vxq (vfa rfl) rfl rfl ?_)
      refine vone rfl (vxq (vld1 rfl rfl) rfl rfl ?_)
      refine vone rfl (vxq (vmul rfl rfl (by unfold InR; omega)) rfl rfl ?_)
      refine vone rfl (vxq (vadd rfl rfl (by unfold InR; omega)) rfl rfl ?_)
      refine vone rfl (vxq (vbd rfl rfl) rfl rfl ?_)
      refine vone rfl (vxa valloc rfl rfl (fun b6 => ?_))
      refine vone rfl (vxs (vstn rfl rfl rfl rfl rfl) rfl ?_)
      refine vnil ?_
      refine vseq ?_
      refine vregion ?_
      refine vone rfl (vxq (vldn rfl rfl) rfl rfl ?_)
      refine vone rfl (vxq (vfa rfl) rfl rfl ?_)
      refine vone rfl (vxq (vldn rfl rfl) rfl rfl ?_)
      refine vone rfl (vxq (vldn rfl rfl) rfl rfl ?_)
      refine vone rfl (vxq (vcp rfl rfl rfl ((c_Swept r u ⟨u.x + (restP c 20) * (restP v.x 2001 - 1000), u.y + (restP c 20) * (restP v.y 2001 - 1000)⟩).reR h2)) rfl rfl ?_)
      refine vone rfl (vxq (vmv rfl) rfl rfl ?_)
      refine vone rfl (vxq (vex rfl rfl) rfl rfl ?_)
      refine vone rfl (vxq (vex rfl rfl) rfl rfl ?_)
      refine vone rfl (vxa valloc rfl rfl (fun b7 => ?_))
      refine vone rfl (vxs (vstn rfl rfl rfl rfl rfl) rfl ?_)
      refine vone rfl (vxq (vas rfl) rfl rfl ?_)
      refine vnil ?_
      refine vseq ?_
      refine vseq ?_
      refine vregion ?_
      refine vone rfl (vxq (vmv rfl) rfl rfl ?_)
      refine vone rfl (vxq (vneq rfl rfl) rfl rfl ?_)
      refine vknow (d := 84) (b' := true) rfl (by decide) ?_
      refine vnil ?_
      refine vcondt rfl ?_
      refine vseq ?_
      refine vregion ?_
      refine vone rfl (vxq (vmv rfl) rfl rfl ?_)
      refine vone rfl (vxq (veql rfl rfl) rfl rfl ?_)
      refine vknow (d := 86) (b' := true) rfl (by decide) ?_
      refine vone rfl (vxq (vmv rfl) rfl rfl ?_)
      refine vyes rfl rfl rfl (vxq (vldn rfl rfl) rfl rfl ?_)
      refine vyes rfl rfl rfl (vxq (vbd rfl rfl) rfl rfl ?_)
      refine vyes rfl rfl rfl (vxq (veqs rfl rfl rfl rfl rfl rfl) rfl rfl ?_)
      refine vknow (d := 90) (b' := true) rfl (by decide) ?_
      refine vone rfl (vxq (vpkt rfl rfl) rfl rfl ?_)
      refine vone rfl (vxq (vmv rfl) rfl rfl ?_)
      refine vyes rfl rfl rfl (vxq (vcp rfl rfl rfl (c_works)) rfl rfl ?_)
      refine vone rfl (vxq (vpkt rfl rfl) rfl rfl ?_)
      refine vone rfl (vxq (vas rfl) rfl rfl ?_)
      refine vnil ?_
      refine vret (vr1 (H' := H) Try.func13 rfl (.tmp rfl) (by repeat first | exact .refl _ | refine .cons_cons _ ?_ | refine .cons _ ?_ | exact sl0 _ | refine slA ?_) ?_)
      exact ⟨rfl, rfl⟩

theorem l_RegionSwept (r : Rg) (u v : Pt) (n a b c d : Int) (hvx : InR v.x) (hvy : InR v.y) (ha : InR a) (hb : InR b) (hc : InR c) (hd : InR d) (H : Heap) : VHas Try.prog 13 [vR r, .agg [I u.x, I u.y, I v.x, I v.y, I n].toArray, .agg [I a, I b, I c, I d].toArray] (.bool true) H H := by
  rcases tight_cases r with ⟨t, hr, ht, h1⟩ | ⟨e, he, h1⟩
  · have hs := totR_self ht
    have r3 := rest_bd (n := c) (m := 20) (by omega)
    have r4 := rest_bd (n := d) (m := restP c 20 + 1) (by omega)
    rcases swept_cases hr ht u ⟨restP v.x 2001 - 1000, restP v.y 2001 - 1000⟩ (restP c 20) (choP t a b) (cho_in hs a b) with ⟨w, h2, hk⟩ | h2
    · exact l_Swept1 r t u v n a b c d ha hb hc hd hvx hvy w h1 hs (tight_ok ht hr) h2 (hk (restP d (restP c 20 + 1)) (by omega)) H
    · exact l_Swept2 r t u v n a b c d ha hb hc hd hvx hvy h1 h2 H
  · exact l_Swept0 r zR u v n a b c d e h1 he H

end Go.Proofs.Ytffpfcomikcimaa
