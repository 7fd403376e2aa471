/-
  The walks of RegionShift and RegionEnds.
-/
import Derived.Test.YtffpfcomikcimaaWz
namespace Go.Proofs.Ytffpfcomikcimaa
open Go
set_option maxRecDepth 100000
attribute [local irreducible] tightP hullP rootP farP rows endsOf sqL sqP twoE pickL srch cutsOf clashE ofE tightE meetE sumE sweptE reachE cntE extE distE moveE gapE coversE hitE joinE minusE hasE restP rootE inE
/-- paravane/paravanelaw01.RegionShift -/
theorem l_Shift1 (r t m : Rg) (v p : Pt) (n e1 e2 : Int) (g b1 b2 : Bd) (h1 : tightE r = (t, 0)) (h2 : moveE r v = (m, 0)) (h3 : moveE m ⟨-v.x, -v.y⟩ = (t, 0)) (h4 : cntE r = (n, 0)) (h5 : cntE m = (n, 0)) (h6 : gapE r t = (g, 0)) (h7 : gapE m m = (g, 0)) (h8 : distE r p = (b1, e1)) (h9 : distE m ⟨IntKind.i64.wrap (p.x + v.x), IntKind.i64.wrap (p.y + v.y)⟩ = (b2, e2)) (h10 : e1 = 0 → e2 = 0 → b1 = b2) (hv : v.okV) (H : Heap) : VHas Try.prog 7 [vR r, vP v, vP p] (.bool true) H H := by
  unfold Pt.okV at hv
  refine vcall_of_vrun Try.func7 rfl (N := 137) rfl rfl ?_
  refine vseq ?_
  refine vregion ?_
  refine vone rfl (vxa (vbox rfl rfl) rfl rfl (fun b1 => ?_))
  refine vone rfl (vxa (vbox rfl rfl) rfl rfl (fun b2 => ?_))
  refine vone rfl (vxa (vbox rfl rfl) rfl rfl (fun b3 => ?_))
  refine vone rfl (vxq (vas rfl) rfl rfl ?_)
  refine vnil ?_
  refine vseq ?_
  refine vregion ?_
  refine vone rfl (vxq (vldn rfl rfl) rfl rfl ?_)
  refine vone rfl (vxq (vcp rfl rfl rfl ((c_Tight r).reR h1)) rfl rfl ?_)
  refine vone rfl (vxq (vmv rfl) rfl rfl ?_)
  refine vone rfl (vxq (vex rfl rfl) rfl rfl ?_)
  refine vone rfl (vxq (vex rfl rfl) rfl rfl ?_)
  refine vone rfl (vxa valloc rfl rfl (fun b4 => ?_))
  refine vone rfl (vxs (vstn rfl rfl rfl rfl rfl) rfl ?_)
  refine vone rfl (vxq (vas rfl) rfl rfl ?_)
  refine vnil ?_
  refine vseq ?_
  refine vregion ?_
  refine vone rfl (vxq (vldn rfl rfl) rfl rfl ?_)
  refine vone rfl (vxq (vldn rfl rfl) rfl rfl ?_)
  refine vone rfl (vxq (vcp rfl rfl rfl ((c_Move r v).reR h2)) rfl rfl ?_)
  refine vone rfl (vxq (vmv rfl) rfl rfl ?_)
  refine vone rfl (vxq (vex rfl rfl) rfl rfl ?_)
  refine vone rfl (vxq (vex rfl rfl) rfl rfl ?_)
  refine vone rfl (vxa valloc rfl rfl (fun b5 => ?_))
  refine vone rfl (vxs (vstn rfl rfl rfl rfl rfl) rfl ?_)
  refine vone rfl (vxq (vas rfl) rfl rfl ?_)
  refine vnil ?_
  refine vseq ?_
  refine vseq ?_
  refine vregion ?_
  refine vone rfl (vxq (vmv rfl) rfl rfl ?_)
  refine vone rfl (vxq (vneq rfl rfl) rfl rfl ?_)
  refine vknow (d := 29) (b' := false) rfl (by decide) ?_
  refine vone rfl (vxq (vmv rfl) rfl rfl ?_)
  refine vyes rfl rfl rfl (vxq (vmv rfl) rfl rfl ?_)
  refine vyes rfl rfl rfl (vxq (vneq rfl rfl) rfl rfl ?_)
  refine vknow (d := 32) (b' := false) rfl (by decide) ?_
  refine vone rfl (vxq (vpkf rfl rfl) rfl rfl ?_)
  refine vnil ?_
  refine vcondf rfl ?_
  refine vskip ?_
  refine vseq ?_
  refine vregion ?_
  refine vone rfl (vxq (vldn rfl rfl) rfl rfl ?_)
  refine vone rfl (vxq (vfa rfl) rfl rfl ?_)
  refine vone rfl (vxq (vld1 rfl rfl) rfl rfl ?_)
  refine vone rfl (vxq (vneg rfl (by unfold InR; omega)) rfl rfl ?_)
  refine vone rfl (vxq (vfa rfl) rfl rfl ?_)
  refine vone rfl (vxq (vld1 rfl rfl) rfl rfl ?_)
  refine vone rfl (vxq (vneg rfl (by unfold InR; omega)) rfl rfl ?_)
  refine vone rfl (vxq (vbd rfl rfl) rfl rfl ?_)
  refine vone rfl (vxq (vcp rfl rfl rfl ((c_Move m ⟨-v.x, -v.y⟩).reR h3)) rfl rfl ?_)
  refine vone rfl (vxq (vmv rfl) rfl rfl ?_)
  refine vone rfl (vxq (vex rfl rfl) rfl rfl ?_)
  refine vone rfl (vxq (vex rfl rfl) rfl rfl ?_)
  refine vone rfl (vxa valloc rfl rfl (fun b6 => ?_))
  refine vone rfl (vxs (vstn rfl rfl rfl rfl rfl) rfl ?_)
  refine vone rfl (vxq (vas rfl) rfl rfl ?_)
  refine vnil ?_
  refine vseq ?_
  refine vregion ?_
  refine vone rfl (vxq (vldn rfl rfl) rfl rfl ?_)
  refine vone rfl (vxq (vcp rfl rfl rfl ((c_Count r).reI h4)) rfl rfl ?_)
  refine vone rfl (vxq (vmv rfl) rfl rfl ?_)
  refine vone rfl (vxq (vex rfl rfl) rfl rfl ?_)
  refine vone rfl (vxq (vex rfl rfl) rfl rfl ?_)
  refine vone rfl (vxq (vas rfl) rfl rfl ?_)
  refine vone rfl (vxq (vas rfl) rfl rfl ?_)
  refine vnil ?_
  refine vseq ?_
  refine vregion ?_
  refine vone rfl (vxq (vldn rfl rfl) rfl rfl ?_)
  refine vone rfl (vxq (vcp rfl rfl rfl ((c_Count m).reI h5)) rfl rfl ?_)
  refine vone rfl (vxq (vmv rfl) rfl rfl ?_)
  refine vone rfl (vxq (vex rfl rfl) rfl rfl ?_)
  refine vone rfl (vxq (vex rfl rfl) rfl rfl ?_)
  refine vone rfl (vxq (vas rfl) rfl rfl ?_)
  refine vone rfl (vxq (vas rfl) rfl rfl ?_)
  refine vnil ?_
  refine vseq ?_
  refine vseq ?_
  refine vregion ?_
  refine vone rfl (vxq (vmv rfl) rfl rfl ?_)
  refine vone rfl (vxq (vneq rfl rfl) rfl rfl ?_)
  refine vknow (d := 67) (b' := false) rfl (by decide) ?_
  refine vone rfl (vxq (vmv rfl) rfl rfl ?_)
  refine vyes rfl rfl rfl (vxq (vmv rfl) rfl rfl ?_)
  refine vyes rfl rfl rfl (vxq (vneq rfl rfl) rfl rfl ?_)
  refine vknow (d := 70) (b' := false) rfl (by decide) ?_
  refine vone rfl (vxq (vpkf rfl rfl) rfl rfl ?_)
  refine vone rfl (vxq (vmv rfl) rfl rfl ?_)
  refine vyes rfl rfl rfl (vxq (vmv rfl) rfl rfl ?_)
  refine vyes rfl rfl rfl (vxq (vneq rfl rfl) rfl rfl ?_)
  refine vknow (d := 74) (b' := false) rfl (by decide) ?_
  refine vone rfl (vxq (vpkf rfl rfl) rfl rfl ?_)
  refine vone rfl (vxq (vmv rfl) rfl rfl ?_)
  refine vyes rfl rfl rfl (vxq (vldn rfl rfl) rfl rfl ?_)
  refine vyes rfl rfl rfl (vxq (vldn rfl rfl) rfl rfl ?_)
  refine vyes rfl rfl rfl (vxq (vnes rfl rfl rfl rfl rfl rfl) rfl rfl ?_)
  refine vknow (d := 79) (b' := false) rfl (decide_eq_false (fun h => h rfl)) ?_
  refine vone rfl (vxq (vpkf rfl rfl) rfl rfl ?_)
  refine vone rfl (vxq (vmv rfl) rfl rfl ?_)
  refine vyes rfl rfl rfl (vxq (vmv rfl) rfl rfl ?_)
  refine vyes rfl rfl rfl (vxq (vmv rfl) rfl rfl ?_)
  refine vyes rfl rfl rfl (vxq (vneq rfl rfl) rfl rfl ?_)
  refine vknow (d := 84) (b' := false) rfl (decide_eq_false (fun h => h rfl)) ?_
  refine vone rfl (vxq (vpkf rfl rfl) rfl rfl ?_)
  refine vnil ?_
  refine vcondf rfl ?_
  refine vskip ?_
  refine vseq ?_
  refine vregion ?_
  refine vone rfl (vxq (vldn rfl rfl) rfl rfl ?_)
  refine vone rfl (vxq (vldn rfl rfl) rfl rfl ?_)
  refine vone rfl (vxq (vcp rfl rfl rfl ((c_Gap r t).reB h6)) rfl rfl ?_)
  refine vone rfl (vxq (vmv rfl) rfl rfl ?_)
  refine vone rfl (vxq (vex rfl rfl) rfl rfl ?_)
  refine vone rfl (vxq (vex rfl rfl) rfl rfl ?_)
  refine vone rfl (vxa valloc rfl rfl (fun b7 => ?_))
  refine vone rfl (vxs (vstn rfl rfl rfl rfl rfl) rfl ?_)
  refine vone rfl (vxq (vas rfl) rfl rfl ?_)
  refine vnil ?_
  refine vseq ?_
  refine vregion ?_
  refine vone rfl (vxq (vldn rfl rfl) rfl rfl ?_)
  refine vone rfl (vxq (vldn rfl rfl) rfl rfl ?_)
  refine vone rfl (vxq (vcp rfl rfl rfl ((c_Gap m m).reB h7)) rfl rfl ?_)
  refine vone rfl (vxq (vmv rfl) rfl rfl ?_)
  refine vone rfl (vxq (vex rfl rfl) rfl rfl ?_)
  refine vone rfl (vxq (vex rfl rfl) rfl rfl ?_)
  refine vone rfl (vxa valloc rfl rfl (fun b8 => ?_))
  refine vone rfl (vxs (vstn rfl rfl rfl rfl rfl) rfl ?_)
  refine vone rfl (vxq (vas rfl) rfl rfl ?_)
  refine vnil ?_
  refine vseq ?_
  refine vseq ?_
  refine vregion ?_
  refine vone rfl (vxq (vmv rfl) rfl rfl ?_)
  refine vone rfl (vxq (vneq rfl rfl) rfl rfl ?_)
  refine vknow (d := 99) (b' := false) rfl (by decide) ?_
  refine vone rfl (vxq (vmv rfl) rfl rfl ?_)
  refine vyes rfl rfl rfl (vxq (vmv rfl) rfl rfl ?_)
  refine vyes rfl rfl rfl (vxq (vneq rfl rfl) rfl rfl ?_)
  refine vknow (d := 102) (b' := false) rfl (by decide) ?_
  refine vone rfl (vxq (vpkf rfl rfl) rfl rfl ?_)
  refine vone rfl (vxq (vmv rfl) rfl rfl ?_)
  refine vyes rfl rfl rfl (vxq (vldn rfl rfl) rfl rfl ?_)
  refine vyes rfl rfl rfl (vxq (vldn rfl rfl) rfl rfl ?_)
  refine vyes rfl rfl rfl (vxq (vnes rfl rfl rfl rfl rfl rfl) rfl rfl ?_)
  refine vknow (d := 107) (b' := false) rfl (decide_eq_false (fun h => h rfl)) ?_
  refine vone rfl (vxq (vpkf rfl rfl) rfl rfl ?_)
  refine vnil ?_
  refine vcondf rfl ?_
  refine vskip ?_
  refine vseq ?_
  refine vregion ?_
  refine vone rfl (vxq (vldn rfl rfl) rfl rfl ?_)
  refine vone rfl (vxq (vldn rfl rfl) rfl rfl ?_)
  refine vone rfl (vxq (vcp rfl rfl rfl ((c_Dist r p).reB h8)) rfl rfl ?_)
  refine vone rfl (vxq (vmv rfl) rfl rfl ?_)
  refine vone rfl (vxq (vex rfl rfl) rfl rfl ?_)
  refine vone rfl (vxq (vex rfl rfl) rfl rfl ?_)
  refine vone rfl (vxs (vstn rfl rfl rfl rfl rfl) rfl ?_)
  refine vone rfl (vxq (vas rfl) rfl rfl ?_)
  refine vnil ?_
  refine vseq ?_
  refine vdraw1 (d := 16) rfl [(.q, 0), (.q, 1), (.q, 2), (.q, 3), (.q, 4), (.q, 5), (.q, 6), (.q, 7), (.s, 8), (.q, 9)] Try.mixed (by kernel_rfl) (allocOk_of _ (by kernel_rfl)) ?_
  refine vdq (mone rfl) (vldn rfl rfl) rfl rfl ?_
  refine vdq (mone rfl) (vldn rfl rfl) rfl rfl ?_
  refine vdq (mone rfl) (vldn rfl rfl) rfl rfl ?_
  refine vdq (mone rfl) (vcp rfl rfl rfl (c_plusW p v)) rfl rfl ?_
  refine vdq (mone rfl) (vcp rfl rfl rfl ((c_Dist m ⟨IntKind.i64.wrap (p.x + v.x), IntKind.i64.wrap (p.y + v.y)⟩).reB h9)) rfl rfl ?_
  refine vdq (mone rfl) (vmv rfl) rfl rfl ?_
  refine vdq (mone rfl) (vex rfl rfl) rfl rfl ?_
  refine vdq (mone rfl) (vex rfl rfl) rfl rfl ?_
  refine vds (mone rfl) (vstn rfl rfl rfl rfl rfl) rfl ?_
  refine vdq (mone rfl) (vas rfl) rfl rfl ?_
  refine vdend rfl ?_
  refine vseq ?_
  refine vregion ?_
  refine vone rfl (vxq (vmv rfl) rfl rfl ?_)
  refine vone rfl (vxq (vneq rfl rfl) rfl rfl ?_)
  refine vone rfl (vxq (vmv rfl) rfl rfl ?_)
  refine vsplitd (d := 125) rfl (fun h125 => ?_) (fun h125 => ?_)
  · skip
    refine vno rfl rfl rfl rfl rfl ?_
    refine vno rfl rfl rfl rfl rfl ?_
    refine vone rfl (vxq (vpkt rfl rfl) rfl rfl ?_)
    refine vone rfl (vxq (vmv rfl) rfl rfl ?_)
    refine vno rfl rfl rfl rfl rfl ?_
    refine vno rfl rfl rfl rfl rfl ?_
    refine vno rfl rfl rfl rfl rfl ?_
    refine vone rfl (vxq (vpkt rfl rfl) rfl rfl ?_)
    refine vone rfl (vxq (vmv rfl) rfl rfl ?_)
    refine vyes rfl rfl rfl (vxq (vcp rfl rfl rfl (c_works)) rfl rfl ?_)
    refine vone rfl (vxq (vpkt rfl rfl) rfl rfl ?_)
    refine vone rfl (vxq (vas rfl) rfl rfl ?_)
    refine vnil ?_
    refine vret (vr1 (H' := H) Try.func7 rfl (.tmp rfl) (by repeat first | exact .refl _ | refine .cons_cons _ ?_ | refine .cons _ ?_ | exact sl0 _ | refine slA ?_) ?_)
    exact ⟨rfl, rfl⟩
  · skip
    refine vyes rfl rfl rfl (vxq (vmv rfl) rfl rfl ?_)
    refine vyes rfl rfl rfl (vxq (vneq rfl rfl) rfl rfl ?_)
    refine vone rfl (vxq (vpkf rfl rfl) rfl rfl ?_)
    refine vone rfl (vxq (vmv rfl) rfl rfl ?_)
    refine vsplitd (d := 129) rfl (fun h129 => ?_) (fun h129 => ?_)
    · skip
      refine vno rfl rfl rfl rfl rfl ?_
      refine vno rfl rfl rfl rfl rfl ?_
      refine vno rfl rfl rfl rfl rfl ?_
      refine vone rfl (vxq (vpkt rfl rfl) rfl rfl ?_)
      refine vone rfl (vxq (vmv rfl) rfl rfl ?_)
      refine vyes rfl rfl rfl (vxq (vcp rfl rfl rfl (c_works)) rfl rfl ?_)
      refine vone rfl (vxq (vpkt rfl rfl) rfl rfl ?_)
      refine vone rfl (vxq (vas rfl) rfl rfl ?_)
      refine vnil ?_
      refine vret (vr1 (H' := H) Try.func7 rfl (.tmp rfl) (by repeat first | exact .refl _ | refine .cons_cons _ ?_ | refine .cons _ ?_ | exact sl0 _ | refine slA ?_) ?_)
      exact ⟨rfl, rfl⟩
    · skip
      refine vyes rfl rfl rfl (vxq (vldn rfl rfl) rfl rfl ?_)
      refine vyes rfl rfl rfl (vxq (vldn rfl rfl) rfl rfl ?_)
      refine vyes rfl rfl rfl (vxq (veqs rfl rfl rfl rfl rfl rfl) rfl rfl ?_)
      refine vknow (d := 132) (b' := true) rfl (decide_eq_true (by rw [h10 (nn h125) (nn h129)])) ?_
      refine vone rfl (vxq (vpkf rfl rfl) rfl rfl ?_)
      refine vone rfl (vxq (vmv rfl) rfl rfl ?_)
      refine vyes rfl rfl rfl (vxq (vcp rfl rfl rfl (c_works)) rfl rfl ?_)
      refine vone rfl (vxq (vpkt rfl rfl) rfl rfl ?_)
      refine vone rfl (vxq (vas rfl) rfl rfl ?_)
      refine vnil ?_
      refine vret (vr1 (H' := H) Try.func7 rfl (.tmp rfl) (by repeat first | exact .refl _ | refine .cons_cons _ ?_ | refine .cons _ ?_ | exact sl0 _ | refine slA ?_) ?_)
      exact ⟨rfl, rfl⟩
/-- paravane/paravanelaw01.RegionShift -/
theorem l_Shift0 (r t : Rg) (v p : Pt) (e f : Int) (h1 : tightE r = (t, e)) (h2 : moveE r v = (zR, f)) (hf : f ≠ 0) (H : Heap) : VHas Try.prog 7 [vR r, vP v, vP p] (.bool true) H H := by
  refine vcall_of_vrun Try.func7 rfl (N := 137) rfl rfl ?_
  refine vseq ?_
  refine vregion ?_
  refine vone rfl (vxa (vbox rfl rfl) rfl rfl (fun b1 => ?_))
  refine vone rfl (vxa (vbox rfl rfl) rfl rfl (fun b2 => ?_))
  refine vone rfl (vxa (vbox rfl rfl) rfl rfl (fun b3 => ?_))
  refine vone rfl (vxq (vas rfl) rfl rfl ?_)
  refine vnil ?_
  refine vseq ?_
  refine vregion ?_
  refine vone rfl (vxq (vldn rfl rfl) rfl rfl ?_)
  refine vone rfl (vxq (vcp rfl rfl rfl ((c_Tight r).reR h1)) rfl rfl ?_)
  refine vone rfl (vxq (vmv rfl) rfl rfl ?_)
  refine vone rfl (vxq (vex rfl rfl) rfl rfl ?_)
  refine vone rfl (vxq (vex rfl rfl) rfl rfl ?_)
  refine vone rfl (vxa valloc rfl rfl (fun b4 => ?_))
  refine vone rfl (vxs (vstn rfl rfl rfl rfl rfl) rfl ?_)
  refine vone rfl (vxq (vas rfl) rfl rfl ?_)
  refine vnil ?_
  refine vseq ?_
  refine vregion ?_
  refine vone rfl (vxq (vldn rfl rfl) rfl rfl ?_)
  refine vone rfl (vxq (vldn rfl rfl) rfl rfl ?_)
  refine vone rfl (vxq (vcp rfl rfl rfl ((c_Move r v).reR h2)) rfl rfl ?_)
  refine vone rfl (vxq (vmv rfl) rfl rfl ?_)
  refine vone rfl (vxq (vex rfl rfl) rfl rfl ?_)
  refine vone rfl (vxq (vex rfl rfl) rfl rfl ?_)
  refine vone rfl (vxa valloc rfl rfl (fun b5 => ?_))
  refine vone rfl (vxs (vstn rfl rfl rfl rfl rfl) rfl ?_)
  refine vone rfl (vxq (vas rfl) rfl rfl ?_)
  refine vnil ?_
  refine vseq ?_
  refine vseq ?_
  refine vregion ?_
  refine vone rfl (vxq (vmv rfl) rfl rfl ?_)
  refine vone rfl (vxq (vneq rfl rfl) rfl rfl ?_)
  refine vone rfl (vxq (vmv rfl) rfl rfl ?_)
  refine vsplitd (d := 30) rfl (fun h30 => ?_) (fun h30 => ?_)
  · skip
    refine vno rfl rfl rfl rfl rfl ?_
    refine vno rfl rfl rfl rfl rfl ?_
    refine vone rfl (vxq (vpkt rfl rfl) rfl rfl ?_)
    refine vnil ?_
    refine vcondt rfl ?_
    refine vseq ?_
    refine vregion ?_
    refine vone rfl (vxq (vldn rfl rfl) rfl rfl ?_)
    refine vone rfl (vxq (vbd rfl rfl) rfl rfl ?_)
    refine vone rfl (vxq (veqs rfl rfl rfl rfl rfl rfl) rfl rfl ?_)
    refine vknow (d := 36) (b' := true) rfl (by decide) ?_
    refine vone rfl (vxq (vmv rfl) rfl rfl ?_)
    refine vyes rfl rfl rfl (vxq (vmv rfl) rfl rfl ?_)
    refine vyes rfl rfl rfl (vxq (vneq rfl rfl) rfl rfl ?_)
    refine vknow (d := 39) (b' := true) rfl (decide_eq_true hf) ?_
    refine vone rfl (vxq (vpkt rfl rfl) rfl rfl ?_)
    refine vone rfl (vxq (vmv rfl) rfl rfl ?_)
    refine vyes rfl rfl rfl (vxq (vcp rfl rfl rfl (c_works)) rfl rfl ?_)
    refine vone rfl (vxq (vpkt rfl rfl) rfl rfl ?_)
    refine vone rfl (vxq (vas rfl) rfl rfl ?_)
    refine vnil ?_
    refine vret (vr1 (H' := H) Try.func7 rfl (.tmp rfl) (by repeat first | exact .refl _ | refine .cons_cons _ ?_ | refine .cons _ ?_ | exact sl0 _ | refine slA ?_) ?_)
    exact ⟨rfl, rfl⟩
  · skip
    refine vyes rfl rfl rfl (vxq (vmv rfl) rfl rfl ?_)
    refine vyes rfl rfl rfl (vxq (vneq rfl rfl) rfl rfl ?_)
    refine vknow (d := 32) (b' := true) rfl (decide_eq_true hf) ?_
    refine vone rfl (vxq (vpkf rfl rfl) rfl rfl ?_)
    refine vnil ?_
    refine vcondt rfl ?_
    refine vseq ?_
    refine vregion ?_
    refine vone rfl (vxq (vldn rfl rfl) rfl rfl ?_)
    refine vone rfl (vxq (vbd rfl rfl) rfl rfl ?_)
    refine vone rfl (vxq (veqs rfl rfl rfl rfl rfl rfl) rfl rfl ?_)
    refine vknow (d := 36) (b' := true) rfl (by decide) ?_
    refine vone rfl (vxq (vmv rfl) rfl rfl ?_)
    refine vyes rfl rfl rfl (vxq (vmv rfl) rfl rfl ?_)
    refine vyes rfl rfl rfl (vxq (vneq rfl rfl) rfl rfl ?_)
    refine vknow (d := 39) (b' := true) rfl (decide_eq_true hf) ?_
    refine vone rfl (vxq (vpkt rfl rfl) rfl rfl ?_)
    refine vone rfl (vxq (vmv rfl) rfl rfl ?_)
    refine vyes rfl rfl rfl (vxq (vcp rfl rfl rfl (c_works)) rfl rfl ?_)
    refine vone rfl (vxq (vpkt rfl rfl) rfl rfl ?_)
    refine vone rfl (vxq (vas rfl) rfl rfl ?_)
    refine vnil ?_
    refine vret (vr1 (H' := H) Try.func7 rfl (.tmp rfl) (by repeat first | exact .refl _ | refine .cons_cons _ ?_ | refine .cons _ ?_ | exact sl0 _ | refine slA ?_) ?_)
    exact ⟨rfl, rfl⟩

theorem l_RegionShift (r : Rg) (v p : Pt) (H : Heap) : VHas Try.prog 7 [vR r, vP v, vP p] (.bool true) H H := by
  rcases shift_cases r v with ⟨t, m, hs, h1, h2⟩ | ⟨t, e, f, h1, h2, hf⟩
  · obtain ⟨n, h4, h5⟩ := hs.cnt
    obtain ⟨g, h6, h7⟩ := hs.gap
    obtain ⟨b1, e1, b2, e2, h8, h9, h10⟩ := hs.dist p ⟨IntKind.i64.wrap (p.x + v.x), IntKind.i64.wrap (p.y + v.y)⟩ (fun hp => by
      have hv := hs.vok
      unfold Pt.ok at hp
      unfold Pt.okV at hv
      rw [wrap_id (by unfold InR; omega), wrap_id (by unfold InR; omega)])
    exact l_Shift1 r t m v p n e1 e2 g b1 b2 h1 h2 hs.back h4 h5 h6 h7 h8 h9 h10 hs.vok H
  · exact l_Shift0 r t v p e f h1 h2 hf H

/-- paravane/paravanelaw01.RegionEnds -/
theorem l_Ends1 (r t : Rg) (n a b : Int) (ha : InR a) (hb : InR b) (h1 : tightE r = (t, 0)) (h2 : tightE t = (t, 0)) (h3 : cntE r = (n, 0)) (h4 : cntE t = (n, 0)) (hn : 1 ≤ n) (ht : TotR t t) (hto : t.ok) (h5 : hasE r (choP t a b) = (true, 0)) (H : Heap) : VHas Try.prog 10 [vR r, .agg [I a, I b].toArray] (.bool true) H H := by
  refine vcall_of_vrun Try.func10 rfl (N := 140) rfl rfl ?_
  refine vseq ?_
  refine vregion ?_
  refine vone rfl (vxa (vbox rfl rfl) rfl rfl (fun b1 => ?_))
  refine vone rfl (vxa (vbox rfl rfl) rfl rfl (fun b2 => ?_))
  refine vone rfl (vxq (vas rfl) rfl rfl ?_)
  refine vnil ?_
  refine vseq ?_
  refine vregion ?_
  refine vone rfl (vxq (vldn rfl rfl) rfl rfl ?_)
  refine vone rfl (vxq (vcp rfl rfl rfl ((c_Tight r).reR h1)) rfl rfl ?_)
  refine vone rfl (vxq (vmv rfl) rfl rfl ?_)
  refine vone rfl (vxq (vex rfl rfl) rfl rfl ?_)
  refine vone rfl (vxq (vex rfl rfl) rfl rfl ?_)
  refine vone rfl (vxa valloc rfl rfl (fun b3 => ?_))
  refine vone rfl (vxs (vstn rfl rfl rfl rfl rfl) rfl ?_)
  refine vone rfl (vxq (vas rfl) rfl rfl ?_)
  refine vnil ?_
  refine vseq ?_
  refine vregion ?_
  refine vone rfl (vxq (vldn rfl rfl) rfl rfl ?_)
  refine vone rfl (vxq (vcp rfl rfl rfl ((c_Count r).reI h3)) rfl rfl ?_)
  refine vone rfl (vxq (vmv rfl) rfl rfl ?_)
  refine vone rfl (vxq (vex rfl rfl) rfl rfl ?_)
  refine vone rfl (vxq (vex rfl rfl) rfl rfl ?_)
  refine vone rfl (vxq (vas rfl) rfl rfl ?_)
  refine vone rfl (vxq (vas rfl) rfl rfl ?_)
  refine vnil ?_
  refine vseq ?_
  refine vseq ?_
  refine vregion ?_
  refine vone rfl (vxq (vmv rfl) rfl rfl ?_)
  refine vone rfl (vxq (vneq rfl rfl) rfl rfl ?_)
  refine vknow (d := 30) (b' := false) rfl (by decide) ?_
  refine vnil ?_
  refine vcondf rfl ?_
  refine vskip ?_
  refine vseq ?_
  refine vregion ?_
  refine vone rfl (vxq (vldn rfl rfl) rfl rfl ?_)
  refine vone rfl (vxq (vcp rfl rfl rfl ((c_Tight t).reR h2)) rfl rfl ?_)
  refine vone rfl (vxq (vmv rfl) rfl rfl ?_)
  refine vone rfl (vxq (vex rfl rfl) rfl rfl ?_)
  refine vone rfl (vxq (vex rfl rfl) rfl rfl ?_)
  refine vone rfl (vxa valloc rfl rfl (fun b4 => ?_))
  refine vone rfl (vxs (vstn rfl rfl rfl rfl rfl) rfl ?_)
  refine vone rfl (vxq (vas rfl) rfl rfl ?_)
  refine vnil ?_
  refine vseq ?_
  refine vregion ?_
  refine vone rfl (vxq (vldn rfl rfl) rfl rfl ?_)
  refine vone rfl (vxq (vcp rfl rfl rfl ((c_Count t).reI h4)) rfl rfl ?_)
  refine vone rfl (vxq (vmv rfl) rfl rfl ?_)
  refine vone rfl (vxq (vex rfl rfl) rfl rfl ?_)
  refine vone rfl (vxq (vex rfl rfl) rfl rfl ?_)
  refine vone rfl (vxq (vas rfl) rfl rfl ?_)
  refine vone rfl (vxq (vas rfl) rfl rfl ?_)
  refine vnil ?_
  refine vseq ?_
  refine vseq ?_
  refine vregion ?_
  refine vone rfl (vxq (vmv rfl) rfl rfl ?_)
  refine vone rfl (vxq (vneq rfl rfl) rfl rfl ?_)
  refine vknow (d := 69) (b' := false) rfl (by decide) ?_
  refine vone rfl (vxq (vmv rfl) rfl rfl ?_)
  refine vyes rfl rfl rfl (vxq (vmv rfl) rfl rfl ?_)
  refine vyes rfl rfl rfl (vxq (vneq rfl rfl) rfl rfl ?_)
  refine vknow (d := 72) (b' := false) rfl (by decide) ?_
  refine vone rfl (vxq (vpkf rfl rfl) rfl rfl ?_)
  refine vone rfl (vxq (vmv rfl) rfl rfl ?_)
  refine vyes rfl rfl rfl (vxq (vmv rfl) rfl rfl ?_)
  refine vyes rfl rfl rfl (vxq (vneq rfl rfl) rfl rfl ?_)
  refine vknow (d := 76) (b' := false) rfl (by decide) ?_
  refine vone rfl (vxq (vpkf rfl rfl) rfl rfl ?_)
  refine vone rfl (vxq (vmv rfl) rfl rfl ?_)
  refine vyes rfl rfl rfl (vxq (vldn rfl rfl) rfl rfl ?_)
  refine vyes rfl rfl rfl (vxq (vldn rfl rfl) rfl rfl ?_)
  refine vyes rfl rfl rfl (vxq (vnes rfl rfl rfl rfl rfl rfl) rfl rfl ?_)
  refine vknow (d := 81) (b' := false) rfl (decide_eq_false (fun h => h rfl)) ?_
  refine vone rfl (vxq (vpkf rfl rfl) rfl rfl ?_)
  refine vone rfl (vxq (vmv rfl) rfl rfl ?_)
  refine vyes rfl rfl rfl (vxq (vmv rfl) rfl rfl ?_)
  refine vyes rfl rfl rfl (vxq (vmv rfl) rfl rfl ?_)
  refine vyes rfl rfl rfl (vxq (vneq rfl rfl) rfl rfl ?_)
  refine vknow (d := 86) (b' := false) rfl (decide_eq_false (fun h => h rfl)) ?_
  refine vone rfl (vxq (vpkf rfl rfl) rfl rfl ?_)
  refine vone rfl (vxq (vmv rfl) rfl rfl ?_)
  refine vyes rfl rfl rfl (vxq (vmv rfl) rfl rfl ?_)
  refine vyes rfl rfl rfl (vxq (vlss rfl rfl) rfl rfl ?_)
  refine vknow (d := 90) (b' := false) rfl (decide_eq_false (by omega)) ?_
  refine vone rfl (vxq (vpkf rfl rfl) rfl rfl ?_)
  refine vnil ?_
  refine vcondf rfl ?_
  refine vskip ?_
  refine vseq ?_
  refine vregion ?_
  refine vone rfl (vxq (vldn rfl rfl) rfl rfl ?_)
  refine vone rfl (vxg (vcg rfl rfl rfl (g_ends t _) (fun o H' h => h)) rfl rfl ?_)
  rintro v _ ⟨B, rfl, ⟨ae, ce, rfl, hSe⟩⟩
  refine vone rfl (vxq (vas rfl) rfl rfl ?_)
  refine vnil ?_
  refine vseq ?_
  refine vseq ?_
  refine vregion ?_
  refine vone rfl (vxq (vas rfl) rfl rfl ?_)
  refine vnil ?_
  refine vblock ?_
  refine vwhile (σ := Nat) (fun i => 8 - i) (fun i => [(2, ptr b1), (3, ptr b2), (4, .bool false), (5, ptr b3), (12, sli (some ae) 8 ce), (13, I (i : Int))]) (fun i => B ++ (b4, blk (clR t) 25) :: (b3, blk (clR t) 25) :: (b2, blk [I a, I b] 67) :: (b1, blk (clR r) 25) :: H) (fun i => i ≤ 8) 0 (by omega) ⟨rfl, rfl, rfl, rfl, rfl, rfl, True.intro⟩ (by repeat first | exact .refl _ | refine .cons_cons _ ?_ | refine .cons _ ?_ | exact sl0 _ | refine slA ?_) ?_
  rintro i hi8 IH
  change VRun _ _ _ _ _ [(2, ptr b1), (3, ptr b2), (4, .bool false), (5, ptr b3), (12, sli (some ae) 8 ce), (13, I (i : Int))] _ (B ++ (b4, blk (clR t) 25) :: (b3, blk (clR t) 25) :: (b2, blk [I a, I b] 67) :: (b1, blk (clR r) 25) :: H) _
  refine vseq ?_
  refine vseq ?_
  refine vregion ?_
  refine vone rfl (vxq (vmv rfl) rfl rfl ?_)
  refine vone rfl (vxq (vmv rfl) rfl rfl ?_)
  refine vone rfl (vxq (vlen rfl) rfl rfl ?_)
  refine vone rfl (vxq (vlss rfl rfl) rfl rfl ?_)
  refine vnil ?_
  refine vcondd rfl (fun h97 => ?_) (fun h97 => ?_)
  · skip
    have hz : ((List.range 8).map (endR t))[((i : Nat) : Int).toNat]? = some (endR t i) := by rw [List.getElem?_map, List.getElem?_range (by omega)]; simp
    obtain ⟨k, hk, hk1⟩ := end_cnt ht hto i
    refine vskip ?_
    refine vseq ?_
    refine vblock ?_
    refine vseq ?_
    refine vregion ?_
    refine vone rfl (vxq (vmv rfl) rfl rfl ?_)
    refine vone rfl (vxq (vmv rfl) rfl rfl ?_)
    refine vone rfl (vxq (visg (enc := encR) rfl rfl (by omega) hz) rfl rfl ?_)
    refine vone rfl (vxq (vldS (enc := encR) rfl hz) rfl rfl ?_)
    refine vone rfl (vxq (vcp rfl rfl rfl ((c_Count (endR t i)).reI hk)) rfl rfl ?_)
    refine vone rfl (vxq (vmv rfl) rfl rfl ?_)
    refine vone rfl (vxq (vex rfl rfl) rfl rfl ?_)
    refine vone rfl (vxq (vex rfl rfl) rfl rfl ?_)
    refine vone rfl (vxq (vas rfl) rfl rfl ?_)
    refine vone rfl (vxq (vas rfl) rfl rfl ?_)
    refine vnil ?_
    refine vseq ?_
    refine vregion ?_
    refine vone rfl (vxq (vmv rfl) rfl rfl ?_)
    refine vone rfl (vxq (vneq rfl rfl) rfl rfl ?_)
    refine vknow (d := 109) (b' := false) rfl (by decide) ?_
    refine vone rfl (vxq (vmv rfl) rfl rfl ?_)
    refine vyes rfl rfl rfl (vxq (vmv rfl) rfl rfl ?_)
    refine vyes rfl rfl rfl (vxq (vlss rfl rfl) rfl rfl ?_)
    refine vknow (d := 112) (b' := false) rfl (decide_eq_false (by omega)) ?_
    refine vone rfl (vxq (vpkf rfl rfl) rfl rfl ?_)
    refine vnil ?_
    refine vcondf rfl ?_
    refine vskip ?_
    refine vinblock ?_
    refine vregion ?_
    refine vone rfl (vxq (vmv rfl) rfl rfl ?_)
    refine vone rfl (vxq (vadd rfl rfl (by unfold InR; omega)) rfl rfl ?_)
    refine vone rfl (vxq (vas rfl) rfl rfl ?_)
    refine vnil ?_
    exact vback (IH (i + 1) (by omega) (by omega)) ⟨rfl, rfl, rfl, rfl, rfl, rfl, True.intro⟩ (by repeat first | exact .refl _ | refine .cons_cons _ ?_ | refine .cons _ ?_ | exact sl0 _ | refine slA ?_)
  · skip
    refine vexit (k' := _) rfl ?_
    refine vseq ?_
    refine vregion ?_
    refine vone rfl (vxq (vldn rfl rfl) rfl rfl ?_)
    refine vone rfl (vxq (via rfl rfl (by omega)) rfl rfl ?_)
    refine vone rfl (vxq (vld1 rfl rfl) rfl rfl ?_)
    refine vone rfl (vxq (via rfl rfl (by omega)) rfl rfl ?_)
    refine vone rfl (vxq (vld1 rfl rfl) rfl rfl ?_)
    refine vone rfl (vxq (vcp rfl rfl rfl ((c_chosen t a b hto.sm ha hb).reC (cho_is ht a))) rfl rfl ?_)
    refine vone rfl (vxq (vmv rfl) rfl rfl ?_)
    refine vone rfl (vxq (vex rfl rfl) rfl rfl ?_)
    refine vone rfl (vxq (vex rfl rfl) rfl rfl ?_)
    refine vknow (d := 122) (b' := true) rfl rfl ?_
    refine vone rfl (vxa valloc rfl rfl (fun b5 => ?_))
    refine vone rfl (vxs (vstn rfl rfl rfl rfl rfl) rfl ?_)
    refine vone rfl (vxq (vas rfl) rfl rfl ?_)
    refine vnil ?_
    refine vseq ?_
    refine vregion ?_
    refine vone rfl (vxq (vldn rfl rfl) rfl rfl ?_)
    refine vone rfl (vxq (vldn rfl rfl) rfl rfl ?_)
    refine vone rfl (vxq (vcp rfl rfl rfl ((c_Has r (choP t a b)).reT h5)) rfl rfl ?_)
    refine vone rfl (vxq (vmv rfl) rfl rfl ?_)
    refine vone rfl (vxq (vex rfl rfl) rfl rfl ?_)
    refine vknow (d := 127) (b' := true) rfl rfl ?_
    refine vone rfl (vxq (vex rfl rfl) rfl rfl ?_)
    refine vone rfl (vxq (vas rfl) rfl rfl ?_)
    refine vone rfl (vxq (vas rfl) rfl rfl ?_)
    refine vnil ?_
    refine vseq ?_
    refine vregion ?_
    refine vone rfl (vxq (vmv rfl) rfl rfl ?_)
    refine vone rfl (vxq (vmv rfl) rfl rfl ?_)
    refine vyes rfl rfl rfl (vxq (vmv rfl) rfl rfl ?_)
    refine vone rfl (vxq (vpkt rfl rfl) rfl rfl ?_)
    refine vone rfl (vxq (vmv rfl) rfl rfl ?_)
    refine vyes rfl rfl rfl (vxq (vmv rfl) rfl rfl ?_)
    refine vyes rfl rfl rfl (vxq (veql rfl rfl) rfl rfl ?_)
    refine vknow (d := 135) (b' := true) rfl (by decide) ?_
    refine vone rfl (vxq (vpkt rfl rfl) rfl rfl ?_)
    refine vone rfl (vxq (vmv rfl) rfl rfl ?_)
    refine vyes rfl rfl rfl (vxq (vcp rfl rfl rfl (c_works)) rfl rfl ?_)
    refine vone rfl (vxq (vpkt rfl rfl) rfl rfl ?_)
    refine vone rfl (vxq (vas rfl) rfl rfl ?_)
    refine vnil ?_
    refine vret (vr1 (H' := H) Try.func10 rfl (.tmp rfl) (by repeat first | exact .refl _ | refine .cons_cons _ ?_ | refine .cons _ ?_ | exact sl0 _ | refine slA ?_) ?_)
    exact ⟨rfl, rfl⟩
/-- paravane/paravanelaw01.RegionEnds -/
theorem l_Ends0a (r : Rg) (a b : Int) (h1 : tightE r = (zR, 11)) (h3 : cntE r = (0, 11)) (H : Heap) : VHas Try.prog 10 [vR r, .agg [I a, I b].toArray] (.bool true) H H := by
  refine vcall_of_vrun Try.func10 rfl (N := 140) rfl rfl ?_
  refine vseq ?_
  refine vregion ?_
  refine vone rfl (vxa (vbox rfl rfl) rfl rfl (fun b1 => ?_))
  refine vone rfl (vxa (vbox rfl rfl) rfl rfl (fun b2 => ?_))
  refine vone rfl (vxq (vas rfl) rfl rfl ?_)
  refine vnil ?_
  refine vseq ?_
  refine vregion ?_
  refine vone rfl (vxq (vldn rfl rfl) rfl rfl ?_)
  refine vone rfl (vxq (vcp rfl rfl rfl ((c_Tight r).reR h1)) rfl rfl ?_)
  refine vone rfl (vxq (vmv rfl) rfl rfl ?_)
  refine vone rfl (vxq (vex rfl rfl) rfl rfl ?_)
  refine vone rfl (vxq (vex rfl rfl) rfl rfl ?_)
  refine vone rfl (vxa valloc rfl rfl (fun b3 => ?_))
  refine vone rfl (vxs (vstn rfl rfl rfl rfl rfl) rfl ?_)
  refine vone rfl (vxq (vas rfl) rfl rfl ?_)
  refine vnil ?_
  refine vseq ?_
  refine vregion ?_
  refine vone rfl (vxq (vldn rfl rfl) rfl rfl ?_)
  refine vone rfl (vxq (vcp rfl rfl rfl ((c_Count r).reI h3)) rfl rfl ?_)
  refine vone rfl (vxq (vmv rfl) rfl rfl ?_)
  refine vone rfl (vxq (vex rfl rfl) rfl rfl ?_)
  refine vone rfl (vxq (vex rfl rfl) rfl rfl ?_)
  refine vone rfl (vxq (vas rfl) rfl rfl ?_)
  refine vone rfl (vxq (vas rfl) rfl rfl ?_)
  refine vnil ?_
  refine vseq ?_
  refine vseq ?_
  refine vregion ?_
  refine vone rfl (vxq (vmv rfl) rfl rfl ?_)
  refine vone rfl (vxq (vneq rfl rfl) rfl rfl ?_)
  refine vknow (d := 30) (b' := true) rfl (by decide) ?_
  refine vnil ?_
  refine vcondt rfl ?_
  refine vseq ?_
  refine vregion ?_
  refine vone rfl (vxq (vmv rfl) rfl rfl ?_)
  refine vone rfl (vxq (veql rfl rfl) rfl rfl ?_)
  refine vknow (d := 32) (b' := true) rfl (by decide) ?_
  refine vone rfl (vxq (vmv rfl) rfl rfl ?_)
  refine vyes rfl rfl rfl (vxq (vmv rfl) rfl rfl ?_)
  refine vyes rfl rfl rfl (vxq (vmv rfl) rfl rfl ?_)
  refine vyes rfl rfl rfl (vxq (veql rfl rfl) rfl rfl ?_)
  refine vknow (d := 36) (b' := true) rfl (by decide) ?_
  refine vone rfl (vxq (vpkt rfl rfl) rfl rfl ?_)
  refine vone rfl (vxq (vmv rfl) rfl rfl ?_)
  refine vno rfl rfl rfl rfl rfl ?_
  refine vno rfl rfl rfl rfl rfl ?_
  refine vno rfl rfl rfl rfl rfl ?_
  refine vnou rfl rfl rfl rfl rfl ?_
  refine vnou rfl rfl rfl rfl rfl ?_
  refine vno rfl rfl rfl rfl rfl ?_
  refine vone rfl (vxq (vpkt rfl rfl) rfl rfl ?_)
  refine vone rfl (vxq (vmv rfl) rfl rfl ?_)
  refine vyes rfl rfl rfl (vxq (vmv rfl) rfl rfl ?_)
  refine vyes rfl rfl rfl (vxq (veql rfl rfl) rfl rfl ?_)
  refine vknow (d := 48) (b' := true) rfl (by decide) ?_
  refine vone rfl (vxq (vpkt rfl rfl) rfl rfl ?_)
  refine vone rfl (vxq (vmv rfl) rfl rfl ?_)
  refine vyes rfl rfl rfl (vxq (vldn rfl rfl) rfl rfl ?_)
  refine vyes rfl rfl rfl (vxq (vbd rfl rfl) rfl rfl ?_)
  refine vyes rfl rfl rfl (vxq (veqs rfl rfl rfl rfl rfl rfl) rfl rfl ?_)
  refine vknow (d := 53) (b' := true) rfl (by decide) ?_
  refine vone rfl (vxq (vpkt rfl rfl) rfl rfl ?_)
  refine vone rfl (vxq (vmv rfl) rfl rfl ?_)
  refine vyes rfl rfl rfl (vxq (vcp rfl rfl rfl (c_works)) rfl rfl ?_)
  refine vone rfl (vxq (vpkt rfl rfl) rfl rfl ?_)
  refine vone rfl (vxq (vas rfl) rfl rfl ?_)
  refine vnil ?_
  refine vret (vr1 (H' := H) Try.func10 rfl (.tmp rfl) (by repeat first | exact .refl _ | refine .cons_cons _ ?_ | refine .cons _ ?_ | exact sl0 _ | refine slA ?_) ?_)
  exact ⟨rfl, rfl⟩
/-- paravane/paravanelaw01.RegionEnds -/
theorem l_Ends0b (r : Rg) (a b : Int) (h1 : tightE r = (zR, 4)) (h3 : cntE r = (0, 0)) (H : Heap) : VHas Try.prog 10 [vR r, .agg [I a, I b].toArray] (.bool true) H H := by
  refine vcall_of_vrun Try.func10 rfl (N := 140) rfl rfl ?_
  refine vseq ?_
  refine vregion ?_
  refine vone rfl (vxa (vbox rfl rfl) rfl rfl (fun b1 => ?_))
  refine vone rfl (vxa (vbox rfl rfl) rfl rfl (fun b2 => ?_))
  refine vone rfl (vxq (vas rfl) rfl rfl ?_)
  refine vnil ?_
  refine vseq ?_
  refine vregion ?_
  refine vone rfl (vxq (vldn rfl rfl) rfl rfl ?_)
  refine vone rfl (vxq (vcp rfl rfl rfl ((c_Tight r).reR h1)) rfl rfl ?_)
  refine vone rfl (vxq (vmv rfl) rfl rfl ?_)
  refine vone rfl (vxq (vex rfl rfl) rfl rfl ?_)
  refine vone rfl (vxq (vex rfl rfl) rfl rfl ?_)
  refine vone rfl (vxa valloc rfl rfl (fun b3 => ?_))
  refine vone rfl (vxs (vstn rfl rfl rfl rfl rfl) rfl ?_)
  refine vone rfl (vxq (vas rfl) rfl rfl ?_)
  refine vnil ?_
  refine vseq ?_
  refine vregion ?_
  refine vone rfl (vxq (vldn rfl rfl) rfl rfl ?_)
  refine vone rfl (vxq (vcp rfl rfl rfl ((c_Count r).reI h3)) rfl rfl ?_)
  refine vone rfl (vxq (vmv rfl) rfl rfl ?_)
  refine vone rfl (vxq (vex rfl rfl) rfl rfl ?_)
  refine vone rfl (vxq (vex rfl rfl) rfl rfl ?_)
  refine vone rfl (vxq (vas rfl) rfl rfl ?_)
  refine vone rfl (vxq (vas rfl) rfl rfl ?_)
  refine vnil ?_
  refine vseq ?_
  refine vseq ?_
  refine vregion ?_
  refine vone rfl (vxq (vmv rfl) rfl rfl ?_)
  refine vone rfl (vxq (vneq rfl rfl) rfl rfl ?_)
  refine vknow (d := 30) (b' := true) rfl (by decide) ?_
  refine vnil ?_
  refine vcondt rfl ?_
  refine vseq ?_
  refine vregion ?_
  refine vone rfl (vxq (vmv rfl) rfl rfl ?_)
  refine vone rfl (vxq (veql rfl rfl) rfl rfl ?_)
  refine vknow (d := 32) (b' := false) rfl (by decide) ?_
  refine vone rfl (vxq (vmv rfl) rfl rfl ?_)
  refine vno rfl rfl rfl rfl rfl ?_
  refine vno rfl rfl rfl rfl rfl ?_
  refine vno rfl rfl rfl rfl rfl ?_
  refine vone rfl (vxq (vpkf rfl rfl) rfl rfl ?_)
  refine vone rfl (vxq (vmv rfl) rfl rfl ?_)
  refine vyes rfl rfl rfl (vxq (vmv rfl) rfl rfl ?_)
  refine vyes rfl rfl rfl (vxq (veql rfl rfl) rfl rfl ?_)
  refine vknow (d := 40) (b' := true) rfl (by decide) ?_
  refine vyes rfl rfl rfl (vxq (vmv rfl) rfl rfl ?_)
  refine vyes rfl rfl rfl (vxq (vmv rfl) rfl rfl ?_)
  refine vyes rfl rfl rfl (vxq (veql rfl rfl) rfl rfl ?_)
  refine vknow (d := 43) (b' := true) rfl (by decide) ?_
  refine vyes rfl rfl rfl (vxq (vpkt rfl rfl) rfl rfl ?_)
  refine vone rfl (vxq (vpkf rfl rfl) rfl rfl ?_)
  refine vone rfl (vxq (vmv rfl) rfl rfl ?_)
  refine vyes rfl rfl rfl (vxq (vmv rfl) rfl rfl ?_)
  refine vyes rfl rfl rfl (vxq (veql rfl rfl) rfl rfl ?_)
  refine vknow (d := 48) (b' := true) rfl (by decide) ?_
  refine vone rfl (vxq (vpkt rfl rfl) rfl rfl ?_)
  refine vone rfl (vxq (vmv rfl) rfl rfl ?_)
  refine vyes rfl rfl rfl (vxq (vldn rfl rfl) rfl rfl ?_)
  refine vyes rfl rfl rfl (vxq (vbd rfl rfl) rfl rfl ?_)
  refine vyes rfl rfl rfl (vxq (veqs rfl rfl rfl rfl rfl rfl) rfl rfl ?_)
  refine vknow (d := 53) (b' := true) rfl (by decide) ?_
  refine vone rfl (vxq (vpkt rfl rfl) rfl rfl ?_)
  refine vone rfl (vxq (vmv rfl) rfl rfl ?_)
  refine vyes rfl rfl rfl (vxq (vcp rfl rfl rfl (c_works)) rfl rfl ?_)
  refine vone rfl (vxq (vpkt rfl rfl) rfl rfl ?_)
  refine vone rfl (vxq (vas rfl) rfl rfl ?_)
  refine vnil ?_
  refine vret (vr1 (H' := H) Try.func10 rfl (.tmp rfl) (by repeat first | exact .refl _ | refine .cons_cons _ ?_ | refine .cons _ ?_ | exact sl0 _ | refine slA ?_) ?_)
  exact ⟨rfl, rfl⟩

theorem l_RegionEnds (r : Rg) (a b : Int) (ha : InR a) (hb : InR b) (H : Heap) : VHas Try.prog 10 [vR r, .agg [I a, I b].toArray] (.bool true) H H := by
  rcases ends_cases r with ⟨t, n, hr, ht, h1, h2, h3, h4, hn⟩ | ⟨e, h1, h3, _⟩ | ⟨h1, h3⟩
  · have hs := totR_self ht
    exact l_Ends1 r t n a b ha hb h1 h2 h3 h4 hn hs (tight_ok ht hr) (has_in hr ((tight_in ht _).1 (cho_in hs a b))) H
  · exact l_Ends0a r a b h1 h3 H
  · exact l_Ends0b r a b h1 h3 H

end Go.Proofs.Ytffpfcomikcimaa
