/-
  The walk of the program's Reach.
-/
import Derived.Test.YtffpfcomikcimaaWg
namespace Go.Proofs.Ytffpfcomikcimaa
open Go
set_option maxRecDepth 100000
attribute [local irreducible] farP tightP hullP rootP
/-- paravane/region.Reach -/
theorem c_Reach (r : Rg) (n : Int) : VPure Try.prog 31 [vR r, I n] (tup [vR (reachE r n).1, I (reachE r n).2]) := by
  intro H
  refine vcall_of_vrun Try.func31 rfl (N := 78) rfl rfl ?_
  refine vseq ?_
  refine vregion ?_
  refine vone rfl (vxa (vbox rfl rfl) rfl rfl (fun b1 => ?_))
  refine vone rfl (vxa valloc rfl rfl (fun b2 => ?_))
  refine vone rfl (vxq (vas rfl) rfl rfl ?_)
  refine vnil ?_
  refine vseq ?_
  refine vseq ?_
  refine vregion ?_
  refine vone rfl (vxq (vldn rfl rfl) rfl rfl ?_)
  refine vone rfl (vxq (vcp rfl rfl rfl (c_region_Check r)) rfl rfl ?_)
  refine vone rfl (vxq (vas rfl) rfl rfl ?_)
  refine vnil ?_
  refine vseq ?_
  refine vregion ?_
  refine vone rfl (vxq (vmv rfl) rfl rfl ?_)
  refine vone rfl (vxq (vneq rfl rfl) rfl rfl ?_)
  refine vnil ?_
  refine vcondd rfl (fun h17 => ?_) (fun h17 => ?_)
  · skip
    refine vseq ?_
    refine vregion ?_
    refine vone rfl (vxq (vbd rfl rfl) rfl rfl ?_)
    refine vone rfl (vxq (vmv rfl) rfl rfl ?_)
    refine vone rfl (vxs (vstn rfl rfl rfl rfl rfl) rfl ?_)
    refine vone rfl (vxq (vas rfl) rfl rfl ?_)
    refine vnil ?_
    refine vret (vr2 (H' := H) Try.func31 rfl (.celln rfl rfl) (.tmp rfl) (by repeat first | exact .refl _ | refine .cons_cons _ ?_ | refine .cons _ ?_ | exact sl0 _ | refine slA ?_) ?_)
    first | (rw [reachE_11 h17]; exact ⟨rfl, rfl⟩) | (rw [reachE_7 h17 (by omega)]; exact ⟨rfl, rfl⟩) | (rw [reachE_4 h17 (by omega) (errO_nz h31), show (optE (tightP r)).2 = 4 from errO_none (errO_nz h31)]; exact ⟨rfl, rfl⟩) | (obtain ⟨gx, ex⟩ := errO_z (nn h31); rw [reachE_0 h17 (by omega) ex]; exact ⟨by rw [ex]; rfl, rfl⟩)
  · skip
    refine vskip ?_
    refine vseq ?_
    refine vseq ?_
    refine vregion ?_
    refine vone rfl (vxq (vmv rfl) rfl rfl ?_)
    refine vone rfl (vxq (vcp rfl rfl rfl (c_region_within _ _ _)) rfl rfl ?_)
    refine vone rfl (vxq (vnotd rfl) rfl rfl ?_)
    refine vnil ?_
    refine vcondd rfl (fun h22 => ?_) (fun h22 => ?_)
    · skip
      refine vseq ?_
      refine vregion ?_
      refine vone rfl (vxq (vbd rfl rfl) rfl rfl ?_)
      refine vone rfl (vxs (vstn rfl rfl rfl rfl rfl) rfl ?_)
      refine vone rfl (vxq (vas rfl) rfl rfl ?_)
      refine vnil ?_
      refine vret (vr2 (H' := H) Try.func31 rfl (.celln rfl rfl) (.tmp rfl) (by repeat first | exact .refl _ | refine .cons_cons _ ?_ | refine .cons _ ?_ | exact sl0 _ | refine slA ?_) ?_)
      first | (rw [reachE_11 h17]; exact ⟨rfl, rfl⟩) | (rw [reachE_7 h17 (by omega)]; exact ⟨rfl, rfl⟩) | (rw [reachE_4 h17 (by omega) (errO_nz h31), show (optE (tightP r)).2 = 4 from errO_none (errO_nz h31)]; exact ⟨rfl, rfl⟩) | (obtain ⟨gx, ex⟩ := errO_z (nn h31); rw [reachE_0 h17 (by omega) ex]; exact ⟨by rw [ex]; rfl, rfl⟩)
    · skip
      refine vskip ?_
      refine vseq ?_
      refine vregion ?_
      refine vone rfl (vxq (vldn rfl rfl) rfl rfl ?_)
      refine vone rfl (vxq (vcp rfl rfl rfl (c_region_bounds _ _ _ _ _ _ _ _)) rfl rfl ?_)
      refine vone rfl (vxq (vcp rfl rfl rfl (c_tight r ((ok_c h17).sm.mono (by decide)))) rfl rfl ?_)
      refine vone rfl (vxq (vmv rfl) rfl rfl ?_)
      refine vone rfl (vxq (vex rfl rfl) rfl rfl ?_)
      refine vone rfl (vxq (vex rfl rfl) rfl rfl ?_)
      refine vone rfl (vxa valloc rfl rfl (fun b3 => ?_))
      refine vone rfl (vxs (vstn rfl rfl rfl rfl rfl) rfl ?_)
      refine vone rfl (vxq (vas rfl) rfl rfl ?_)
      refine vnil ?_
      refine vseq ?_
      refine vseq ?_
      refine vregion ?_
      refine vone rfl (vxq (vmv rfl) rfl rfl ?_)
      refine vone rfl (vxq (vneq rfl rfl) rfl rfl ?_)
      refine vnil ?_
      refine vcondd rfl (fun h31 => ?_) (fun h31 => ?_)
      · skip
        refine vseq ?_
        refine vregion ?_
        refine vone rfl (vxq (vbd rfl rfl) rfl rfl ?_)
        refine vone rfl (vxq (vmv rfl) rfl rfl ?_)
        refine vone rfl (vxs (vstn rfl rfl rfl rfl rfl) rfl ?_)
        refine vone rfl (vxq (vas rfl) rfl rfl ?_)
        refine vnil ?_
        refine vret (vr2 (H' := H) Try.func31 rfl (.celln rfl rfl) (.tmp rfl) (by repeat first | exact .refl _ | refine .cons_cons _ ?_ | refine .cons _ ?_ | exact sl0 _ | refine slA ?_) ?_)
        first | (rw [reachE_11 h17]; exact ⟨rfl, rfl⟩) | (rw [reachE_7 h17 (by omega)]; exact ⟨rfl, rfl⟩) | (rw [reachE_4 h17 (by omega) (errO_nz h31), show (optE (tightP r)).2 = 4 from errO_none (errO_nz h31)]; exact ⟨rfl, rfl⟩) | (obtain ⟨gx, ex⟩ := errO_z (nn h31); rw [reachE_0 h17 (by omega) ex]; exact ⟨by rw [ex]; rfl, rfl⟩)
      · skip
        refine vskip ?_
        refine vseq ?_
        refine vregion ?_
        refine vone rfl (vxq (vmv rfl) rfl rfl ?_)
        refine vone rfl (vxq (vcp rfl rfl rfl (c_farthest n (by omega))) rfl rfl ?_)
        have hfb := farP_bd (n := n) (by omega)
        have hsm := optE_sm (ok_c h17)
        unfold Rg.sm Bd.sm at hsm
        refine vone rfl (vxq (vas rfl) rfl rfl ?_)
        refine vnil ?_
        refine vseq ?_
        refine vregion ?_
        refine vone rfl (vxq (vbd rfl rfl) rfl rfl ?_)
        refine vone rfl (vxq (vmv rfl) rfl rfl ?_)
        refine vone rfl (vxq (vmv rfl) rfl rfl ?_)
        refine vone rfl (vxq (vmv rfl) rfl rfl ?_)
        refine vone rfl (vxq (vmv rfl) rfl rfl ?_)
        refine vone rfl (vxq (vbd rfl rfl) rfl rfl ?_)
        refine vone rfl (vxa valloc rfl rfl (fun b4 => ?_))
        refine vone rfl (vxa valloc rfl rfl (fun b5 => ?_))
        refine vone rfl (vxs (vstn rfl rfl rfl rfl rfl) rfl ?_)
        refine vone rfl (vxs (vstn rfl rfl rfl rfl rfl) rfl ?_)
        refine vnil ?_
        refine vseq ?_
        refine vseq ?_
        refine vregion ?_
        refine vone rfl (vxq (vldn rfl rfl) rfl rfl ?_)
        refine vone rfl (vxq (vmv rfl) rfl rfl ?_)
        refine vnil ?_
        refine vblock ?_
        refine vloop1 ?_
        refine vseq ?_
        refine vregion ?_
        refine vone rfl (vxq (vlss rfl rfl) rfl rfl ?_)
        refine vnil ?_
        refine vseq ?_
        refine vcondt rfl ?_
        refine vskip ?_
        refine vseq ?_
        refine vblock ?_
        refine vseq ?_
        refine vregion ?_
        refine vone rfl (vxq (vmv rfl) rfl rfl ?_)
        refine vone rfl (vxq (vixan rfl rfl (by omega) rfl) rfl rfl ?_)
        refine vone rfl (vxa valloc rfl rfl (fun b6 => ?_))
        refine vone rfl (vxq (vas rfl) rfl rfl ?_)
        refine vone rfl (vxs (vstn rfl rfl rfl rfl rfl) rfl ?_)
        refine vnil ?_
        refine vdraw0 [(.q, 0), (.q, 1), (.q, 2), (.q, 3), (.q, 4), (.q, 5), (.q, 6), (.q, 7), (.q, 8), (.q, 9), (.q, 10), (.q, 11), (.q, 12), (.q, 13), (.q, 14), (.q, 15), (.q, 16), (.q, 17), (.q, 18), (.q, 19), (.q, 20), (.q, 21), (.q, 22), (.c, 23)] Try.mixed (by kernel_rfl) (by kernel_rfl) ?_
        refine vdq (mone rfl) (vmv rfl) rfl rfl ?_
        refine vdq (mone rfl) (vmv rfl) rfl rfl ?_
        refine vdq (mone rfl) (via rfl rfl (by omega)) rfl rfl ?_
        refine vdq (mone rfl) (vld1 rfl rfl) rfl rfl ?_
        refine vdq (mone rfl) (vfa rfl) rfl rfl ?_
        refine vdq (mone rfl) (vld1 rfl rfl) rfl rfl ?_
        refine vdq (mone rfl) (vmv rfl) rfl rfl ?_
        refine vdq (mone rfl) (via rfl rfl (by omega)) rfl rfl ?_
        refine vdq (mone rfl) (vld1 rfl rfl) rfl rfl ?_
        refine vdq (mone rfl) (vsub rfl rfl (by unfold InR; omega)) rfl rfl ?_
        refine vdq (mone rfl) (vcp rfl rfl rfl (c_region_limit_into _ _ (by omega))) rfl rfl ?_
        refine vdq (mone rfl) (vmv rfl) rfl rfl ?_
        refine vdq (mone rfl) (via rfl rfl (by omega)) rfl rfl ?_
        refine vdq (mone rfl) (vld1 rfl rfl) rfl rfl ?_
        refine vdq (mone rfl) (vfa rfl) rfl rfl ?_
        refine vdq (mone rfl) (vld1 rfl rfl) rfl rfl ?_
        refine vdq (mone rfl) (vmv rfl) rfl rfl ?_
        refine vdq (mone rfl) (via rfl rfl (by omega)) rfl rfl ?_
        refine vdq (mone rfl) (vld1 rfl rfl) rfl rfl ?_
        refine vdq (mone rfl) (vadd rfl rfl (by unfold InR; omega)) rfl rfl ?_
        refine vdq (mone rfl) (vcp rfl rfl rfl (c_region_limit_into _ _ (by omega))) rfl rfl ?_
        refine vdq (mone rfl) (vbd rfl rfl) rfl rfl ?_
        refine vdq (mone rfl) (via rfl rfl (by omega)) rfl rfl ?_
        refine vdcs (mone rfl) (vstn rfl rfl rfl rfl rfl) rfl ?_
        refine vdend rfl ?_
        refine vinblock ?_
        refine vregion ?_
        refine vone rfl (vxq (vadd rfl rfl (by unfold InR; omega)) rfl rfl ?_)
        refine vone rfl (vxq (vmv rfl) rfl rfl ?_)
        refine vnil ?_
        refine vinloop1 ?_
        refine vseq ?_
        refine vregion ?_
        refine vone rfl (vxq (vlss rfl rfl) rfl rfl ?_)
        refine vnil ?_
        refine vseq ?_
        refine vcondt rfl ?_
        refine vskip ?_
        refine vseq ?_
        refine vblock ?_
        refine vseq ?_
        refine vregion ?_
        refine vone rfl (vxq (vmv rfl) rfl rfl ?_)
        refine vone rfl (vxq (vixan rfl rfl (by omega) rfl) rfl rfl ?_)
        refine vone rfl (vxa valloc rfl rfl (fun b7 => ?_))
        refine vone rfl (vxq (vas rfl) rfl rfl ?_)
        refine vone rfl (vxs (vstn rfl rfl rfl rfl rfl) rfl ?_)
        refine vnil ?_
        refine vdraw0 [(.q, 0), (.q, 1), (.q, 2), (.q, 3), (.q, 4), (.q, 5), (.q, 6), (.q, 7), (.q, 8), (.q, 9), (.q, 10), (.q, 11), (.q, 12), (.q, 13), (.q, 14), (.q, 15), (.q, 16), (.q, 17), (.q, 18), (.q, 19), (.q, 20), (.q, 21), (.q, 22), (.c, 23)] Try.mixed (by kernel_rfl) (by kernel_rfl) ?_
        refine vdq (mone rfl) (vmv rfl) rfl rfl ?_
        refine vdq (mone rfl) (vmv rfl) rfl rfl ?_
        refine vdq (mone rfl) (via rfl rfl (by omega)) rfl rfl ?_
        refine vdq (mone rfl) (vld1 rfl rfl) rfl rfl ?_
        refine vdq (mone rfl) (vfa rfl) rfl rfl ?_
        refine vdq (mone rfl) (vld1 rfl rfl) rfl rfl ?_
        refine vdq (mone rfl) (vmv rfl) rfl rfl ?_
        refine vdq (mone rfl) (via rfl rfl (by omega)) rfl rfl ?_
        refine vdq (mone rfl) (vld1 rfl rfl) rfl rfl ?_
        refine vdq (mone rfl) (vsub rfl rfl (by unfold InR; omega)) rfl rfl ?_
        refine vdq (mone rfl) (vcp rfl rfl rfl (c_region_limit_into _ _ (by omega))) rfl rfl ?_
        refine vdq (mone rfl) (vmv rfl) rfl rfl ?_
        refine vdq (mone rfl) (via rfl rfl (by omega)) rfl rfl ?_
        refine vdq (mone rfl) (vld1 rfl rfl) rfl rfl ?_
        refine vdq (mone rfl) (vfa rfl) rfl rfl ?_
        refine vdq (mone rfl) (vld1 rfl rfl) rfl rfl ?_
        refine vdq (mone rfl) (vmv rfl) rfl rfl ?_
        refine vdq (mone rfl) (via rfl rfl (by omega)) rfl rfl ?_
        refine vdq (mone rfl) (vld1 rfl rfl) rfl rfl ?_
        refine vdq (mone rfl) (vadd rfl rfl (by unfold InR; omega)) rfl rfl ?_
        refine vdq (mone rfl) (vcp rfl rfl rfl (c_region_limit_into _ _ (by omega))) rfl rfl ?_
        refine vdq (mone rfl) (vbd rfl rfl) rfl rfl ?_
        refine vdq (mone rfl) (via rfl rfl (by omega)) rfl rfl ?_
        refine vdcs (mone rfl) (vstn rfl rfl rfl rfl rfl) rfl ?_
        refine vdend rfl ?_
        refine vinblock ?_
        refine vregion ?_
        refine vone rfl (vxq (vadd rfl rfl (by unfold InR; omega)) rfl rfl ?_)
        refine vone rfl (vxq (vmv rfl) rfl rfl ?_)
        refine vnil ?_
        refine vinloop1 ?_
        refine vseq ?_
        refine vregion ?_
        refine vone rfl (vxq (vlss rfl rfl) rfl rfl ?_)
        refine vnil ?_
        refine vseq ?_
        refine vcondt rfl ?_
        refine vskip ?_
        refine vseq ?_
        refine vblock ?_
        refine vseq ?_
        refine vregion ?_
        refine vone rfl (vxq (vmv rfl) rfl rfl ?_)
        refine vone rfl (vxq (vixan rfl rfl (by omega) rfl) rfl rfl ?_)
        refine vone rfl (vxa valloc rfl rfl (fun b8 => ?_))
        refine vone rfl (vxq (vas rfl) rfl rfl ?_)
        refine vone rfl (vxs (vstn rfl rfl rfl rfl rfl) rfl ?_)
        refine vnil ?_
        refine vdraw0 [(.q, 0), (.q, 1), (.q, 2), (.q, 3), (.q, 4), (.q, 5), (.q, 6), (.q, 7), (.q, 8), (.q, 9), (.q, 10), (.q, 11), (.q, 12), (.q, 13), (.q, 14), (.q, 15), (.q, 16), (.q, 17), (.q, 18), (.q, 19), (.q, 20), (.q, 21), (.q, 22), (.c, 23)] Try.mixed (by kernel_rfl) (by kernel_rfl) ?_
        refine vdq (mone rfl) (vmv rfl) rfl rfl ?_
        refine vdq (mone rfl) (vmv rfl) rfl rfl ?_
        refine vdq (mone rfl) (via rfl rfl (by omega)) rfl rfl ?_
        refine vdq (mone rfl) (vld1 rfl rfl) rfl rfl ?_
        refine vdq (mone rfl) (vfa rfl) rfl rfl ?_
        refine vdq (mone rfl) (vld1 rfl rfl) rfl rfl ?_
        refine vdq (mone rfl) (vmv rfl) rfl rfl ?_
        refine vdq (mone rfl) (via rfl rfl (by omega)) rfl rfl ?_
        refine vdq (mone rfl) (vld1 rfl rfl) rfl rfl ?_
        refine vdq (mone rfl) (vsub rfl rfl (by unfold InR; omega)) rfl rfl ?_
        refine vdq (mone rfl) (vcp rfl rfl rfl (c_region_limit_into _ _ (by omega))) rfl rfl ?_
        refine vdq (mone rfl) (vmv rfl) rfl rfl ?_
        refine vdq (mone rfl) (via rfl rfl (by omega)) rfl rfl ?_
        refine vdq (mone rfl) (vld1 rfl rfl) rfl rfl ?_
        refine vdq (mone rfl) (vfa rfl) rfl rfl ?_
        refine vdq (mone rfl) (vld1 rfl rfl) rfl rfl ?_
        refine vdq (mone rfl) (vmv rfl) rfl rfl ?_
        refine vdq (mone rfl) (via rfl rfl (by omega)) rfl rfl ?_
        refine vdq (mone rfl) (vld1 rfl rfl) rfl rfl ?_
        refine vdq (mone rfl) (vadd rfl rfl (by unfold InR; omega)) rfl rfl ?_
        refine vdq (mone rfl) (vcp rfl rfl rfl (c_region_limit_into _ _ (by omega))) rfl rfl ?_
        refine vdq (mone rfl) (vbd rfl rfl) rfl rfl ?_
        refine vdq (mone rfl) (via rfl rfl (by omega)) rfl rfl ?_
        refine vdcs (mone rfl) (vstn rfl rfl rfl rfl rfl) rfl ?_
        refine vdend rfl ?_
        refine vinblock ?_
        refine vregion ?_
        refine vone rfl (vxq (vadd rfl rfl (by unfold InR; omega)) rfl rfl ?_)
        refine vone rfl (vxq (vmv rfl) rfl rfl ?_)
        refine vnil ?_
        refine vinloop1 ?_
        refine vseq ?_
        refine vregion ?_
        refine vone rfl (vxq (vlss rfl rfl) rfl rfl ?_)
        refine vnil ?_
        refine vseq ?_
        refine vcondt rfl ?_
        refine vskip ?_
        refine vseq ?_
        refine vblock ?_
        refine vseq ?_
        refine vregion ?_
        refine vone rfl (vxq (vmv rfl) rfl rfl ?_)
        refine vone rfl (vxq (vixan rfl rfl (by omega) rfl) rfl rfl ?_)
        refine vone rfl (vxa valloc rfl rfl (fun b9 => ?_))
        refine vone rfl (vxq (vas rfl) rfl rfl ?_)
        refine vone rfl (vxs (vstn rfl rfl rfl rfl rfl) rfl ?_)
        refine vnil ?_
        refine vdraw0 [(.q, 0), (.q, 1), (.q, 2), (.q, 3), (.q, 4), (.q, 5), (.q, 6), (.q, 7), (.q, 8), (.q, 9), (.q, 10), (.q, 11), (.q, 12), (.q, 13), (.q, 14), (.q, 15), (.q, 16), (.q, 17), (.q, 18), (.q, 19), (.q, 20), (.q, 21), (.q, 22), (.c, 23)] Try.mixed (by kernel_rfl) (by kernel_rfl) ?_
        refine vdq (mone rfl) (vmv rfl) rfl rfl ?_
        refine vdq (mone rfl) (vmv rfl) rfl rfl ?_
        refine vdq (mone rfl) (via rfl rfl (by omega)) rfl rfl ?_
        refine vdq (mone rfl) (vld1 rfl rfl) rfl rfl ?_
        refine vdq (mone rfl) (vfa rfl) rfl rfl ?_
        refine vdq (mone rfl) (vld1 rfl rfl) rfl rfl ?_
        refine vdq (mone rfl) (vmv rfl) rfl rfl ?_
        refine vdq (mone rfl) (via rfl rfl (by omega)) rfl rfl ?_
        refine vdq (mone rfl) (vld1 rfl rfl) rfl rfl ?_
        refine vdq (mone rfl) (vsub rfl rfl (by unfold InR; omega)) rfl rfl ?_
        refine vdq (mone rfl) (vcp rfl rfl rfl (c_region_limit_into _ _ (by omega))) rfl rfl ?_
        refine vdq (mone rfl) (vmv rfl) rfl rfl ?_
        refine vdq (mone rfl) (via rfl rfl (by omega)) rfl rfl ?_
        refine vdq (mone rfl) (vld1 rfl rfl) rfl rfl ?_
        refine vdq (mone rfl) (vfa rfl) rfl rfl ?_
        refine vdq (mone rfl) (vld1 rfl rfl) rfl rfl ?_
        refine vdq (mone rfl) (vmv rfl) rfl rfl ?_
        refine vdq (mone rfl) (via rfl rfl (by omega)) rfl rfl ?_
        refine vdq (mone rfl) (vld1 rfl rfl) rfl rfl ?_
        refine vdq (mone rfl) (vadd rfl rfl (by unfold InR; omega)) rfl rfl ?_
        refine vdq (mone rfl) (vcp rfl rfl rfl (c_region_limit_into _ _ (by omega))) rfl rfl ?_
        refine vdq (mone rfl) (vbd rfl rfl) rfl rfl ?_
        refine vdq (mone rfl) (via rfl rfl (by omega)) rfl rfl ?_
        refine vdcs (mone rfl) (vstn rfl rfl rfl rfl rfl) rfl ?_
        refine vdend rfl ?_
        refine vinblock ?_
        refine vregion ?_
        refine vone rfl (vxq (vadd rfl rfl (by unfold InR; omega)) rfl rfl ?_)
        refine vone rfl (vxq (vmv rfl) rfl rfl ?_)
        refine vnil ?_
        refine vinloop1 ?_
        refine vseq ?_
        refine vregion ?_
        refine vone rfl (vxq (vlss rfl rfl) rfl rfl ?_)
        refine vnil ?_
        refine vseq ?_
        refine vcondf rfl ?_
        refine vexit (k' := _) rfl ?_
        refine vseq ?_
        refine vregion ?_
        refine vone rfl (vxq (vldn rfl rfl) rfl rfl ?_)
        refine vone rfl (vxq (vcp rfl rfl rfl (c_tight (wideR (optE (tightP r)).1 n (farP n)) ((wideR_sm _ _ _).mono (by decide)))) rfl rfl ?_)
        refine vone rfl (vxq (vex rfl rfl) rfl rfl ?_)
        refine vone rfl (vxq (vex rfl rfl) rfl rfl ?_)
        refine vone rfl (vxq (vcp rfl rfl rfl (c_doneO (tightP (wideR (optE (tightP r)).1 n (farP n))))) rfl rfl ?_)
        refine vone rfl (vxq (vex rfl rfl) rfl rfl ?_)
        refine vone rfl (vxq (vex rfl rfl) rfl rfl ?_)
        refine vone rfl (vxs (vstn rfl rfl rfl rfl rfl) rfl ?_)
        refine vone rfl (vxq (vas rfl) rfl rfl ?_)
        refine vnil ?_
        refine vret (vr2 (H' := H) Try.func31 rfl (.celln rfl rfl) (.tmp rfl) (by repeat first | exact .refl _ | refine .cons_cons _ ?_ | refine .cons _ ?_ | exact sl0 _ | refine slA ?_) ?_)
        first | (rw [reachE_11 h17]; exact ⟨rfl, rfl⟩) | (rw [reachE_7 h17 (by omega)]; exact ⟨rfl, rfl⟩) | (rw [reachE_4 h17 (by omega) (errO_nz h31), show (optE (tightP r)).2 = 4 from errO_none (errO_nz h31)]; exact ⟨rfl, rfl⟩) | (obtain ⟨gx, ex⟩ := errO_z (nn h31); rw [reachE_0 h17 (by omega) ex]; exact ⟨by rw [ex]; rfl, rfl⟩)
end Go.Proofs.Ytffpfcomikcimaa
