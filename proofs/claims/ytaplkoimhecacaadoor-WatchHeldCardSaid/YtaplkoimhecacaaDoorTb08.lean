/-
  The walk of the program's Reach. Walks of Count, of both; picks. Walks of Extreme, Dist and Gap of the program. Walks of Dist and Gap, of both. Go's values for scenes, numbers of a watch, sightings; slices of slices; strings and truth values compared. No condition.
-/
import Derived.Test.YtaplkoimhecacaaDoorTb07
import Derived.Test.YtaplkoimhecacaaDoorTb03
import Derived.Test.YtaplkoimhecacaaDoorTb05
import Derived.Laws.Strings
import Derived.Laws.Slices
namespace Go.Proofs.YtaplkoimhecacaaDoor
open Go
set_option maxRecDepth 100000
attribute [local irreducible] farP tightP hullP rootP
/-- paravane/region.Reach -/
theorem c_Reach (r : Rg) (n : Int) : VPure Tryd.prog 99 [vR r, I n] (tup [vR (reachE r n).1, I (reachE r n).2]) := by
 intro H
 refine vcall_of_vrun Tryd.func99 rfl (N := 78) rfl rfl ?_
 refine vseq ?_
 refine vregion ?_
 refine vone rfl (vxa (vbox rfl rfl) rfl rfl (fun b1 => ?_))
 refine vone rfl (vxa valloc rfl rfl (fun b2 => ?_))
 refine vone rfl (vxq (vas rfl) rfl rfl ?_)
 refine vnil ?_
 refine vseq ?_
 refine vseq ?_
 refine vregion ?_
 refine vone rfl (vxq (vldn rfl rfl) rfl rfl ?_)
 refine vone rfl (vxq (vcp rfl rfl rfl (c_region_Check r)) rfl rfl ?_)
 refine vone rfl (vxq (vas rfl) rfl rfl ?_)
 refine vnil ?_
 refine vseq ?_
 refine vregion ?_
 refine vone rfl (vxq (vmv rfl) rfl rfl ?_)
 refine vone rfl (vxq (vneq rfl rfl) rfl rfl ?_)
 refine vnil ?_
 refine vcondd rfl (fun h17 => ?_) (fun h17 => ?_)
 ·
  refine vseq ?_
  refine vregion ?_
  refine vone rfl (vxq (vbd rfl rfl) rfl rfl ?_)
  refine vone rfl (vxq (vmv rfl) rfl rfl ?_)
  refine vone rfl (vxs (vstn rfl rfl rfl rfl rfl) rfl ?_)
  refine vone rfl (vxq (vas rfl) rfl rfl ?_)
  refine vnil ?_
  refine vret (vr2 (H' := H) Tryd.func99 rfl (.celln rfl rfl) (.tmp rfl) sb ?_)
  first | (rw [reachE_11 h17]; exact ⟨rfl, rfl⟩) | (rw [reachE_7 h17 (by omega)]; exact ⟨rfl, rfl⟩) | (rw [reachE_4 h17 (by omega) (errO_nz h31), show (optE (tightP r)).2 = 4 from errO_none (errO_nz h31)]; exact ⟨rfl, rfl⟩) | (obtain ⟨gx, ex⟩ := errO_z (nn h31); rw [reachE_0 h17 (by omega) ex]; exact ⟨by rw [ex]; rfl, rfl⟩)
 ·
  refine vskip ?_
  refine vseq ?_
  refine vseq ?_
  refine vregion ?_
  refine vone rfl (vxq (vmv rfl) rfl rfl ?_)
  refine vone rfl (vxq (vcp rfl rfl rfl (c_region_within _ _ _)) rfl rfl ?_)
  refine vone rfl (vxq (vnotd rfl) rfl rfl ?_)
  refine vnil ?_
  refine vcondd rfl (fun h22 => ?_) (fun h22 => ?_)
  ·
   refine vseq ?_
   refine vregion ?_
   refine vone rfl (vxq (vbd rfl rfl) rfl rfl ?_)
   refine vone rfl (vxs (vstn rfl rfl rfl rfl rfl) rfl ?_)
   refine vone rfl (vxq (vas rfl) rfl rfl ?_)
   refine vnil ?_
   refine vret (vr2 (H' := H) Tryd.func99 rfl (.celln rfl rfl) (.tmp rfl) sb ?_)
   first | (rw [reachE_11 h17]; exact ⟨rfl, rfl⟩) | (rw [reachE_7 h17 (by omega)]; exact ⟨rfl, rfl⟩) | (rw [reachE_4 h17 (by omega) (errO_nz h31), show (optE (tightP r)).2 = 4 from errO_none (errO_nz h31)]; exact ⟨rfl, rfl⟩) | (obtain ⟨gx, ex⟩ := errO_z (nn h31); rw [reachE_0 h17 (by omega) ex]; exact ⟨by rw [ex]; rfl, rfl⟩)
  ·
   refine vskip ?_
   refine vseq ?_
   refine vregion ?_
   refine vone rfl (vxq (vldn rfl rfl) rfl rfl ?_)
   refine vone rfl (vxq (vcp rfl rfl rfl (c_region_bounds _ _ _ _ _ _ _ _)) rfl rfl ?_)
   refine vone rfl (vxq (vcp rfl rfl rfl (c_tight r ((ok_c h17).sm.mono (by decide)))) rfl rfl ?_)
   refine vone rfl (vxq (vmv rfl) rfl rfl ?_)
   refine vone rfl (vxq (vex rfl rfl) rfl rfl ?_)
   refine vone rfl (vxq (vex rfl rfl) rfl rfl ?_)
   refine vone rfl (vxa valloc rfl rfl (fun b3 => ?_))
   refine vone rfl (vxs (vstn rfl rfl rfl rfl rfl) rfl ?_)
   refine vone rfl (vxq (vas rfl) rfl rfl ?_)
   refine vnil ?_
   refine vseq ?_
   refine vseq ?_
   refine vregion ?_
   refine vone rfl (vxq (vmv rfl) rfl rfl ?_)
   refine vone rfl (vxq (vneq rfl rfl) rfl rfl ?_)
   refine vnil ?_
   refine vcondd rfl (fun h31 => ?_) (fun h31 => ?_)
   ·
    refine vseq ?_
    refine vregion ?_
    refine vone rfl (vxq (vbd rfl rfl) rfl rfl ?_)
    refine vone rfl (vxq (vmv rfl) rfl rfl ?_)
    refine vone rfl (vxs (vstn rfl rfl rfl rfl rfl) rfl ?_)
    refine vone rfl (vxq (vas rfl) rfl rfl ?_)
    refine vnil ?_
    refine vret (vr2 (H' := H) Tryd.func99 rfl (.celln rfl rfl) (.tmp rfl) sb ?_)
    first | (rw [reachE_11 h17]; exact ⟨rfl, rfl⟩) | (rw [reachE_7 h17 (by omega)]; exact ⟨rfl, rfl⟩) | (rw [reachE_4 h17 (by omega) (errO_nz h31), show (optE (tightP r)).2 = 4 from errO_none (errO_nz h31)]; exact ⟨rfl, rfl⟩) | (obtain ⟨gx, ex⟩ := errO_z (nn h31); rw [reachE_0 h17 (by omega) ex]; exact ⟨by rw [ex]; rfl, rfl⟩)
   ·
    refine vskip ?_
    refine vseq ?_
    refine vregion ?_
    refine vone rfl (vxq (vmv rfl) rfl rfl ?_)
    refine vone rfl (vxq (vcp rfl rfl rfl (c_farthest n (by omega))) rfl rfl ?_)
    have hfb := farP_bd (n := n) (by omega)
    have hsm := optE_sm (ok_c h17)
    unfold Rg.sm Bd.sm at hsm
    refine vone rfl (vxq (vas rfl) rfl rfl ?_)
    refine vnil ?_
    refine vseq ?_
    refine vregion ?_
    refine vone rfl (vxq (vbd rfl rfl) rfl rfl ?_)
    refine vone rfl (vxq (vmv rfl) rfl rfl ?_)
    refine vone rfl (vxq (vmv rfl) rfl rfl ?_)
    refine vone rfl (vxq (vmv rfl) rfl rfl ?_)
    refine vone rfl (vxq (vmv rfl) rfl rfl ?_)
    refine vone rfl (vxq (vbd rfl rfl) rfl rfl ?_)
    refine vone rfl (vxa valloc rfl rfl (fun b4 => ?_))
    refine vone rfl (vxa valloc rfl rfl (fun b5 => ?_))
    refine vone rfl (vxs (vstn rfl rfl rfl rfl rfl) rfl ?_)
    refine vone rfl (vxs (vstn rfl rfl rfl rfl rfl) rfl ?_)
    refine vnil ?_
    refine vseq ?_
    refine vseq ?_
    refine vregion ?_
    refine vone rfl (vxq (vldn rfl rfl) rfl rfl ?_)
    refine vone rfl (vxq (vmv rfl) rfl rfl ?_)
    refine vnil ?_
    refine vblock ?_
    refine vloop1 ?_
    refine vseq ?_
    refine vregion ?_
    refine vone rfl (vxq (vlss rfl rfl) rfl rfl ?_)
    refine vnil ?_
    refine vseq ?_
    refine vcondt rfl ?_
    refine vskip ?_
    refine vseq ?_
    refine vblock ?_
    refine vseq ?_
    refine vregion ?_
    refine vone rfl (vxq (vmv rfl) rfl rfl ?_)
    refine vone rfl (vxq (vixan rfl rfl (by omega) rfl) rfl rfl ?_)
    refine vone rfl (vxa valloc rfl rfl (fun b6 => ?_))
    refine vone rfl (vxq (vas rfl) rfl rfl ?_)
    refine vone rfl (vxs (vstn rfl rfl rfl rfl rfl) rfl ?_)
    refine vnil ?_
    refine vdraw0 [(.q, 0), (.q, 1), (.q, 2), (.q, 3), (.q, 4), (.q, 5), (.q, 6), (.q, 7), (.q, 8), (.q, 9), (.q, 10), (.q, 11), (.q, 12), (.q, 13), (.q, 14), (.q, 15), (.q, 16), (.q, 17), (.q, 18), (.q, 19), (.q, 20), (.q, 21), (.q, 22), (.c, 23)] Tryd.mixed (by kernel_rfl) (by kernel_rfl) ?_
    refine vdq (mone rfl) (vmv rfl) rfl rfl ?_
    refine vdq (mone rfl) (vmv rfl) rfl rfl ?_
    refine vdq (mone rfl) (via rfl rfl (by omega)) rfl rfl ?_
    refine vdq (mone rfl) (vld1 rfl rfl) rfl rfl ?_
    refine vdq (mone rfl) (vfa rfl) rfl rfl ?_
    refine vdq (mone rfl) (vld1 rfl rfl) rfl rfl ?_
    refine vdq (mone rfl) (vmv rfl) rfl rfl ?_
    refine vdq (mone rfl) (via rfl rfl (by omega)) rfl rfl ?_
    refine vdq (mone rfl) (vld1 rfl rfl) rfl rfl ?_
    refine vdq (mone rfl) (vsub rfl rfl (by unfold InR; omega)) rfl rfl ?_
    refine vdq (mone rfl) (vcp rfl rfl rfl (c_region_limit_into _ _ (by omega))) rfl rfl ?_
    refine vdq (mone rfl) (vmv rfl) rfl rfl ?_
    refine vdq (mone rfl) (via rfl rfl (by omega)) rfl rfl ?_
    refine vdq (mone rfl) (vld1 rfl rfl) rfl rfl ?_
    refine vdq (mone rfl) (vfa rfl) rfl rfl ?_
    refine vdq (mone rfl) (vld1 rfl rfl) rfl rfl ?_
    refine vdq (mone rfl) (vmv rfl) rfl rfl ?_
    refine vdq (mone rfl) (via rfl rfl (by omega)) rfl rfl ?_
    refine vdq (mone rfl) (vld1 rfl rfl) rfl rfl ?_
    refine vdq (mone rfl) (vadd rfl rfl (by unfold InR; omega)) rfl rfl ?_
    refine vdq (mone rfl) (vcp rfl rfl rfl (c_region_limit_into _ _ (by omega))) rfl rfl ?_
    refine vdq (mone rfl) (vbd rfl rfl) rfl rfl ?_
    refine vdq (mone rfl) (via rfl rfl (by omega)) rfl rfl ?_
    refine vdcs (mone rfl) (vstn rfl rfl rfl rfl rfl) rfl ?_
    refine vdend rfl ?_
    refine vinblock ?_
    refine vregion ?_
    refine vone rfl (vxq (vadd rfl rfl (by unfold InR; omega)) rfl rfl ?_)
    refine vone rfl (vxq (vmv rfl) rfl rfl ?_)
    refine vnil ?_
    refine vinloop1 ?_
    refine vseq ?_
    refine vregion ?_
    refine vone rfl (vxq (vlss rfl rfl) rfl rfl ?_)
    refine vnil ?_
    refine vseq ?_
    refine vcondt rfl ?_
    refine vskip ?_
    refine vseq ?_
    refine vblock ?_
    refine vseq ?_
    refine vregion ?_
    refine vone rfl (vxq (vmv rfl) rfl rfl ?_)
    refine vone rfl (vxq (vixan rfl rfl (by omega) rfl) rfl rfl ?_)
    refine vone rfl (vxa valloc rfl rfl (fun b7 => ?_))
    refine vone rfl (vxq (vas rfl) rfl rfl ?_)
    refine vone rfl (vxs (vstn rfl rfl rfl rfl rfl) rfl ?_)
    refine vnil ?_
    refine vdraw0 [(.q, 0), (.q, 1), (.q, 2), (.q, 3), (.q, 4), (.q, 5), (.q, 6), (.q, 7), (.q, 8), (.q, 9), (.q, 10), (.q, 11), (.q, 12), (.q, 13), (.q, 14), (.q, 15), (.q, 16), (.q, 17), (.q, 18), (.q, 19), (.q, 20), (.q, 21), (.q, 22), (.c, 23)] Tryd.mixed (by kernel_rfl) (by kernel_rfl) ?_
    refine vdq (mone rfl) (vmv rfl) rfl rfl ?_
    refine vdq (mone rfl) (vmv rfl) rfl rfl ?_
    refine vdq (mone rfl) (via rfl rfl (by omega)) rfl rfl ?_
    refine vdq (mone rfl) (vld1 rfl rfl) rfl rfl ?_
    refine vdq (mone rfl) (vfa rfl) rfl rfl ?_
    refine vdq (mone rfl) (vld1 rfl rfl) rfl rfl ?_
    refine vdq (mone rfl) (vmv rfl) rfl rfl ?_
    refine vdq (mone rfl) (via rfl rfl (by omega)) rfl rfl ?_
    refine vdq (mone rfl) (vld1 rfl rfl) rfl rfl ?_
    refine vdq (mone rfl) (vsub rfl rfl (by unfold InR; omega)) rfl rfl ?_
    refine vdq (mone rfl) (vcp rfl rfl rfl (c_region_limit_into _ _ (by omega))) rfl rfl ?_
    refine vdq (mone rfl) (vmv rfl) rfl rfl ?_
    refine vdq (mone rfl) (via rfl rfl (by omega)) rfl rfl ?_
    refine vdq (mone rfl) (vld1 rfl rfl) rfl rfl ?_
    refine vdq (mone rfl) (vfa rfl) rfl rfl ?_
    refine vdq (mone rfl) (vld1 rfl rfl) rfl rfl ?_
    refine vdq (mone rfl) (vmv rfl) rfl rfl ?_
    refine vdq (mone rfl) (via rfl rfl (by omega)) rfl rfl ?_
    refine vdq (mone rfl) (vld1 rfl rfl) rfl rfl ?_
    refine vdq (mone rfl) (vadd rfl rfl (by unfold InR; omega)) rfl rfl ?_
    refine vdq (mone rfl) (vcp rfl rfl rfl (c_region_limit_into _ _ (by omega))) rfl rfl ?_
    refine vdq (mone rfl) (vbd rfl rfl) rfl rfl ?_
    refine vdq (mone rfl) (via rfl rfl (by omega)) rfl rfl ?_
    refine vdcs (mone rfl) (vstn rfl rfl rfl rfl rfl) rfl ?_
    refine vdend rfl ?_
    refine vinblock ?_
    refine vregion ?_
    refine vone rfl (vxq (vadd rfl rfl (by unfold InR; omega)) rfl rfl ?_)
    refine vone rfl (vxq (vmv rfl) rfl rfl ?_)
    refine vnil ?_
    refine vinloop1 ?_
    refine vseq ?_
    refine vregion ?_
    refine vone rfl (vxq (vlss rfl rfl) rfl rfl ?_)
    refine vnil ?_
    refine vseq ?_
    refine vcondt rfl ?_
    refine vskip ?_
    refine vseq ?_
    refine vblock ?_
    refine vseq ?_
    refine vregion ?_
    refine vone rfl (vxq (vmv rfl) rfl rfl ?_)
    refine vone rfl (vxq (vixan rfl rfl (by omega) rfl) rfl rfl ?_)
    refine vone rfl (vxa valloc rfl rfl (fun b8 => ?_))
    refine vone rfl (vxq (vas rfl) rfl rfl ?_)
    refine vone rfl (vxs (vstn rfl rfl rfl rfl rfl) rfl ?_)
    refine vnil ?_
    refine vdraw0 [(.q, 0), (.q, 1), (.q, 2), (.q, 3), (.q, 4), (.q, 5), (.q, 6), (.q, 7), (.q, 8), (.q, 9), (.q, 10), (.q, 11), (.q, 12), (.q, 13), (.q, 14), (.q, 15), (.q, 16), (.q, 17), (.q, 18), (.q, 19), (.q, 20), (.q, 21), (.q, 22), (.c, 23)] Tryd.mixed (by kernel_rfl) (by kernel_rfl) ?_
    refine vdq (mone rfl) (vmv rfl) rfl rfl ?_
    refine vdq (mone rfl) (vmv rfl) rfl rfl ?_
    refine vdq (mone rfl) (via rfl rfl (by omega)) rfl rfl ?_
    refine vdq (mone rfl) (vld1 rfl rfl) rfl rfl ?_
    refine vdq (mone rfl) (vfa rfl) rfl rfl ?_
    refine vdq (mone rfl) (vld1 rfl rfl) rfl rfl ?_
    refine vdq (mone rfl) (vmv rfl) rfl rfl ?_
    refine vdq (mone rfl) (via rfl rfl (by omega)) rfl rfl ?_
    refine vdq (mone rfl) (vld1 rfl rfl) rfl rfl ?_
    refine vdq (mone rfl) (vsub rfl rfl (by unfold InR; omega)) rfl rfl ?_
    refine vdq (mone rfl) (vcp rfl rfl rfl (c_region_limit_into _ _ (by omega))) rfl rfl ?_
    refine vdq (mone rfl) (vmv rfl) rfl rfl ?_
    refine vdq (mone rfl) (via rfl rfl (by omega)) rfl rfl ?_
    refine vdq (mone rfl) (vld1 rfl rfl) rfl rfl ?_
    refine vdq (mone rfl) (vfa rfl) rfl rfl ?_
    refine vdq (mone rfl) (vld1 rfl rfl) rfl rfl ?_
    refine vdq (mone rfl) (vmv rfl) rfl rfl ?_
    refine vdq (mone rfl) (via rfl rfl (by omega)) rfl rfl ?_
    refine vdq (mone rfl) (vld1 rfl rfl) rfl rfl ?_
    refine vdq (mone rfl) (vadd rfl rfl (by unfold InR; omega)) rfl rfl ?_
    refine vdq (mone rfl) (vcp rfl rfl rfl (c_region_limit_into _ _ (by omega))) rfl rfl ?_
    refine vdq (mone rfl) (vbd rfl rfl) rfl rfl ?_
    refine vdq (mone rfl) (via rfl rfl (by omega)) rfl rfl ?_
    refine vdcs (mone rfl) (vstn rfl rfl rfl rfl rfl) rfl ?_
    refine vdend rfl ?_
    refine vinblock ?_
    refine vregion ?_
    refine vone rfl (vxq (vadd rfl rfl (by unfold InR; omega)) rfl rfl ?_)
    refine vone rfl (vxq (vmv rfl) rfl rfl ?_)
    refine vnil ?_
    refine vinloop1 ?_
    refine vseq ?_
    refine vregion ?_
    refine vone rfl (vxq (vlss rfl rfl) rfl rfl ?_)
    refine vnil ?_
    refine vseq ?_
    refine vcondt rfl ?_
    refine vskip ?_
    refine vseq ?_
    refine vblock ?_
    refine vseq ?_
    refine vregion ?_
    refine vone rfl (vxq (vmv rfl) rfl rfl ?_)
    refine vone rfl (vxq (vixan rfl rfl (by omega) rfl) rfl rfl ?_)
    refine vone rfl (vxa valloc rfl rfl (fun b9 => ?_))
    refine vone rfl (vxq (vas rfl) rfl rfl ?_)
    refine vone rfl (vxs (vstn rfl rfl rfl rfl rfl) rfl ?_)
    refine vnil ?_
    refine vdraw0 [(.q, 0), (.q, 1), (.q, 2), (.q, 3), (.q, 4), (.q, 5), (.q, 6), (.q, 7), (.q, 8), (.q, 9), (.q, 10), (.q, 11), (.q, 12), (.q, 13), (.q, 14), (.q, 15), (.q, 16), (.q, 17), (.q, 18), (.q, 19), (.q, 20), (.q, 21), (.q, 22), (.c, 23)] Tryd.mixed (by kernel_rfl) (by kernel_rfl) ?_
    refine vdq (mone rfl) (vmv rfl) rfl rfl ?_
    refine vdq (mone rfl) (vmv rfl) rfl rfl ?_
    refine vdq (mone rfl) (via rfl rfl (by omega)) rfl rfl ?_
    refine vdq (mone rfl) (vld1 rfl rfl) rfl rfl ?_
    refine vdq (mone rfl) (vfa rfl) rfl rfl ?_
    refine vdq (mone rfl) (vld1 rfl rfl) rfl rfl ?_
    refine vdq (mone rfl) (vmv rfl) rfl rfl ?_
    refine vdq (mone rfl) (via rfl rfl (by omega)) rfl rfl ?_
    refine vdq (mone rfl) (vld1 rfl rfl) rfl rfl ?_
    refine vdq (mone rfl) (vsub rfl rfl (by unfold InR; omega)) rfl rfl ?_
    refine vdq (mone rfl) (vcp rfl rfl rfl (c_region_limit_into _ _ (by omega))) rfl rfl ?_
    refine vdq (mone rfl) (vmv rfl) rfl rfl ?_
    refine vdq (mone rfl) (via rfl rfl (by omega)) rfl rfl ?_
    refine vdq (mone rfl) (vld1 rfl rfl) rfl rfl ?_
    refine vdq (mone rfl) (vfa rfl) rfl rfl ?_
    refine vdq (mone rfl) (vld1 rfl rfl) rfl rfl ?_
    refine vdq (mone rfl) (vmv rfl) rfl rfl ?_
    refine vdq (mone rfl) (via rfl rfl (by omega)) rfl rfl ?_
    refine vdq (mone rfl) (vld1 rfl rfl) rfl rfl ?_
    refine vdq (mone rfl) (vadd rfl rfl (by unfold InR; omega)) rfl rfl ?_
    refine vdq (mone rfl) (vcp rfl rfl rfl (c_region_limit_into _ _ (by omega))) rfl rfl ?_
    refine vdq (mone rfl) (vbd rfl rfl) rfl rfl ?_
    refine vdq (mone rfl) (via rfl rfl (by omega)) rfl rfl ?_
    refine vdcs (mone rfl) (vstn rfl rfl rfl rfl rfl) rfl ?_
    refine vdend rfl ?_
    refine vinblock ?_
    refine vregion ?_
    refine vone rfl (vxq (vadd rfl rfl (by unfold InR; omega)) rfl rfl ?_)
    refine vone rfl (vxq (vmv rfl) rfl rfl ?_)
    refine vnil ?_
    refine vinloop1 ?_
    refine vseq ?_
    refine vregion ?_
    refine vone rfl (vxq (vlss rfl rfl) rfl rfl ?_)
    refine vnil ?_
    refine vseq ?_
    refine vcondf rfl ?_
    refine vexit (k' := _) rfl ?_
    refine vseq ?_
    refine vregion ?_
    refine vone rfl (vxq (vldn rfl rfl) rfl rfl ?_)
    refine vone rfl (vxq (vcp rfl rfl rfl (c_tight (wideR (optE (tightP r)).1 n (farP n)) ((wideR_sm _ _ _).mono (by decide)))) rfl rfl ?_)
    refine vone rfl (vxq (vex rfl rfl) rfl rfl ?_)
    refine vone rfl (vxq (vex rfl rfl) rfl rfl ?_)
    refine vone rfl (vxq (vcp rfl rfl rfl (c_doneO (tightP (wideR (optE (tightP r)).1 n (farP n))))) rfl rfl ?_)
    refine vone rfl (vxq (vex rfl rfl) rfl rfl ?_)
    refine vone rfl (vxq (vex rfl rfl) rfl rfl ?_)
    refine vone rfl (vxs (vstn rfl rfl rfl rfl rfl) rfl ?_)
    refine vone rfl (vxq (vas rfl) rfl rfl ?_)
    refine vnil ?_
    refine vret (vr2 (H' := H) Tryd.func99 rfl (.celln rfl rfl) (.tmp rfl) sb ?_)
    first | (rw [reachE_11 h17]; exact ⟨rfl, rfl⟩) | (rw [reachE_7 h17 (by omega)]; exact ⟨rfl, rfl⟩) | (rw [reachE_4 h17 (by omega) (errO_nz h31), show (optE (tightP r)).2 = 4 from errO_none (errO_nz h31)]; exact ⟨rfl, rfl⟩) | (obtain ⟨gx, ex⟩ := errO_z (nn h31); rw [reachE_0 h17 (by omega) ex]; exact ⟨by rw [ex]; rfl, rfl⟩)
end Go.Proofs.YtaplkoimhecacaaDoor
namespace Go.Proofs.YtaplkoimhecacaaDoor
open Go
set_option maxRecDepth 100000

attribute [local irreducible] tightP hullP rootP farP rows endsOf
abbrev clB (x : Bd) : List Value := [I x.lo, I x.hi]
/-- paravane/region.pick[paravane/api.Bound] -/
theorem h_pickBd {kf g : FuncId} [TFn Tryd.prog kf] [TFn Tryd.prog g] {caps : List Value} {Hi : Heap} {xs : List Bd} (better : Bd → Bd → Bool) (hit : VIt Tryd.prog kf caps (fun x => [vB x]) xs Hi) (hg : ∀ a b, VPure Tryd.prog g [vB a, vB b] (.bool (better a b))) : VHas Tryd.prog 111 [.func (.func kf) #[] caps.toArray, fnv g] (tup [vB ((pickL better xs).getD zB), .bool (pickL better xs).isSome]) Hi Hi := by
 refine vcall_of_vrun Tryd.func111 rfl (N := 20) rfl rfl ?_
 refine vseq ?_
 refine vregion ?_
 refine vone rfl (vxa (vbox rfl rfl) rfl rfl (fun b1 => ?_))
 refine vone rfl (vxa valloc rfl rfl (fun b2 => ?_))
 refine vone rfl (vxa valloc rfl rfl (fun b3 => ?_))
 refine vnil ?_
 refine vseq ?_
 refine vseq ?_
 refine vregion ?_
 refine vone rfl (vxq (vmv rfl) rfl rfl ?_)
 refine vnil ?_
 refine vblock ?_
 refine vrange (enc := (fun x => [vB x])) (xs := xs) (caps := caps) (Hi := Hi) (Hc := [(b3, blk [.bool (pickL better []).isSome] 4), (b2, blk (clB ((pickL better []).getD zB)) 53), (b1, blk [fnv g] 191)]) (ps := [8]) (fun pre H1 => H1 = [(b3, blk [.bool (pickL better pre).isSome] 4), (b2, blk (clB ((pickL better pre).getD zB)) 53), (b1, blk [fnv g] 191)]) (fun _ _ => False) rfl (hit) (List.perm_append_comm (l₁ := [(b3, blk [.bool (pickL better []).isSome] 4), (b2, blk (clB ((pickL better []).getD zB)) 53), (b1, blk [fnv g] 191)])) rfl (fun _ => rfl) rfl ?_ ?_ ?_
 ·
  intro lp rec pre x post H1 hrs hxs hI
  subst hI
  refine vregion ?_
  refine vone rfl (vxa valloc rfl rfl (fun b4 => ?_))
  refine vone rfl (vxs (vstn rfl rfl rfl rfl rfl) rfl ?_)
  refine vnil ?_
  refine vbegin hrs ?_
  refine vblock ?_
  refine vseq ?_
  refine vregion ?_
  refine vone rfl (vxq (vld1 rfl rfl) rfl rfl ?_)
  refine vone rfl (vxq (vnot rfl) rfl rfl ?_)
  refine vone rfl (vxq (vmv rfl) rfl rfl ?_)
  refine vsplit (d := 11) rfl (fun h11 => ?_) (fun h11 => ?_)
  ·
   refine vno rfl rfl rfl rfl rfl ?_
   refine vno rfl rfl rfl rfl rfl ?_
   refine vno rfl rfl rfl rfl rfl ?_
   refine vno rfl rfl rfl rfl rfl ?_
   refine vone rfl (vxq (vpkt rfl rfl) rfl rfl ?_)
   refine vnil ?_
   refine vcondt rfl ?_
   refine vregion ?_
   refine vone rfl (vxq (vldn rfl rfl) rfl rfl ?_)
   refine vone rfl (vxs (vstn rfl rfl rfl rfl rfl) rfl ?_)
   refine vone rfl (vxs (vst1 rfl rfl rfl rfl) rfl ?_)
   refine vnil ?_
   refine vinblock ?_
   refine vroundI_end (H' := [(b3, _), (b2, _), (b1, _)]) sb ?_
   first | (rw [pick_n (x := x) h11]; rfl) | (rw [pick_y (z := zB) (x := x) h11 h16]; rfl) | (rw [pick_k (z := zB) (x := x) h11 h16])
  ·
   refine vyes rfl rfl rfl (vxq (vld1 rfl rfl) rfl rfl ?_)
   refine vyes rfl rfl rfl (vxq (vldn rfl rfl) rfl rfl ?_)
   refine vyes rfl rfl rfl (vxq (vldn rfl rfl) rfl rfl ?_)
   refine vyes rfl rfl rfl (vxq (vcp rfl rfl rfl (hg x ((pickL better pre).getD zB))) rfl rfl ?_)
   refine vone rfl (vxq (vpkf rfl rfl) rfl rfl ?_)
   refine vnil ?_
   refine vcond rfl (fun h16 => ?_) (fun h16 => ?_)
   ·
    refine vregion ?_
    refine vone rfl (vxq (vldn rfl rfl) rfl rfl ?_)
    refine vone rfl (vxs (vstn rfl rfl rfl rfl rfl) rfl ?_)
    refine vone rfl (vxs (vst1 rfl rfl rfl rfl) rfl ?_)
    refine vnil ?_
    refine vinblock ?_
    refine vroundI_end (H' := [(b3, _), (b2, _), (b1, _)]) sb ?_
    first | (rw [pick_n (x := x) h11]; rfl) | (rw [pick_y (z := zB) (x := x) h11 h16]; rfl) | (rw [pick_k (z := zB) (x := x) h11 h16])
   ·
    refine vskip ?_
    refine vinblock ?_
    refine vroundI_end (H' := [(b3, _), (b2, _), (b1, _)]) sb ?_
    first | (rw [pick_n (x := x) h11]; rfl) | (rw [pick_y (z := zB) (x := x) h11 h16]; rfl) | (rw [pick_k (z := zB) (x := x) h11 h16])
 ·
  intro r1 H1 hI
  subst hI
  refine VRun.perm (H' := (r1, Obj.deferred (some [])) :: (b3, blk [.bool (pickL better xs).isSome] 4) :: (b2, blk (clB ((pickL better xs).getD zB)) 53) :: (b1, blk [fnv g] 191) :: Hi) ((List.perm_append_comm).cons _) ?_
  refine vinblock ?_
  refine vseq ?_
  refine vdraw0 [(.q, 0), (.q, 1), (.q, 2), (.q, 3)] Tryd.mixed (by kernel_rfl) (by kernel_rfl) ?_
  refine vdq (mone rfl) (vldn rfl rfl) rfl rfl ?_
  refine vdq (mone rfl) (vld1 rfl rfl) rfl rfl ?_
  refine vdqn (mone rfl) (vstns rfl rfl rfl rfl rfl) rfl ?_
  refine vdqn (mone rfl) (vst1s rfl rfl rfl rfl) rfl ?_
  refine vdend rfl ?_
  refine vret (vret_mark (vr2 (H' := Hi) Tryd.func111 rfl (.celln rfl rfl) (.cell1 rfl rfl) sb ?_))
  exact ⟨rfl, rfl⟩
 ·
  intro r1 c H1 hI
  exact hI.elim
end Go.Proofs.YtaplkoimhecacaaDoor
namespace Go.Proofs.YtaplkoimhecacaaDoor
open Go
set_option maxRecDepth 100000

attribute [local irreducible] tightP hullP rootP farP rows endsOf pickL sqL
theorem abs_mul_bd {a b m k : Int} (ha : -m ≤ a ∧ a ≤ m) (hb : -k ≤ b ∧ b ≤ k) : -(m * k) ≤ a * b ∧ a * b ≤ m * k := by
  have h1 := Int.mul_nonneg (show 0 ≤ m - a by omega) (show 0 ≤ k + b by omega)
  have h2 := Int.mul_nonneg (show 0 ≤ m + a by omega) (show 0 ≤ k - b by omega)
  have h3 := Int.mul_nonneg (show 0 ≤ m - a by omega) (show 0 ≤ k - b by omega)
  have h4 := Int.mul_nonneg (show 0 ≤ m + a by omega) (show 0 ≤ k + b by omega)
  simp only [Int.add_mul, Int.mul_add, Int.sub_mul, Int.mul_sub] at h1 h2 h3 h4
  omega
theorem map_split {α β : Type} {f : α → β} {l pre post : List α} {x : α} (h : l = pre ++ x :: post) : l.map f = pre.map f ++ f x :: post.map f := by rw [h]; simp
theorem map_snoc {α β : Type} {f : α → β} {pre : List α} {x : α} : (pre ++ [x]).map f = pre.map f ++ [f x] := by simp


theorem sqI_bd {f : Rg} (hf : f.sm 524288) {p : Pt} (hp : p.sm 524288) {w : Rw} (hw : w ∈ rows f) : ((-1048576 ≤ w.x - p.x ∧ w.x - p.x ≤ 1048576) ∧ (-1048576 ≤ nearY p w ∧ nearY p w ≤ 1048576) ∧ (-1048576 ≤ w.a - p.y ∧ w.a - p.y ≤ 1048576) ∧ (-1048576 ≤ w.b - p.y ∧ w.b - p.y ≤ 1048576)) ∧
    ((0 ≤ (w.x - p.x) * (w.x - p.x) ∧ (w.x - p.x) * (w.x - p.x) ≤ 1099511627776) ∧ (0 ≤ nearY p w * nearY p w ∧ nearY p w * nearY p w ≤ 1099511627776) ∧ (0 ≤ (w.a - p.y) * (w.a - p.y) ∧ (w.a - p.y) * (w.a - p.y) ≤ 1099511627776) ∧ (0 ≤ (w.b - p.y) * (w.b - p.y) ∧ (w.b - p.y) * (w.b - p.y) ≤ 1099511627776)) := by
  have h := rows_sm hf hw
  unfold Pt.sm at hp
  have sqb : ∀ a : Int, (-1048576 ≤ a ∧ a ≤ 1048576) → 0 ≤ a * a ∧ a * a ≤ 1099511627776 := fun a ha => ⟨sq_nn a, by have := abs_mul_bd ha ha; omega⟩
  have h1 : -1048576 ≤ w.x - p.x ∧ w.x - p.x ≤ 1048576 := by omega
  have h2 : -1048576 ≤ nearY p w ∧ nearY p w ≤ 1048576 := by unfold nearY; omega
  have h3 : -1048576 ≤ w.a - p.y ∧ w.a - p.y ≤ 1048576 := by omega
  have h4 : -1048576 ≤ w.b - p.y ∧ w.b - p.y ≤ 1048576 := by omega
  exact ⟨⟨h1, h2, h3, h4⟩, sqb _ h1, sqb _ h2, sqb _ h3, sqb _ h4⟩

/-- paravane/region.squares$1 -/
theorem it_sq (f : Rg) (p : Pt) (hf : f.sm 524288) (hp : p.sm 524288) (bf bp : Nat) : VIt Tryd.prog 109 [ptr bf, ptr bp] (fun b => [vB b]) ((rows f).map (sqI p)) [(bp, blk [I p.x, I p.y] 73) , (bf, blk (clR f) 137)] := by
 have hs : f.sm 1099511627776 := hf.mono (by decide)
 have hf2 := hf
 have hp2 := hp
 unfold Rg.sm Bd.sm at hf2
 unfold Pt.sm at hp2
 intro yf ya yc J Jx Hc0 hJ0 hy
 change VCall _ _ _ ((bp, blk [I p.x, I p.y] 73) :: (bf, blk (clR f) 137) :: Hc0) _
 refine vcall_of_vrun Tryd.func109 rfl (N := 60) rfl rfl ?_
 refine vseq ?_
 refine vregion ?_
 refine vone rfl (vxa (vbox rfl rfl) rfl rfl (fun b1 => ?_))
 refine vnil ?_
 refine vseq ?_
 refine vregion ?_
 refine vone rfl (vxq (vldn rfl rfl) rfl rfl ?_)
 refine vone rfl (vxg (vcnew rfl rfl rfl (n_rows f)) rfl rfl ?_)
 rintro _ _ ⟨b2, rfl, rfl⟩
 refine vnil ?_
 refine vblock ?_
 refine vrange (enc := (fun w => [vW w])) (xs := (rows f)) (caps := [ptr b2]) (Hi := [bR b2 f]) (Hc := ((b1, blk [.func yf ya yc] 178) :: (bp, blk [I p.x, I p.y] 73) :: (bf, blk (clR f) 137) :: Hc0)) (ps := [11]) (fun pre H1 => ∃ Hc, H1 = (b1, blk [.func yf ya yc] 178) :: (bp, blk [I p.x, I p.y] 73) :: (bf, blk (clR f) 137) :: Hc ∧ J (pre.map (sqI p)) Hc) (fun c H1 => c = .ret ∧ ∃ Hc, H1 = (b1, blk [.func yf ya yc] 178) :: (bp, blk [I p.x, I p.y] 73) :: (bf, blk (clR f) 137) :: Hc ∧ Jx Hc) rfl (it_rows f hs b2) (List.Perm.refl _) ⟨_, rfl, hJ0⟩ (fun _ => rfl) rfl ?_ ?_ ?_
 ·
  intro lp rec pre x post H1 hrs hxs hI
  obtain ⟨Hc, rfl, hJ⟩ := hI
  have hbd := sqI_bd hf hp (w := x) (by rw [hxs]; simp)
  refine vregion ?_
  refine vone rfl (vxa valloc rfl rfl (fun b3 => ?_))
  refine vone rfl (vxs (vstn rfl rfl rfl rfl rfl) rfl ?_)
  refine vnil ?_
  refine vbegin hrs ?_
  refine vblock ?_
  refine vseq ?_
  refine vregion ?_
  refine vone rfl (vxq (vfa rfl) rfl rfl ?_)
  refine vone rfl (vxq (vld1 rfl rfl) rfl rfl ?_)
  refine vone rfl (vxq (vfa rfl) rfl rfl ?_)
  refine vone rfl (vxq (vld1 rfl rfl) rfl rfl ?_)
  refine vone rfl (vxq (vsub rfl rfl (by simp only [nearY] at hbd; unfold InR; omega)) rfl rfl ?_)
  refine vone rfl (vxq (vas rfl) rfl rfl ?_)
  refine vnil ?_
  refine vseq ?_
  refine vdraw0 [(.q, 0), (.q, 1), (.q, 2), (.q, 3), (.q, 4), (.q, 5), (.q, 6), (.q, 7), (.q, 8), (.q, 9), (.q, 10), (.q, 11), (.q, 12), (.q, 13), (.q, 14), (.q, 15), (.q, 16), (.q, 17), (.q, 18), (.q, 19), (.q, 20), (.q, 21), (.q, 22), (.q, 23)] Tryd.mixed (by kernel_rfl) (by kernel_rfl) ?_
  refine vdq (mone rfl) (vfa rfl) rfl rfl ?_
  refine vdq (mone rfl) (vld1 rfl rfl) rfl rfl ?_
  refine vdq (mone rfl) (vfa rfl) rfl rfl ?_
  refine vdq (mone rfl) (vld1 rfl rfl) rfl rfl ?_
  refine vdq (mone rfl) (vfa rfl) rfl rfl ?_
  refine vdq (mone rfl) (vld1 rfl rfl) rfl rfl ?_
  refine vdq (mone rfl) (vmin2 rfl rfl) rfl rfl ?_
  refine vdq (mone rfl) (vmax2 rfl rfl) rfl rfl ?_
  refine vdq (mone rfl) (vfa rfl) rfl rfl ?_
  refine vdq (mone rfl) (vld1 rfl rfl) rfl rfl ?_
  refine vdq (mone rfl) (vsub rfl rfl (by simp only [nearY] at hbd; unfold InR; omega)) rfl rfl ?_
  refine vdq (mone rfl) (vfa rfl) rfl rfl ?_
  refine vdq (mone rfl) (vld1 rfl rfl) rfl rfl ?_
  refine vdq (mone rfl) (vfa rfl) rfl rfl ?_
  refine vdq (mone rfl) (vld1 rfl rfl) rfl rfl ?_
  refine vdq (mone rfl) (vsub rfl rfl (by simp only [nearY] at hbd; unfold InR; omega)) rfl rfl ?_
  refine vdq (mone rfl) (vfa rfl) rfl rfl ?_
  refine vdq (mone rfl) (vld1 rfl rfl) rfl rfl ?_
  refine vdq (mone rfl) (vfa rfl) rfl rfl ?_
  refine vdq (mone rfl) (vld1 rfl rfl) rfl rfl ?_
  refine vdq (mone rfl) (vsub rfl rfl (by simp only [nearY] at hbd; unfold InR; omega)) rfl rfl ?_
  refine vdq (mone rfl) (vas rfl) rfl rfl ?_
  refine vdq (mone rfl) (vas rfl) rfl rfl ?_
  refine vdq (mone rfl) (vas rfl) rfl rfl ?_
  refine vdend rfl ?_
  refine vseq ?_
  refine vregion ?_
  refine vone rfl (vxq (vld1 rfl rfl) rfl rfl ?_)
  refine vone rfl (vxq (vmv rfl) rfl rfl ?_)
  refine vone rfl (vxq (vmv rfl) rfl rfl ?_)
  refine vone rfl (vxq (vmul rfl rfl (by simp only [nearY] at hbd; unfold InR; omega)) rfl rfl ?_)
  refine vone rfl (vxq (vmv rfl) rfl rfl ?_)
  refine vone rfl (vxq (vmv rfl) rfl rfl ?_)
  refine vone rfl (vxq (vmul rfl rfl (by simp only [nearY] at hbd; unfold InR; omega)) rfl rfl ?_)
  refine vone rfl (vxq (vadd rfl rfl (by simp only [nearY] at hbd; unfold InR; omega)) rfl rfl ?_)
  refine vone rfl (vxq (vmv rfl) rfl rfl ?_)
  refine vone rfl (vxq (vmv rfl) rfl rfl ?_)
  refine vone rfl (vxq (vmul rfl rfl (by simp only [nearY] at hbd; unfold InR; omega)) rfl rfl ?_)
  refine vone rfl (vxq (vmv rfl) rfl rfl ?_)
  refine vone rfl (vxq (vmv rfl) rfl rfl ?_)
  refine vone rfl (vxq (vmul rfl rfl (by simp only [nearY] at hbd; unfold InR; omega)) rfl rfl ?_)
  refine vone rfl (vxq (vmv rfl) rfl rfl ?_)
  refine vone rfl (vxq (vmv rfl) rfl rfl ?_)
  refine vone rfl (vxq (vmul rfl rfl (by simp only [nearY] at hbd; unfold InR; omega)) rfl rfl ?_)
  refine vone rfl (vxq (vmax2 rfl rfl) rfl rfl ?_)
  refine vone rfl (vxq (vadd rfl rfl (by simp only [nearY] at hbd; unfold InR; omega)) rfl rfl ?_)
  refine vone rfl (vxq (vbd rfl rfl) rfl rfl ?_)
  refine vone rfl (vxg (vcy rfl rfl (VY.b5 (hy _ (sqI p x) _ (map_split hxs) _ hJ))) rfl rfl ?_)
  rintro _ _ ⟨bb, rfl, Hc, rfl, hJ⟩
  rcases bb with _ | _
  ·
   refine vone rfl (vxq (vnot rfl) rfl rfl ?_)
   refine vnil ?_
   refine vcondt rfl ?_
   refine vroundI_ret (H' := (b1, blk [.func yf ya yc] 178) :: (bp, _) :: (bf, _) :: Hc) sb ?_
   exact ⟨rfl, _, rfl, hJ⟩
  ·
   refine vone rfl (vxq (vnot rfl) rfl rfl ?_)
   refine vnil ?_
   refine vcondf rfl ?_
   refine vskip ?_
   refine vinblock ?_
   refine vroundI_end (H' := (b1, blk [.func yf ya yc] 178) :: (bp, _) :: (bf, _) :: Hc) sb ?_
   exact ⟨_, rfl, by rw [map_snoc]; exact hJ⟩
 ·
  intro r1 H1 hI
  obtain ⟨Hc, rfl, hJ⟩ := hI
  change VRun _ _ _ _ _ _ _ ((r1, Obj.deferred (some [])) :: bR b2 f :: (b1, blk [.func yf ya yc] 178) :: (bp, blk [I p.x, I p.y] 73) :: (bf, blk (clR f) 137) :: Hc) _
  refine vinblock ?_
  refine vend (vret_mark (vr0 (H' := (bp, blk [I p.x, I p.y] 73) :: (bf, blk (clR f) 137) :: Hc) Tryd.func109 rfl  sb ?_))
  first | exact ⟨rfl, Hc, rfl, .inl hJ⟩ | exact ⟨rfl, Hc, rfl, .inr hJ⟩
 ·
  intro r1 c H1 hI
  obtain ⟨rfl, Hc, rfl, hJ⟩ := hI
  change VRun _ _ _ _ _ _ _ ((r1, Obj.deferred (some [])) :: bR b2 f :: (b1, blk [.func yf ya yc] 178) :: (bp, blk [I p.x, I p.y] 73) :: (bf, blk (clR f) 137) :: Hc) _
  refine vret (vret_mark (vr0 (H' := (bp, blk [I p.x, I p.y] 73) :: (bf, blk (clR f) 137) :: Hc) Tryd.func109 rfl  sb ?_))
  first | exact ⟨rfl, Hc, rfl, .inl hJ⟩ | exact ⟨rfl, Hc, rfl, .inr hJ⟩
/-- paravane/region.squares$2 -/
theorem c_lessB (a b : Bd) : VPure Tryd.prog 112 [vB a, vB b] (.bool (lessB a b)) := by
 intro H
 refine vcall_of_vrun Tryd.func112 rfl (N := 10) rfl rfl ?_
 refine vseq ?_
 refine vregion ?_
 refine vone rfl (vxa (vbox rfl rfl) rfl rfl (fun b1 => ?_))
 refine vone rfl (vxa (vbox rfl rfl) rfl rfl (fun b2 => ?_))
 refine vone rfl (vxq (vas rfl) rfl rfl ?_)
 refine vnil ?_
 refine vseq ?_
 refine vregion ?_
 refine vone rfl (vxq (vfa rfl) rfl rfl ?_)
 refine vone rfl (vxq (vld1 rfl rfl) rfl rfl ?_)
 refine vone rfl (vxq (vfa rfl) rfl rfl ?_)
 refine vone rfl (vxq (vld1 rfl rfl) rfl rfl ?_)
 refine vone rfl (vxq (vlss rfl rfl) rfl rfl ?_)
 refine vone rfl (vxq (vas rfl) rfl rfl ?_)
 refine vnil ?_
 refine vret (vr1 (H' := H) Tryd.func112 rfl (.tmp rfl) sb ?_)
 exact ⟨rfl, rfl⟩
/-- paravane/region.squares$3 -/
theorem c_moreB (a b : Bd) : VPure Tryd.prog 113 [vB a, vB b] (.bool (moreB a b)) := by
 intro H
 refine vcall_of_vrun Tryd.func113 rfl (N := 10) rfl rfl ?_
 refine vseq ?_
 refine vregion ?_
 refine vone rfl (vxa (vbox rfl rfl) rfl rfl (fun b1 => ?_))
 refine vone rfl (vxa (vbox rfl rfl) rfl rfl (fun b2 => ?_))
 refine vone rfl (vxq (vas rfl) rfl rfl ?_)
 refine vnil ?_
 refine vseq ?_
 refine vregion ?_
 refine vone rfl (vxq (vfa rfl) rfl rfl ?_)
 refine vone rfl (vxq (vld1 rfl rfl) rfl rfl ?_)
 refine vone rfl (vxq (vfa rfl) rfl rfl ?_)
 refine vone rfl (vxq (vld1 rfl rfl) rfl rfl ?_)
 refine vone rfl (vxq (vgtr rfl rfl) rfl rfl ?_)
 refine vone rfl (vxq (vas rfl) rfl rfl ?_)
 refine vnil ?_
 refine vret (vr1 (H' := H) Tryd.func113 rfl (.tmp rfl) sb ?_)
 exact ⟨rfl, rfl⟩
/-- paravane/region.squares -/
theorem c_squares (f : Rg) (p : Pt) (hf : f.sm 524288) (hp : p.sm 524288) : VPure Tryd.prog 76 [vR f, vP p] (tup [vB ((sqP f p).getD zB), .bool (sqP f p).isSome]) := by
 intro H
 refine vcall_of_vrun Tryd.func76 rfl (N := 28) rfl rfl ?_
 refine vseq ?_
 refine vregion ?_
 refine vone rfl (vxa (vbox rfl rfl) rfl rfl (fun b1 => ?_))
 refine vone rfl (vxa (vbox rfl rfl) rfl rfl (fun b2 => ?_))
 refine vone rfl (vxa valloc rfl rfl (fun b3 => ?_))
 refine vone rfl (vxq (vas rfl) rfl rfl ?_)
 refine vnil ?_
 refine vseq ?_
 refine vregion ?_
 refine vone rfl (vxq (vmf rfl) rfl rfl ?_)
 refine vone rfl (vxq (vas rfl) rfl rfl ?_)
 refine vnil ?_
 refine vseq ?_
 refine vregion ?_
 refine vone rfl (vxq (vmv rfl) rfl rfl ?_)
 refine vone rfl (vxq (vcq rfl rfl rfl ((h_pickBd lessB (it_sq f p hf hp b1 b2) c_lessB).keepSub sb)) rfl rfl ?_)
 refine vone rfl (vxq (vmv rfl) rfl rfl ?_)
 refine vone rfl (vxq (vex rfl rfl) rfl rfl ?_)
 refine vone rfl (vxq (vex rfl rfl) rfl rfl ?_)
 refine vone rfl (vxa valloc rfl rfl (fun b4 => ?_))
 refine vone rfl (vxs (vstn rfl rfl rfl rfl rfl) rfl ?_)
 refine vone rfl (vxq (vas rfl) rfl rfl ?_)
 refine vnil ?_
 refine vseq ?_
 refine vregion ?_
 refine vone rfl (vxq (vmv rfl) rfl rfl ?_)
 refine vone rfl (vxq (vcq rfl rfl rfl ((h_pickBd moreB (it_sq f p hf hp b1 b2) c_moreB).keepSub sb)) rfl rfl ?_)
 refine vone rfl (vxq (vmv rfl) rfl rfl ?_)
 refine vone rfl (vxq (vex rfl rfl) rfl rfl ?_)
 refine vone rfl (vxq (vex rfl rfl) rfl rfl ?_)
 refine vone rfl (vxa valloc rfl rfl (fun b5 => ?_))
 refine vone rfl (vxs (vstn rfl rfl rfl rfl rfl) rfl ?_)
 refine vone rfl (vxq (vas rfl) rfl rfl ?_)
 refine vnil ?_
 refine vseq ?_
 refine vregion ?_
 refine vone rfl (vxq (vfa rfl) rfl rfl ?_)
 refine vone rfl (vxq (vld1 rfl rfl) rfl rfl ?_)
 refine vone rfl (vxq (vfa rfl) rfl rfl ?_)
 refine vone rfl (vxq (vld1 rfl rfl) rfl rfl ?_)
 refine vone rfl (vxq (vbd rfl rfl) rfl rfl ?_)
 refine vone rfl (vxq (vmv rfl) rfl rfl ?_)
 refine vone rfl (vxs (vstn rfl rfl rfl rfl rfl) rfl ?_)
 refine vone rfl (vxq (vas rfl) rfl rfl ?_)
 refine vnil ?_
 refine vret (vr2 (H' := H) Tryd.func76 rfl (.celln rfl rfl) (.tmp rfl) sb ?_)
 exact ⟨oT (by unfold sqP; rw [← sq_pick_some, sq_pick_lo, sq_pick_hi]), rfl⟩
end Go.Proofs.YtaplkoimhecacaaDoor
namespace Go.Proofs.YtaplkoimhecacaaDoor
open Go
set_option maxRecDepth 100000

attribute [local irreducible] tightP hullP rootP farP rows endsOf pickL sqL sqP twoE
theorem zP_sm : zP.sm 524288 := by unfold Pt.sm zP; simp only; omega
theorem gap_sm (a b : Rg) : ((twoE a b).1.map2 Bd.minus (twoE a b).2.1).sm 524288 := (minus_sm (twoE_sm a b).1 (twoE_sm a b).2).mono (by decide)

/-- paravane/region.Gap -/
theorem c_Gap (a b : Rg) : VPure Tryd.prog 34 [vR a, vR b] (tup [vB (gapE a b).1, I (gapE a b).2]) := by
 intro H
 refine vcall_of_vrun Tryd.func34 rfl (N := 31) rfl rfl ?_
 refine vseq ?_
 refine vregion ?_
 refine vone rfl (vxa (vbox rfl rfl) rfl rfl (fun b1 => ?_))
 refine vone rfl (vxa (vbox rfl rfl) rfl rfl (fun b2 => ?_))
 refine vone rfl (vxa valloc rfl rfl (fun b3 => ?_))
 refine vone rfl (vxq (vas rfl) rfl rfl ?_)
 refine vnil ?_
 refine vseq ?_
 refine vregion ?_
 refine vone rfl (vxq (vldn rfl rfl) rfl rfl ?_)
 refine vone rfl (vxq (vldn rfl rfl) rfl rfl ?_)
 refine vone rfl (vxq (vcp rfl rfl rfl (c_two a b)) rfl rfl ?_)
 refine vone rfl (vxq (vmv rfl) rfl rfl ?_)
 refine vone rfl (vxq (vex rfl rfl) rfl rfl ?_)
 refine vone rfl (vxq (vex rfl rfl) rfl rfl ?_)
 refine vone rfl (vxq (vex rfl rfl) rfl rfl ?_)
 refine vone rfl (vxa valloc rfl rfl (fun b4 => ?_))
 refine vone rfl (vxa valloc rfl rfl (fun b5 => ?_))
 refine vone rfl (vxs (vstn rfl rfl rfl rfl rfl) rfl ?_)
 refine vone rfl (vxs (vstn rfl rfl rfl rfl rfl) rfl ?_)
 refine vone rfl (vxq (vas rfl) rfl rfl ?_)
 refine vnil ?_
 refine vseq ?_
 refine vseq ?_
 refine vregion ?_
 refine vone rfl (vxq (vmv rfl) rfl rfl ?_)
 refine vone rfl (vxq (vneq rfl rfl) rfl rfl ?_)
 refine vnil ?_
 refine vcondd rfl (fun h19 => ?_) (fun h19 => ?_)
 ·
  refine vseq ?_
  refine vregion ?_
  refine vone rfl (vxq (vbd rfl rfl) rfl rfl ?_)
  refine vone rfl (vxq (vmv rfl) rfl rfl ?_)
  refine vone rfl (vxs (vstn rfl rfl rfl rfl rfl) rfl ?_)
  refine vone rfl (vxq (vas rfl) rfl rfl ?_)
  refine vnil ?_
  refine vret (vr2 (H' := H) Tryd.func34 rfl (.celln rfl rfl) (.tmp rfl) sb ?_)
  first | (rw [show gapE a b = (zB, (twoE a b).2.2) from if_neg h19]; exact ⟨rfl, rfl⟩) | (rw [show gapE a b = ((sqP ((twoE a b).1.map2 Bd.minus (twoE a b).2.1) zP).getD zB, 0) from if_pos (nn h19)]; exact ⟨rfl, rfl⟩)
 ·
  refine vskip ?_
  refine vseq ?_
  refine vregion ?_
  refine vone rfl (vxq (vldn rfl rfl) rfl rfl ?_)
  refine vone rfl (vxq (vldn rfl rfl) rfl rfl ?_)
  refine vone rfl (vxq (vcp rfl rfl rfl (c_minus4 (twoE a b).1 (twoE a b).2.1 ((twoE_sm a b).1.mono (by decide)) ((twoE_sm a b).2.mono (by decide)))) rfl rfl ?_)
  refine vone rfl (vxq (vbd rfl rfl) rfl rfl ?_)
  refine vone rfl (vxq (vcp rfl rfl rfl (c_squares ((twoE a b).1.map2 Bd.minus (twoE a b).2.1) zP (gap_sm a b) zP_sm)) rfl rfl ?_)
  refine vone rfl (vxq (vmv rfl) rfl rfl ?_)
  refine vone rfl (vxq (vex rfl rfl) rfl rfl ?_)
  refine vone rfl (vxq (vex rfl rfl) rfl rfl ?_)
  refine vone rfl (vxa valloc rfl rfl (fun b6 => ?_))
  refine vone rfl (vxs (vstn rfl rfl rfl rfl rfl) rfl ?_)
  refine vone rfl (vxq (vas rfl) rfl rfl ?_)
  refine vnil ?_
  refine vseq ?_
  refine vregion ?_
  refine vone rfl (vxq (vldn rfl rfl) rfl rfl ?_)
  refine vone rfl (vxs (vstn rfl rfl rfl rfl rfl) rfl ?_)
  refine vone rfl (vxq (vas rfl) rfl rfl ?_)
  refine vnil ?_
  refine vret (vr2 (H' := H) Tryd.func34 rfl (.celln rfl rfl) (.tmp rfl) sb ?_)
  first | (rw [show gapE a b = (zB, (twoE a b).2.2) from if_neg h19]; exact ⟨rfl, rfl⟩) | (rw [show gapE a b = ((sqP ((twoE a b).1.map2 Bd.minus (twoE a b).2.1) zP).getD zB, 0) from if_pos (nn h19)]; exact ⟨rfl, rfl⟩)
end Go.Proofs.YtaplkoimhecacaaDoor
namespace Go.Proofs.YtaplkoimhecacaaDoor
open Go
abbrev clWn (w : Wn) : List Value := [I w.zone, I w.speed, I w.hold, I w.pre, I w.delay, I w.soft, I w.pause]
abbrev vWn (w : Wn) : Value := .agg (clWn w).toArray
abbrev clSg (x : Sg) : List Value := [I x.st, .string x.nm, I x.oc, I x.nr, I x.fr]
abbrev vSg (x : Sg) : Value := .agg (clSg x).toArray
abbrev encB (b : Bool) : List Value := [.bool b]
/-- Where the slices of a scene lie. -/
structure SH where
  a1 : Option Addr
  c1 : Nat
  a2 : Option Addr
  c2 : Nat
  a3 : Option Addr
  c3 : Nat
  a4 : Option Addr
  c4 : Nat
  a5 : Option Addr
  c5 : Nat
abbrev clSc (h : SH) (s : Sc) : List Value := [.slice h.a1 s.ship.length h.c1, .slice h.a2 s.src.length h.c2, .slice h.a3 s.eyes.length h.c3, .slice h.a4 s.ears.length h.c4, .slice h.a5 s.sg.length h.c5]
abbrev vSc (h : SH) (s : Sc) : Value := .agg (clSc h s).toArray
/-- The slices of a scene are there. -/
class ScO (H : Heap) (h : SH) (s : Sc) : Prop where
  ship : SlO H h.a1 8 clR s.ship
  src : SlO H h.a2 8 clR s.src
  eyes : SlO H h.a3 1 encB s.eyes
  ears : SlO H h.a4 1 encB s.ears
  sg : SlO H h.a5 5 clSg s.sg
  cap : s.eyes.length ≤ h.c3 ∧ s.ears.length ≤ h.c4
  nm : ∀ x ∈ s.sg, x.nm.size ≤ 9223372036854775807
  bd : s.ship.length ≤ 9223372036854775807 ∧ s.src.length ≤ 9223372036854775807 ∧ s.eyes.length ≤ 9223372036854775807 ∧ s.ears.length ≤ 9223372036854775807 ∧ s.sg.length ≤ 9223372036854775807
theorem ScO.sub {H H' : Heap} {h : SH} {s : Sc} (hs : ScO H h s) (hm : ∀ e ∈ H, e ∈ H') : ScO H' h s := ⟨hs.ship.sub hm, hs.src.sub hm, hs.eyes.sub hm, hs.ears.sub hm, hs.sg.sub hm, hs.cap, hs.nm, hs.bd⟩
instance (priority := low) ScO.tail {x : Nat × Obj} {H : Heap} {h : SH} {s : Sc} [hs : ScO H h s] : ScO (x :: H) h s := hs.sub fun _e he => List.mem_cons_of_mem _ he
instance ScO.appL {A B : Heap} {h : SH} {s : Sc} [hs : ScO A h s] : ScO (A ++ B) h s := hs.sub fun _e he => List.mem_append_left _ he
instance (priority := low) ScO.appR {A B : Heap} {h : SH} {s : Sc} [hs : ScO B h s] : ScO (A ++ B) h s := hs.sub fun _e he => List.mem_append_right _ he
instance ScO.i1 {H : Heap} {h : SH} {s : Sc} [hs : ScO H h s] : SlO H h.a1 8 clR s.ship := hs.ship
instance ScO.i2 {H : Heap} {h : SH} {s : Sc} [hs : ScO H h s] : SlO H h.a2 8 clR s.src := hs.src
instance ScO.i3 {H : Heap} {h : SH} {s : Sc} [hs : ScO H h s] : SlO H h.a3 1 encB s.eyes := hs.eyes
instance ScO.i4 {H : Heap} {h : SH} {s : Sc} [hs : ScO H h s] : SlO H h.a4 1 encB s.ears := hs.ears
instance ScO.i5 {H : Heap} {h : SH} {s : Sc} [hs : ScO H h s] : SlO H h.a5 5 clSg s.sg := hs.sg
instance (priority := low) SlO.appR {α : Type} {A B : Heap} {oa : Option Addr} {esz : Nat} {enc : α → List Value} {l : List α} [h : SlO B oa esz enc l] : SlO (A ++ B) oa esz enc l := h.sub fun _e he => List.mem_append_right _ he
/-- The variables of package watch. -/
def octL : List Value := [fnv 145, fnv 147, fnv 148, fnv 149, fnv 150, fnv 151, fnv 152, fnv 153]
class Glob (H : Heap) : Prop where
  first : SlO H (some ⟨0, 0, Option.none⟩) 2 (fun l : List Value => l) [[I 0, I (-1)]]
  oct : SlO H (some ⟨1, 0, Option.none⟩) 1 (fun v : Value => [v]) octL
theorem Glob.sub {H H' : Heap} (h : Glob H) (hm : ∀ e ∈ H, e ∈ H') : Glob H' := ⟨h.first.sub hm, h.oct.sub hm⟩
instance (priority := low) Glob.tail {x : Nat × Obj} {H : Heap} [h : Glob H] : Glob (x :: H) := h.sub fun _e he => List.mem_cons_of_mem _ he
instance Glob.appL {A B : Heap} [h : Glob A] : Glob (A ++ B) := h.sub fun _e he => List.mem_append_left _ he
instance (priority := low) Glob.appR {A B : Heap} [h : Glob B] : Glob (A ++ B) := h.sub fun _e he => List.mem_append_right _ he

section
variable {P : Program} {f : FuncId} {ro : Option Nat} {N : Nat} {k : List Item} {E : Env} {D : List Deferred} {H : Heap} {Q : Out → Heap → Prop}
variable {d : Nat} {x y : Operand} {T ty : TypeId} {pos : String} {af : Array Edge} {g : Option (Nat × Bool)}
theorem veqb {p q : Bool} {T' : TypeId} (hT : P.underlying T = some .bool) (hx : ev E x = some (.bool p)) (hy : ev E y = some (.bool q)) :
    OQ P N E D H ⟨some d, .binOp .eql T x y T', ty, pos, af, g⟩ (.bool (p == q)) :=
  ov (by simp) (fun t w hA _ => by
    have := run_eql_bool (P := P) (w := w) T p q hT
    simp [execOp, ev_eval hA hx, ev_eval hA hy, eqGuard, this])
theorem bytesEq (a b : ByteArray) : (a.toList == b.toList) = decide (a = b) := by
  rw [ByteArray.toList_eq, ByteArray.toList_eq]
  obtain ⟨⟨l⟩⟩ := a
  obtain ⟨⟨m⟩⟩ := b
  by_cases h : l = m
  · subst h; simp
  · have : (⟨⟨l⟩⟩ : ByteArray) ≠ ⟨⟨m⟩⟩ := fun e => h (congrArg (fun x : ByteArray => x.data.toList) e)
    rw [decide_eq_false this]
    simpa using h
theorem veqst {a b : ByteArray} {T' : TypeId} (hx : ev E x = some (.string a)) (hy : ev E y = some (.string b)) :
    OQ P N E D H ⟨some d, .binOp .eql T x y T', ty, pos, af, g⟩ (.bool (decide (a = b))) :=
  ov (by simp) (fun t w hA _ => by simp [execOp, ev_eval hA hx, ev_eval hA hy, eqGuard, binOp, Op.stringOp, bytesEq])
theorem vnest {a b : ByteArray} {T' : TypeId} (hx : ev E x = some (.string a)) (hy : ev E y = some (.string b)) :
    OQ P N E D H ⟨some d, .binOp .neq T x y T', ty, pos, af, g⟩ (.bool (decide (a ≠ b))) :=
  ov (by simp) (fun t w hA _ => by simp [execOp, ev_eval hA hx, ev_eval hA hy, eqGuard, binOp, Op.stringOp, bytesEq])
/-- A part of a slice. -/
def atS (oa : Option Addr) (c l esz : Nat) : Option Addr := if c = l then oa else oa.map (·.add (l * esz))
theorem vslc {oa : Option Addr} {n c e esz : Nat} {lo hi : Operand} {kl kh : IntKind} {l h : Int} [hT : TSl P T e esz] (hx : ev E x = some (.slice oa n c)) (hl : ev E lo = some (.int kl l)) (hh : ev E hi = some (.int kh h)) (h0 : 0 ≤ l) (h1 : l ≤ h) (h2 : h ≤ c) :
    OQ P N E D H ⟨some d, .slice T x (some lo) (some hi) Option.none, ty, pos, af, g⟩ (.slice (atS oa c l.toNat esz) (h - l).toNat (c - l.toNat)) :=
  ov (by simp) (fun t w hA hE => by
    have hu := hT.und
    have e1 : (Instr.sliceBound (.int kh h) c .sliceAcap).run P w = .ok h.toNat w := run_sliceBound w kh h c _ (by omega) h2
    have e2 : (Instr.sliceBound (.int kl l) h.toNat .sliceB).run P w = .ok l.toNat w := run_sliceBound w kl l h.toNat _ h0 (by omega)
    have e3 : h.toNat - l.toNat = (h - l).toNat := by omega
    simp [execOp, ev_eval hA hx, ev_eval hA hl, ev_eval hA hh, Instr.sliceAt, Instr.slice, Instr.sliceBounds, run_underlying hu, e1, e2, hT.size, Result.andThen, atS, e3])
end
theorem SlO.part {α : Type} {H : Heap} {oa : Option Addr} {esz c : Nat} {enc : α → List Value} {xs : List α} (h : SlO H oa esz enc xs) {l m : Nat} (hlm : m ≤ c) : SlO H (atS oa c l esz) esz enc ((xs.drop l).take (m - l)) := by
  refine ⟨fun i x hx => ?_⟩
  rw [List.getElem?_take] at hx
  split at hx
  · rename_i hi
    rw [List.getElem?_drop] at hx
    obtain ⟨h1, a, ob, rfl, h3, h4⟩ := h.el _ x hx
    refine ⟨h1, ?_⟩
    unfold atS
    rw [if_neg (by omega)]
    refine ⟨a.add (l * esz), ob, rfl, by rw [add_block]; exact h3, fun j v hv => ?_⟩
    rw [add_add, show l * esz + (i * esz + j) = (l + i) * esz + j by rw [Nat.add_mul]; omega]
    exact h4 j v hv
  · cases hx
/-! ### Fields of a slice's elements -/
class TFg (P : Program) (T : TypeId) (i : Nat) (off : outParam Nat) : Prop where
  fld : ∀ a w, (Instr.fieldAt T (.pointer (some a)) i).run P w = .ok (.pointer (some (a.add off))) w
theorem mkTFg {P : Program} {T : TypeId} {i off : Nat} (h : fldB P T i = some (off, true)) : TFg P T i off := by
  refine ⟨fun a w => ?_⟩
  unfold fldB at h
  split at h
  · rename_i fs hu
    cases hf : fs[i]? with
    | none => simp [hf] at h
    | some fd =>
      simp only [hf, Option.bind_some] at h
      cases hj : P.info? fd.type with
      | none => simp [hj] at h
      | some j =>
        simp only [hj, Option.map_some, Option.some.injEq, Prod.mk.injEq] at h
        obtain ⟨h1, h2⟩ := h
        have h3 : (0 : Nat) < j.size := Nat.le_of_ble_eq_true h2
        have hsz := size_run (P := P) (T := fd.type) (n := j.size) (by simp [hj]) w
        have hfp : (fieldPlace a fd).run P w = .ok (a.add off) w := by
          simp only [fieldPlace, Sem.run_bind, hsz, Result.andThen]
          rw [if_neg (by omega), h1]
          simp
        simp [Instr.fieldAt, run_underlying hu, hf, Instr.sureAddr, hfp]
  · cases h
section
variable {P : Program} {f : FuncId} {ro : Option Nat} {N : Nat} {k : List Item} {E : Env} {D : List Deferred} {H : Heap} {Q : Out → Heap → Prop}
variable {d : Nat} {x y : Operand} {T ty : TypeId} {pos : String} {af : Array Edge} {g : Option (Nat × Bool)}
theorem vfaS {α : Type} {enc : α → List Value} {xs : List α} {oa : Option Addr} {esz m i off : Nat} {z : α} [hT : TFg P T i off] [hS : SlO H oa esz enc xs] (hx : ev E x = some (.pointer (atI oa (m * esz)))) (hz : xs[m]? = some z) :
    OQ P N E D H ⟨some d, .fieldAddr T x i, ty, pos, af, g⟩ (.pointer (atI oa (m * esz + off))) :=
  ov (by simp) (fun t w hA hE => by
    obtain ⟨_, a, ob, rfl, _, _⟩ := hS.el _ _ hz
    simp [execOp, ev_eval hA hx, atI, hT.fld, add_add])
theorem vldSf {α : Type} {enc : α → List Value} {xs : List α} {oa : Option Addr} {esz m j : Nat} {z : α} {v : Value} [hT : TSc P T] [hS : SlO H oa esz enc xs] (hx : ev E x = some (.pointer (atI oa (m * esz + j)))) (hz : xs[m]? = some z) (hv : nth (enc z) j = some v) :
    OQ P N E D H ⟨some d, .load T x, ty, pos, af, g⟩ v := by
  obtain ⟨hl, a, ob, rfl, hm, hc⟩ := hS.el _ _ hz
  refine vldm (a := a.add (m * esz + j)) hx fun w hE => ?_
  have hob := hE.at_ _ hm
  rw [nth_eq] at hv
  have h1 : w.cell? (a.add (m * esz + j)) = some v := by
    rw [oCell_eq (ob := ob) (by rw [add_block]; exact hob)]; exact hc j v hv
  simp only [loadVar, Sem.run_bind, hT.agg, Result.andThen]
  simp only [load, Sem.run, h1, Bool.false_eq_true, if_false]
end
/-! ### The variables of the package, read -/
section
variable {P : Program} {N : Nat} {E : Env} {D : List Deferred} {H : Heap}
variable {d : Nat} {x : Operand} {T ty : TypeId} {pos : String} {af : Array Edge} {g : Option (Nat × Bool)}
theorem atI_blk (b k : Nat) : atI (some ⟨b, 0, Option.none⟩) k = some ⟨b, k, Option.none⟩ := by
  unfold atI Addr.add
  by_cases h : k = 0
  · subst h; rfl
  · simp [h]
theorem vglO {k : Nat} {v : Value} [hT : TSc P T] [hg : Glob H] (hx : ev E x = some (.pointer (some ⟨1, k, Option.none⟩))) (hk : octL[k]? = some v) : OQ P N E D H ⟨some d, .load T x, ty, pos, af, g⟩ v := by
  haveI := hg.oct
  exact vldS1 (enc := fun v : Value => [v]) (xs := octL) (m := k) (z := v) (by rw [hx, Nat.mul_one, ← atI_blk]) hk rfl
theorem vglF [hT : TAg P T 2] [hg : Glob H] (hx : ev E x = some (.pointer (some ⟨0, 0, Option.none⟩))) : OQ P N E D H ⟨some d, .load T x, ty, pos, af, g⟩ (.agg [I 0, I (-1)].toArray) := by
  haveI := hg.first
  exact vldS (enc := fun l : List Value => l) (xs := [[I 0, I (-1)]]) (m := 0) (z := [I 0, I (-1)]) (by rw [hx, Nat.zero_mul, ← atI_blk]) rfl
end
/-! ### A contract at one object, where it lies among others -/
class HOR (H : Heap) (b : Nat) (o : outParam Obj) (R : outParam Heap) (F : outParam (Obj → Heap)) : Prop where
  pm : H.Perm ((b, o) :: R)
  pf : ∀ c, (F c).Perm ((b, c) :: R)
instance HOR.head {H : Heap} {b : Nat} {o : Obj} : HOR ((b, o) :: H) b o H (fun c => (b, c) :: H) := ⟨.refl _, fun _ => .refl _⟩
instance (priority := low) HOR.tail {x : Nat × Obj} {H R : Heap} {b : Nat} {o : Obj} {F : Obj → Heap} [h : HOR H b o R F] : HOR (x :: H) b o (x :: R) (fun c => x :: F c) :=
  ⟨(h.pm.cons x).trans (List.Perm.swap _ _ _), fun c => ((h.pf c).cons x).trans (List.Perm.swap _ _ _)⟩
theorem VHas.atO {P : Program} {gf : FuncId} {al : List Value} {v : Value} {H R : Heap} {b : Nat} {o o' : Obj} {F : Obj → Heap} [hr : HOR H b o R F] (h : VHas P gf al v ((b, o) :: R) ((b, o') :: R)) : VHas P gf al v H (F o') := h.perm hr.pm.symm (hr.pf o').symm
end Go.Proofs.YtaplkoimhecacaaDoor
