/-
  Walks of Meet, Join, Sum, Minus, Move, Swept, of both.
-/
import Derived.Test.YtffpfcomikcimaaWe
import Derived.Test.YtffpfcomikcimaaPlc
namespace Go.Proofs.Ytffpfcomikcimaa
open Go
set_option maxRecDepth 100000

theorem fst2_chk (a b : Rg) : fst2 (chkR a) (chkR b) = chk2 a b := by
  unfold fst2 chk2
  by_cases ha : a.ok
  · rw [chkR_ok ha]; simp only [ne_eq, not_true_eq_false, if_false]
    by_cases hb : b.ok
    · rw [chkR_ok hb, if_pos ⟨ha, hb⟩]
    · rw [chkR_no hb, if_neg (fun h => hb h.2)]
  · rw [chkR_no ha, if_pos (by decide), if_neg (fun h => ha h.1)]
theorem h_firstR (a b : Rg) (bs : Nat) : VHas Try.prog 110 [.slice (some ⟨bs, 0, Option.none⟩) 2 2] (I (chk2 a b)) [(bs, blk [I (chkR a), I (chkR b)] 27)] [(bs, blk [I (chkR a), I (chkR b)] 27)] :=
  (h_first2 (chkR a) (chkR b) bs).cong (by rw [fst2_chk])
theorem chk_n {a b : Rg} (h : ¬ chk2 a b ≠ 0) : chk2 a b = 0 := Classical.not_not.1 h
theorem sm2a {a b : Rg} (h : ¬ chk2 a b ≠ 0) : a.sm 1099511627776 := (chk2_zero.1 (chk_n h)).1.sm.mono (by decide)
theorem sm2b {a b : Rg} (h : ¬ chk2 a b ≠ 0) : b.sm 1099511627776 := (chk2_zero.1 (chk_n h)).2.sm.mono (by decide)
theorem nn {a : Int} (h : ¬ a ≠ 0) : a = 0 := Classical.not_not.1 h
theorem c_doneO (h : Option Rg) : VPure Try.prog 79 [vR (optE h).1, I (optE h).2] (tup [vR (optE h).1, I (optE h).2]) := (c_done (optE h).1 (optE h).2).cong (by rw [optE_if])

/-- paravane/paravaneref01.two -/
theorem c_ref_two (a b : Rg) : VPure Try.prog 129 [vR a, vR b] (I (chk2 a b)) := by
  intro H
  refine vcall_of_vrun Try.func129 rfl (N := 13) rfl rfl ?_
  refine vseq ?_
  refine vregion ?_
  refine vone rfl (vxa (vbox rfl rfl) rfl rfl (fun b1 => ?_))
  refine vone rfl (vxa (vbox rfl rfl) rfl rfl (fun b2 => ?_))
  refine vone rfl (vxq (vas rfl) rfl rfl ?_)
  refine vnil ?_
  refine vseq ?_
  refine vseq ?_
  refine vregion ?_
  refine vone rfl (vxq (vldn rfl rfl) rfl rfl ?_)
  refine vone rfl (vxq (vcp rfl rfl rfl (c_ref_Check a)) rfl rfl ?_)
  refine vone rfl (vxq (vas rfl) rfl rfl ?_)
  refine vnil ?_
  refine vseq ?_
  refine vregion ?_
  refine vone rfl (vxq (vmv rfl) rfl rfl ?_)
  refine vone rfl (vxq (vneq rfl rfl) rfl rfl ?_)
  refine vnil ?_
  refine vcondd rfl (fun h9 => ?_) (fun h9 => ?_)
  · skip
    refine vseq ?_
    refine vregion ?_
    refine vone rfl (vxq (vmv rfl) rfl rfl ?_)
    refine vone rfl (vxq (vas rfl) rfl rfl ?_)
    refine vnil ?_
    refine vret (vr1 (H' := H) Try.func129 rfl (.tmp rfl) (by repeat first | exact .refl _ | refine .cons_cons _ ?_ | refine .cons _ ?_ | exact sl0 _ | refine slA ?_) ?_)
    first | exact ⟨oI (by rw [← fst2_chk]; unfold fst2; rw [if_pos h9]), rfl⟩ | exact ⟨oI (by rw [← fst2_chk]; unfold fst2; rw [if_neg h9]), rfl⟩
  · skip
    refine vskip ?_
    refine vseq ?_
    refine vregion ?_
    refine vone rfl (vxq (vldn rfl rfl) rfl rfl ?_)
    refine vone rfl (vxq (vcp rfl rfl rfl (c_ref_Check b)) rfl rfl ?_)
    refine vone rfl (vxq (vas rfl) rfl rfl ?_)
    refine vnil ?_
    refine vret (vr1 (H' := H) Try.func129 rfl (.tmp rfl) (by repeat first | exact .refl _ | refine .cons_cons _ ?_ | refine .cons _ ?_ | exact sl0 _ | refine slA ?_) ?_)
    first | exact ⟨oI (by rw [← fst2_chk]; unfold fst2; rw [if_pos h9]), rfl⟩ | exact ⟨oI (by rw [← fst2_chk]; unfold fst2; rw [if_neg h9]), rfl⟩
/-- paravane/paravaneref01.common -/
theorem c_common (a b : Rg) : VPure Try.prog 116 [vR a, vR b] (vR (a.map2 Bd.cut b)) := by
  intro H
  refine vcall_of_vrun Try.func116 rfl (N := 26) rfl rfl ?_
  refine vseq ?_
  refine vregion ?_
  refine vone rfl (vxa (vbox rfl rfl) rfl rfl (fun b1 => ?_))
  refine vone rfl (vxa (vbox rfl rfl) rfl rfl (fun b2 => ?_))
  refine vone rfl (vxa valloc rfl rfl (fun b3 => ?_))
  refine vnil ?_
  refine vseq ?_
  refine vdraw0 [(.q, 0), (.q, 1), (.q, 2), (.q, 3), (.q, 4), (.q, 5), (.q, 6), (.q, 7), (.q, 8), (.q, 9), (.q, 10), (.q, 11), (.q, 12), (.q, 13), (.q, 14), (.q, 15), (.q, 16), (.q, 17), (.q, 18), (.q, 19), (.q, 20), (.c, 21)] Try.mixed (by kernel_rfl) (by kernel_rfl) ?_
  refine vdq (mone rfl) (vfa rfl) rfl rfl ?_
  refine vdq (mone rfl) (vldn rfl rfl) rfl rfl ?_
  refine vdq (mone rfl) (vfa rfl) rfl rfl ?_
  refine vdq (mone rfl) (vldn rfl rfl) rfl rfl ?_
  refine vdq (mone rfl) (vcp rfl rfl rfl (c_ref01_cut _ _ _ _)) rfl rfl ?_
  refine vdq (mone rfl) (vfa rfl) rfl rfl ?_
  refine vdq (mone rfl) (vldn rfl rfl) rfl rfl ?_
  refine vdq (mone rfl) (vfa rfl) rfl rfl ?_
  refine vdq (mone rfl) (vldn rfl rfl) rfl rfl ?_
  refine vdq (mone rfl) (vcp rfl rfl rfl (c_ref01_cut _ _ _ _)) rfl rfl ?_
  refine vdq (mone rfl) (vfa rfl) rfl rfl ?_
  refine vdq (mone rfl) (vldn rfl rfl) rfl rfl ?_
  refine vdq (mone rfl) (vfa rfl) rfl rfl ?_
  refine vdq (mone rfl) (vldn rfl rfl) rfl rfl ?_
  refine vdq (mone rfl) (vcp rfl rfl rfl (c_ref01_cut _ _ _ _)) rfl rfl ?_
  refine vdq (mone rfl) (vfa rfl) rfl rfl ?_
  refine vdq (mone rfl) (vldn rfl rfl) rfl rfl ?_
  refine vdq (mone rfl) (vfa rfl) rfl rfl ?_
  refine vdq (mone rfl) (vldn rfl rfl) rfl rfl ?_
  refine vdq (mone rfl) (vcp rfl rfl rfl (c_ref01_cut _ _ _ _)) rfl rfl ?_
  refine vdq (mone rfl) (vbd rfl rfl) rfl rfl ?_
  refine vdcs (mone rfl) (vstn rfl rfl rfl rfl rfl) rfl ?_
  refine vdend rfl ?_
  refine vret (vr1 (H' := H) Try.func116 rfl (.celln rfl rfl) (by repeat first | exact .refl _ | refine .cons_cons _ ?_ | refine .cons _ ?_ | exact sl0 _ | refine slA ?_) ?_)
  exact ⟨rfl, rfl⟩
/-- paravane/paravaneref01.added -/
theorem c_added (a b : Rg) (ha : a.sm 1099511627776) (hb : b.sm 1099511627776) : VPure Try.prog 99 [vR a, vR b] (vR (a.map2 Bd.plus b)) := by
  unfold Rg.sm Bd.sm at ha hb
  intro H
  refine vcall_of_vrun Try.func99 rfl (N := 26) rfl rfl ?_
  refine vseq ?_
  refine vregion ?_
  refine vone rfl (vxa (vbox rfl rfl) rfl rfl (fun b1 => ?_))
  refine vone rfl (vxa (vbox rfl rfl) rfl rfl (fun b2 => ?_))
  refine vone rfl (vxa valloc rfl rfl (fun b3 => ?_))
  refine vnil ?_
  refine vseq ?_
  refine vdraw0 [(.q, 0), (.q, 1), (.q, 2), (.q, 3), (.q, 4), (.q, 5), (.q, 6), (.q, 7), (.q, 8), (.q, 9), (.q, 10), (.q, 11), (.q, 12), (.q, 13), (.q, 14), (.q, 15), (.q, 16), (.q, 17), (.q, 18), (.q, 19), (.q, 20), (.c, 21)] Try.mixed (by kernel_rfl) (by kernel_rfl) ?_
  refine vdq (mone rfl) (vfa rfl) rfl rfl ?_
  refine vdq (mone rfl) (vldn rfl rfl) rfl rfl ?_
  refine vdq (mone rfl) (vfa rfl) rfl rfl ?_
  refine vdq (mone rfl) (vldn rfl rfl) rfl rfl ?_
  refine vdq (mone rfl) (vcp rfl rfl rfl (c_ref01_plus _ _ _ _ (by unfold InR; omega) (by unfold InR; omega))) rfl rfl ?_
  refine vdq (mone rfl) (vfa rfl) rfl rfl ?_
  refine vdq (mone rfl) (vldn rfl rfl) rfl rfl ?_
  refine vdq (mone rfl) (vfa rfl) rfl rfl ?_
  refine vdq (mone rfl) (vldn rfl rfl) rfl rfl ?_
  refine vdq (mone rfl) (vcp rfl rfl rfl (c_ref01_plus _ _ _ _ (by unfold InR; omega) (by unfold InR; omega))) rfl rfl ?_
  refine vdq (mone rfl) (vfa rfl) rfl rfl ?_
  refine vdq (mone rfl) (vldn rfl rfl) rfl rfl ?_
  refine vdq (mone rfl) (vfa rfl) rfl rfl ?_
  refine vdq (mone rfl) (vldn rfl rfl) rfl rfl ?_
  refine vdq (mone rfl) (vcp rfl rfl rfl (c_ref01_plus _ _ _ _ (by unfold InR; omega) (by unfold InR; omega))) rfl rfl ?_
  refine vdq (mone rfl) (vfa rfl) rfl rfl ?_
  refine vdq (mone rfl) (vldn rfl rfl) rfl rfl ?_
  refine vdq (mone rfl) (vfa rfl) rfl rfl ?_
  refine vdq (mone rfl) (vldn rfl rfl) rfl rfl ?_
  refine vdq (mone rfl) (vcp rfl rfl rfl (c_ref01_plus _ _ _ _ (by unfold InR; omega) (by unfold InR; omega))) rfl rfl ?_
  refine vdq (mone rfl) (vbd rfl rfl) rfl rfl ?_
  refine vdcs (mone rfl) (vstn rfl rfl rfl rfl rfl) rfl ?_
  refine vdend rfl ?_
  refine vret (vr1 (H' := H) Try.func99 rfl (.celln rfl rfl) (by repeat first | exact .refl _ | refine .cons_cons _ ?_ | refine .cons _ ?_ | exact sl0 _ | refine slA ?_) ?_)
  exact ⟨rfl, rfl⟩
def Bd.opp (b : Bd) : Bd := ⟨-b.hi, -b.lo⟩
def Rg.opp (r : Rg) : Rg := ⟨r.x.opp, r.y.opp, r.s.opp, r.d.opp⟩
theorem opp_sm {r : Rg} {m : Int} (h : r.sm m) : r.opp.sm m := by
  unfold Rg.sm Bd.sm Rg.opp Bd.opp at *; simp only; omega
theorem plus_opp (a b : Rg) : a.map2 Bd.plus b.opp = a.map2 Bd.minus b := by
  simp only [Rg.map2, Rg.opp, Bd.plus, Bd.minus, Bd.opp, Int.sub_eq_add_neg]
/-- paravane/paravaneref01.opposite -/
theorem c_opposite (a : Rg) (ha : a.sm 1099511627776) : VPure Try.prog 131 [vR a] (vR a.opp) := by
  unfold Rg.sm Bd.sm at ha
  intro H
  refine vcall_of_vrun Try.func131 rfl (N := 16) rfl rfl ?_
  refine vseq ?_
  refine vregion ?_
  refine vone rfl (vxa (vbox rfl rfl) rfl rfl (fun b1 => ?_))
  refine vone rfl (vxa valloc rfl rfl (fun b2 => ?_))
  refine vnil ?_
  refine vseq ?_
  refine vdraw0 [(.q, 0), (.q, 1), (.q, 2), (.q, 3), (.q, 4), (.q, 5), (.q, 6), (.q, 7), (.q, 8), (.q, 9), (.q, 10), (.q, 11), (.q, 12), (.c, 13)] Try.mixed (by kernel_rfl) (by kernel_rfl) ?_
  refine vdq (mone rfl) (vfa rfl) rfl rfl ?_
  refine vdq (mone rfl) (vldn rfl rfl) rfl rfl ?_
  refine vdq (mone rfl) (vcp rfl rfl rfl (c_ref01_other _ _ (by unfold InR; omega) (by unfold InR; omega))) rfl rfl ?_
  refine vdq (mone rfl) (vfa rfl) rfl rfl ?_
  refine vdq (mone rfl) (vldn rfl rfl) rfl rfl ?_
  refine vdq (mone rfl) (vcp rfl rfl rfl (c_ref01_other _ _ (by unfold InR; omega) (by unfold InR; omega))) rfl rfl ?_
  refine vdq (mone rfl) (vfa rfl) rfl rfl ?_
  refine vdq (mone rfl) (vldn rfl rfl) rfl rfl ?_
  refine vdq (mone rfl) (vcp rfl rfl rfl (c_ref01_other _ _ (by unfold InR; omega) (by unfold InR; omega))) rfl rfl ?_
  refine vdq (mone rfl) (vfa rfl) rfl rfl ?_
  refine vdq (mone rfl) (vldn rfl rfl) rfl rfl ?_
  refine vdq (mone rfl) (vcp rfl rfl rfl (c_ref01_other _ _ (by unfold InR; omega) (by unfold InR; omega))) rfl rfl ?_
  refine vdq (mone rfl) (vbd rfl rfl) rfl rfl ?_
  refine vdcs (mone rfl) (vstn rfl rfl rfl rfl rfl) rfl ?_
  refine vdend rfl ?_
  refine vret (vr1 (H' := H) Try.func131 rfl (.celln rfl rfl) (by repeat first | exact .refl _ | refine .cons_cons _ ?_ | refine .cons _ ?_ | exact sl0 _ | refine slA ?_) ?_)
  exact ⟨rfl, rfl⟩
/-- paravane/region.inside -/
theorem c_inside (f : Rg) : VPure Try.prog 94 [vR f] (tup [vR (insideE f).1, I (insideE f).2]) := by
  intro H
  refine vcall_of_vrun Try.func94 rfl (N := 17) rfl rfl ?_
  refine vseq ?_
  refine vregion ?_
  refine vone rfl (vxa (vbox rfl rfl) rfl rfl (fun b1 => ?_))
  refine vone rfl (vxa valloc rfl rfl (fun b2 => ?_))
  refine vone rfl (vxq (vas rfl) rfl rfl ?_)
  refine vnil ?_
  refine vseq ?_
  refine vseq ?_
  refine vregion ?_
  refine vone rfl (vxq (via rfl rfl (by omega)) rfl rfl ?_)
  refine vone rfl (vxq (vldn rfl rfl) rfl rfl ?_)
  refine vone rfl (vxq (vcp rfl rfl rfl (c_region_limit_fits _ _ _ (by omega))) rfl rfl ?_)
  refine vone rfl (vxq (vnotd rfl) rfl rfl ?_)
  refine vone rfl (vxq (vmv rfl) rfl rfl ?_)
  refine vsplitd (d := 8) rfl (fun h8 => ?_) (fun h8 => ?_)
  · skip
    refine vno rfl rfl rfl rfl rfl ?_
    refine vno rfl rfl rfl rfl rfl ?_
    refine vno rfl rfl rfl rfl rfl ?_
    refine vno rfl rfl rfl rfl rfl ?_
    refine vone rfl (vxq (vpkt rfl rfl) rfl rfl ?_)
    refine vnil ?_
    refine vcondt rfl ?_
    refine vseq ?_
    refine vregion ?_
    refine vone rfl (vxq (vbd rfl rfl) rfl rfl ?_)
    refine vone rfl (vxs (vstn rfl rfl rfl rfl rfl) rfl ?_)
    refine vone rfl (vxq (vas rfl) rfl rfl ?_)
    refine vnil ?_
    refine vret (vr2 (H' := H) Try.func94 rfl (.celln rfl rfl) (.tmp rfl) (by repeat first | exact .refl _ | refine .cons_cons _ ?_ | refine .cons _ ?_ | exact sl0 _ | refine slA ?_) ?_)
    first | (rw [show insideE f = (zR, 7) from if_neg (by unfold Bd.fits; omega)]; exact ⟨rfl, rfl⟩) | (rw [show insideE f = (f, 0) from if_pos (by unfold Bd.fits; omega)]; exact ⟨rfl, rfl⟩)
  · skip
    refine vyes rfl rfl rfl (vxq (via rfl rfl (by omega)) rfl rfl ?_)
    refine vyes rfl rfl rfl (vxq (vldn rfl rfl) rfl rfl ?_)
    refine vyes rfl rfl rfl (vxq (vcp rfl rfl rfl (c_region_limit_fits _ _ _ (by omega))) rfl rfl ?_)
    refine vyes rfl rfl rfl (vxq (vnotd rfl) rfl rfl ?_)
    refine vone rfl (vxq (vpkf rfl rfl) rfl rfl ?_)
    refine vnil ?_
    refine vcondd rfl (fun h13 => ?_) (fun h13 => ?_)
    · skip
      refine vseq ?_
      refine vregion ?_
      refine vone rfl (vxq (vbd rfl rfl) rfl rfl ?_)
      refine vone rfl (vxs (vstn rfl rfl rfl rfl rfl) rfl ?_)
      refine vone rfl (vxq (vas rfl) rfl rfl ?_)
      refine vnil ?_
      refine vret (vr2 (H' := H) Try.func94 rfl (.celln rfl rfl) (.tmp rfl) (by repeat first | exact .refl _ | refine .cons_cons _ ?_ | refine .cons _ ?_ | exact sl0 _ | refine slA ?_) ?_)
      first | (rw [show insideE f = (zR, 7) from if_neg (by unfold Bd.fits; omega)]; exact ⟨rfl, rfl⟩) | (rw [show insideE f = (f, 0) from if_pos (by unfold Bd.fits; omega)]; exact ⟨rfl, rfl⟩)
    · skip
      refine vskip ?_
      refine vseq ?_
      refine vregion ?_
      refine vone rfl (vxq (vldn rfl rfl) rfl rfl ?_)
      refine vone rfl (vxq (vcp rfl rfl rfl (c_region_four_region _ _ _ _ _ _ _ _)) rfl rfl ?_)
      refine vone rfl (vxs (vstn rfl rfl rfl rfl rfl) rfl ?_)
      refine vone rfl (vxq (vas rfl) rfl rfl ?_)
      refine vnil ?_
      refine vret (vr2 (H' := H) Try.func94 rfl (.celln rfl rfl) (.tmp rfl) (by repeat first | exact .refl _ | refine .cons_cons _ ?_ | refine .cons _ ?_ | exact sl0 _ | refine slA ?_) ?_)
      first | (rw [show insideE f = (zR, 7) from if_neg (by unfold Bd.fits; omega)]; exact ⟨rfl, rfl⟩) | (rw [show insideE f = (f, 0) from if_pos (by unfold Bd.fits; omega)]; exact ⟨rfl, rfl⟩)
/-- paravane/paravaneref01.plane -/
theorem c_plane (f : Rg) : VPure Try.prog 98 [vR f] (tup [vR (insideE f).1, I (insideE f).2]) := by
  intro H
  refine vcall_of_vrun Try.func98 rfl (N := 16) rfl rfl ?_
  refine vseq ?_
  refine vregion ?_
  refine vone rfl (vxa (vbox rfl rfl) rfl rfl (fun b1 => ?_))
  refine vone rfl (vxa valloc rfl rfl (fun b2 => ?_))
  refine vone rfl (vxq (vas rfl) rfl rfl ?_)
  refine vnil ?_
  refine vseq ?_
  refine vseq ?_
  refine vregion ?_
  refine vone rfl (vxq (vfa rfl) rfl rfl ?_)
  refine vone rfl (vxq (vldn rfl rfl) rfl rfl ?_)
  refine vone rfl (vxq (vcp rfl rfl rfl (c_ref01_ends _ _ _ (by omega))) rfl rfl ?_)
  refine vone rfl (vxq (vnotd rfl) rfl rfl ?_)
  refine vone rfl (vxq (vmv rfl) rfl rfl ?_)
  refine vsplitd (d := 8) rfl (fun h8 => ?_) (fun h8 => ?_)
  · skip
    refine vno rfl rfl rfl rfl rfl ?_
    refine vno rfl rfl rfl rfl rfl ?_
    refine vno rfl rfl rfl rfl rfl ?_
    refine vno rfl rfl rfl rfl rfl ?_
    refine vone rfl (vxq (vpkt rfl rfl) rfl rfl ?_)
    refine vnil ?_
    refine vcondt rfl ?_
    refine vseq ?_
    refine vregion ?_
    refine vone rfl (vxq (vbd rfl rfl) rfl rfl ?_)
    refine vone rfl (vxs (vstn rfl rfl rfl rfl rfl) rfl ?_)
    refine vone rfl (vxq (vas rfl) rfl rfl ?_)
    refine vnil ?_
    refine vret (vr2 (H' := H) Try.func98 rfl (.celln rfl rfl) (.tmp rfl) (by repeat first | exact .refl _ | refine .cons_cons _ ?_ | refine .cons _ ?_ | exact sl0 _ | refine slA ?_) ?_)
    first | (rw [show insideE f = (zR, 7) from if_neg (by unfold Bd.fits; omega)]; exact ⟨rfl, rfl⟩) | (rw [show insideE f = (f, 0) from if_pos (by unfold Bd.fits; omega)]; exact ⟨rfl, rfl⟩)
  · skip
    refine vyes rfl rfl rfl (vxq (vfa rfl) rfl rfl ?_)
    refine vyes rfl rfl rfl (vxq (vldn rfl rfl) rfl rfl ?_)
    refine vyes rfl rfl rfl (vxq (vcp rfl rfl rfl (c_ref01_ends _ _ _ (by omega))) rfl rfl ?_)
    refine vyes rfl rfl rfl (vxq (vnotd rfl) rfl rfl ?_)
    refine vone rfl (vxq (vpkf rfl rfl) rfl rfl ?_)
    refine vnil ?_
    refine vcondd rfl (fun h13 => ?_) (fun h13 => ?_)
    · skip
      refine vseq ?_
      refine vregion ?_
      refine vone rfl (vxq (vbd rfl rfl) rfl rfl ?_)
      refine vone rfl (vxs (vstn rfl rfl rfl rfl rfl) rfl ?_)
      refine vone rfl (vxq (vas rfl) rfl rfl ?_)
      refine vnil ?_
      refine vret (vr2 (H' := H) Try.func98 rfl (.celln rfl rfl) (.tmp rfl) (by repeat first | exact .refl _ | refine .cons_cons _ ?_ | refine .cons _ ?_ | exact sl0 _ | refine slA ?_) ?_)
      first | (rw [show insideE f = (zR, 7) from if_neg (by unfold Bd.fits; omega)]; exact ⟨rfl, rfl⟩) | (rw [show insideE f = (f, 0) from if_pos (by unfold Bd.fits; omega)]; exact ⟨rfl, rfl⟩)
    · skip
      refine vskip ?_
      refine vseq ?_
      refine vregion ?_
      refine vone rfl (vxq (vldn rfl rfl) rfl rfl ?_)
      refine vone rfl (vxs (vstn rfl rfl rfl rfl rfl) rfl ?_)
      refine vone rfl (vxq (vas rfl) rfl rfl ?_)
      refine vnil ?_
      refine vret (vr2 (H' := H) Try.func98 rfl (.celln rfl rfl) (.tmp rfl) (by repeat first | exact .refl _ | refine .cons_cons _ ?_ | refine .cons _ ?_ | exact sl0 _ | refine slA ?_) ?_)
      first | (rw [show insideE f = (zR, 7) from if_neg (by unfold Bd.fits; omega)]; exact ⟨rfl, rfl⟩) | (rw [show insideE f = (f, 0) from if_pos (by unfold Bd.fits; omega)]; exact ⟨rfl, rfl⟩)
/-- paravane/paravaneref01.single -/
theorem c_single (p : Pt) (hp : p.sm 1099511627776) : VPure Try.prog 100 [vP p] (vR (ofP p)) := by
  intro H
  refine vcall_of_vrun Try.func100 rfl (N := 13) rfl rfl ?_
  refine vseq ?_
  refine vregion ?_
  refine vone rfl (vxa (vbox rfl rfl) rfl rfl (fun b1 => ?_))
  refine vone rfl (vxa valloc rfl rfl (fun b2 => ?_))
  refine vnil ?_
  refine vseq ?_
  refine vregion ?_
  refine vone rfl (vxq (vbd rfl rfl) rfl rfl ?_)
  refine vone rfl (vxa (vbox (v := .agg (clH Option.none).toArray) rfl rfl) rfl rfl (fun b3 => ?_))
  refine vone rfl (vxq (vas rfl) rfl rfl ?_)
  refine vnil ?_
  refine vseq ?_
  refine vregion ?_
  refine vone rfl (vxq (vmv rfl) rfl rfl ?_)
  refine vone rfl (vxq (vldn rfl rfl) rfl rfl ?_)
  refine vone rfl (vxg (vch rfl rfl rfl ((h_add Option.none p hp b3).at1)) rfl rfl ?_)
  rintro _ _ ⟨rfl, rfl⟩
  refine vnil ?_
  refine vseq ?_
  refine vregion ?_
  refine vone rfl (vxq (vmv rfl) rfl rfl ?_)
  refine vone rfl (vxq (vnc rfl) rfl rfl ?_)
  refine vone rfl (vxq (vfa rfl) rfl rfl ?_)
  refine vone rfl (vxq (vldn rfl rfl) rfl rfl ?_)
  refine vone rfl (vxs (vstn rfl rfl rfl rfl rfl) rfl ?_)
  refine vnil ?_
  refine vret (vr1 (H' := H) Try.func100 rfl (.celln rfl rfl) (by repeat first | exact .refl _ | refine .cons_cons _ ?_ | refine .cons _ ?_ | exact sl0 _ | refine slA ?_) ?_)
  exact ⟨oV (by simp only [addP, Option.getD_some, Option.getD_none, Rg.map2, Bd.span, ofP, Int.min_self, Int.max_self]), rfl⟩
/-- paravane/region.Meet -/
theorem c_Meet (a b : Rg) : VPure Try.prog 50 [vR a, vR b] (tup [vR (meetE a b).1, I (meetE a b).2]) := by
  intro H
  refine vcall_of_vrun Try.func50 rfl (N := 28) rfl rfl ?_
  refine vseq ?_
  refine vregion ?_
  refine vone rfl (vxa (vbox rfl rfl) rfl rfl (fun b1 => ?_))
  refine vone rfl (vxa (vbox rfl rfl) rfl rfl (fun b2 => ?_))
  refine vone rfl (vxa valloc rfl rfl (fun b3 => ?_))
  refine vone rfl (vxq (vas rfl) rfl rfl ?_)
  refine vnil ?_
  refine vseq ?_
  refine vseq ?_
  refine vdraw0 [(.q, 0), (.q, 1), (.q, 2), (.q, 3), (.m, 4), (.n, 5), (.q, 6)] Try.mixed (by kernel_rfl) (by kernel_rfl) ?_
  refine vdq (mone rfl) (vldn rfl rfl) rfl rfl ?_
  refine vdq (mone rfl) (vcp rfl rfl rfl (c_region_Check a)) rfl rfl ?_
  refine vdq (mone rfl) (vldn rfl rfl) rfl rfl ?_
  refine vdq (mone rfl) (vcp rfl rfl rfl (c_region_Check b)) rfl rfl ?_
  refine vdm (mone rfl) (vbsP rfl rfl rfl rfl rfl rfl) rfl rfl (fun b4 => ?_)
  refine vdn rfl (mone rfl) (vcq rfl rfl rfl ((h_firstR a b b4).fr1)) rfl rfl ?_
  refine vdq (mone rfl) (vas rfl) rfl rfl ?_
  refine vdend rfl ?_
  refine vseq ?_
  refine vregion ?_
  refine vone rfl (vxq (vmv rfl) rfl rfl ?_)
  refine vone rfl (vxq (vneq rfl rfl) rfl rfl ?_)
  refine vnil ?_
  refine vcondd rfl (fun h14 => ?_) (fun h14 => ?_)
  · skip
    refine vseq ?_
    refine vregion ?_
    refine vone rfl (vxq (vbd rfl rfl) rfl rfl ?_)
    refine vone rfl (vxq (vmv rfl) rfl rfl ?_)
    refine vone rfl (vxs (vstn rfl rfl rfl rfl rfl) rfl ?_)
    refine vone rfl (vxq (vas rfl) rfl rfl ?_)
    refine vnil ?_
    refine vret (vr2 (H' := H) Try.func50 rfl (.celln rfl rfl) (.tmp rfl) (by repeat first | exact .refl _ | refine .cons_cons _ ?_ | refine .cons _ ?_ | exact sl0 _ | refine slA ?_) ?_)
    first | (rw [show meetE a b = (zR, chk2 a b) from if_neg h14]; exact ⟨rfl, rfl⟩) | (rw [show meetE a b = optE (tightP (a.map2 Bd.cut b)) from if_pos (nn h14)]; exact ⟨rfl, rfl⟩)
  · skip
    refine vskip ?_
    refine vseq ?_
    refine vdraw0 [(.q, 0), (.q, 1), (.q, 2), (.q, 3), (.q, 4), (.q, 5), (.q, 6), (.q, 7), (.q, 8), (.q, 9), (.q, 10), (.c, 11), (.q, 12)] Try.mixed (by kernel_rfl) (by kernel_rfl) ?_
    refine vdq (mone rfl) (vldn rfl rfl) rfl rfl ?_
    refine vdq (mone rfl) (vcp rfl rfl rfl (c_region_bounds _ _ _ _ _ _ _ _)) rfl rfl ?_
    refine vdq (mone rfl) (vldn rfl rfl) rfl rfl ?_
    refine vdq (mone rfl) (vcp rfl rfl rfl (c_region_bounds _ _ _ _ _ _ _ _)) rfl rfl ?_
    refine vdq (mone rfl) (vcp rfl rfl rfl (c_cut4 a b)) rfl rfl ?_
    refine vdq (mone rfl) (vcp rfl rfl rfl (c_tight (a.map2 Bd.cut b) (cut_sm (sm2a h14) (sm2b h14)))) rfl rfl ?_
    refine vdq (mone rfl) (vex rfl rfl) rfl rfl ?_
    refine vdq (mone rfl) (vex rfl rfl) rfl rfl ?_
    refine vdq (mone rfl) (vcp rfl rfl rfl (c_doneO (tightP (a.map2 Bd.cut b)))) rfl rfl ?_
    refine vdq (mone rfl) (vex rfl rfl) rfl rfl ?_
    refine vdq (mone rfl) (vex rfl rfl) rfl rfl ?_
    refine vdcs (mone rfl) (vstn rfl rfl rfl rfl rfl) rfl ?_
    refine vdq (mone rfl) (vas rfl) rfl rfl ?_
    refine vdend rfl ?_
    refine vret (vr2 (H' := H) Try.func50 rfl (.celln rfl rfl) (.tmp rfl) (by repeat first | exact .refl _ | refine .cons_cons _ ?_ | refine .cons _ ?_ | exact sl0 _ | refine slA ?_) ?_)
    first | (rw [show meetE a b = (zR, chk2 a b) from if_neg h14]; exact ⟨rfl, rfl⟩) | (rw [show meetE a b = optE (tightP (a.map2 Bd.cut b)) from if_pos (nn h14)]; exact ⟨rfl, rfl⟩)
/-- paravane/paravaneref01.Meet -/
theorem c_ref_Meet (a b : Rg) : VPure Try.prog 51 [vR a, vR b] (tup [vR (meetE a b).1, I (meetE a b).2]) := by
  intro H
  refine vcall_of_vrun Try.func51 rfl (N := 21) rfl rfl ?_
  refine vseq ?_
  refine vregion ?_
  refine vone rfl (vxa (vbox rfl rfl) rfl rfl (fun b1 => ?_))
  refine vone rfl (vxa (vbox rfl rfl) rfl rfl (fun b2 => ?_))
  refine vone rfl (vxa valloc rfl rfl (fun b3 => ?_))
  refine vone rfl (vxq (vas rfl) rfl rfl ?_)
  refine vnil ?_
  refine vseq ?_
  refine vseq ?_
  refine vregion ?_
  refine vone rfl (vxq (vldn rfl rfl) rfl rfl ?_)
  refine vone rfl (vxq (vldn rfl rfl) rfl rfl ?_)
  refine vone rfl (vxq (vcp rfl rfl rfl (c_ref_two a b)) rfl rfl ?_)
  refine vone rfl (vxq (vas rfl) rfl rfl ?_)
  refine vnil ?_
  refine vseq ?_
  refine vregion ?_
  refine vone rfl (vxq (vmv rfl) rfl rfl ?_)
  refine vone rfl (vxq (vneq rfl rfl) rfl rfl ?_)
  refine vnil ?_
  refine vcondd rfl (fun h11 => ?_) (fun h11 => ?_)
  · skip
    refine vseq ?_
    refine vregion ?_
    refine vone rfl (vxq (vbd rfl rfl) rfl rfl ?_)
    refine vone rfl (vxq (vmv rfl) rfl rfl ?_)
    refine vone rfl (vxs (vstn rfl rfl rfl rfl rfl) rfl ?_)
    refine vone rfl (vxq (vas rfl) rfl rfl ?_)
    refine vnil ?_
    refine vret (vr2 (H' := H) Try.func51 rfl (.celln rfl rfl) (.tmp rfl) (by repeat first | exact .refl _ | refine .cons_cons _ ?_ | refine .cons _ ?_ | exact sl0 _ | refine slA ?_) ?_)
    first | (rw [show meetE a b = (zR, chk2 a b) from if_neg h11]; exact ⟨rfl, rfl⟩) | (rw [show meetE a b = optE (tightP (a.map2 Bd.cut b)) from if_pos (nn h11)]; exact ⟨rfl, rfl⟩)
  · skip
    refine vskip ?_
    refine vseq ?_
    refine vregion ?_
    refine vone rfl (vxq (vldn rfl rfl) rfl rfl ?_)
    refine vone rfl (vxq (vldn rfl rfl) rfl rfl ?_)
    refine vone rfl (vxq (vcp rfl rfl rfl (c_common a b)) rfl rfl ?_)
    refine vone rfl (vxg (vbs rfl rfl rfl rfl rfl rfl) rfl rfl ?_)
    rintro _ _ ⟨b4, rfl, rfl⟩
    refine vone rfl (vxq (vcq rfl rfl rfl ((h_hulls1 (a.map2 Bd.cut b) (cut_sm (sm2a h11) (sm2b h11)) b4).fr1)) rfl rfl ?_)
    refine vone rfl (vxq (vex rfl rfl) rfl rfl ?_)
    refine vone rfl (vxq (vex rfl rfl) rfl rfl ?_)
    refine vone rfl (vxs (vstn rfl rfl rfl rfl rfl) rfl ?_)
    refine vone rfl (vxq (vas rfl) rfl rfl ?_)
    refine vnil ?_
    refine vret (vr2 (H' := H) Try.func51 rfl (.celln rfl rfl) (.tmp rfl) (by repeat first | exact .refl _ | refine .cons_cons _ ?_ | refine .cons _ ?_ | exact sl0 _ | refine slA ?_) ?_)
    first | (rw [show meetE a b = (zR, chk2 a b) from if_neg h11]; exact ⟨rfl, rfl⟩) | (rw [show meetE a b = optE (tightP (a.map2 Bd.cut b)) from if_pos (nn h11)]; exact ⟨rfl, rfl⟩)
/-- paravane/region.Join -/
theorem c_Join (a b : Rg) : VPure Try.prog 52 [vR a, vR b] (tup [vR (joinE a b).1, I (joinE a b).2]) := by
  intro H
  refine vcall_of_vrun Try.func52 rfl (N := 35) rfl rfl ?_
  refine vseq ?_
  refine vregion ?_
  refine vone rfl (vxa (vbox rfl rfl) rfl rfl (fun b1 => ?_))
  refine vone rfl (vxa (vbox rfl rfl) rfl rfl (fun b2 => ?_))
  refine vone rfl (vxa valloc rfl rfl (fun b3 => ?_))
  refine vone rfl (vxq (vas rfl) rfl rfl ?_)
  refine vnil ?_
  refine vseq ?_
  refine vseq ?_
  refine vdraw0 [(.q, 0), (.q, 1), (.q, 2), (.q, 3), (.m, 4), (.n, 5), (.q, 6)] Try.mixed (by kernel_rfl) (by kernel_rfl) ?_
  refine vdq (mone rfl) (vldn rfl rfl) rfl rfl ?_
  refine vdq (mone rfl) (vcp rfl rfl rfl (c_region_Check a)) rfl rfl ?_
  refine vdq (mone rfl) (vldn rfl rfl) rfl rfl ?_
  refine vdq (mone rfl) (vcp rfl rfl rfl (c_region_Check b)) rfl rfl ?_
  refine vdm (mone rfl) (vbsP rfl rfl rfl rfl rfl rfl) rfl rfl (fun b4 => ?_)
  refine vdn rfl (mone rfl) (vcq rfl rfl rfl ((h_firstR a b b4).fr1)) rfl rfl ?_
  refine vdq (mone rfl) (vas rfl) rfl rfl ?_
  refine vdend rfl ?_
  refine vseq ?_
  refine vregion ?_
  refine vone rfl (vxq (vmv rfl) rfl rfl ?_)
  refine vone rfl (vxq (vneq rfl rfl) rfl rfl ?_)
  refine vnil ?_
  refine vcondd rfl (fun h16 => ?_) (fun h16 => ?_)
  · skip
    refine vseq ?_
    refine vregion ?_
    refine vone rfl (vxq (vbd rfl rfl) rfl rfl ?_)
    refine vone rfl (vxq (vmv rfl) rfl rfl ?_)
    refine vone rfl (vxs (vstn rfl rfl rfl rfl rfl) rfl ?_)
    refine vone rfl (vxq (vas rfl) rfl rfl ?_)
    refine vnil ?_
    refine vret (vr2 (H' := H) Try.func52 rfl (.celln rfl rfl) (.tmp rfl) (by repeat first | exact .refl _ | refine .cons_cons _ ?_ | refine .cons _ ?_ | exact sl0 _ | refine slA ?_) ?_)
    first | (rw [show joinE a b = (zR, chk2 a b) from if_neg h16]; exact ⟨rfl, rfl⟩) | (rw [show joinE a b = optE (hullP (endsOf a ++ endsOf b)) from if_pos (nn h16)]; first | (have hh := optN (h := (hullP (endsOf a ++ endsOf b))) h31; rw [optE_n hh]; exact ⟨rfl, rfl⟩) | (obtain ⟨gg, hh⟩ := optS (h := (hullP (endsOf a ++ endsOf b))) h31; rw [optE_s hh, hh]; exact ⟨rfl, rfl⟩))
  · skip
    refine vskip ?_
    refine vseq ?_
    refine vdraw [(.q, 0), (.q, 1), (.q, 3), (.g, 2), (.q, 4), (.g, 5), (.m, 6), (.n, 7), (.q, 8), (.q, 9), (.q, 10), (.a (blk [.int .i64 0, .int .i64 0, .int .i64 0, .int .i64 0, .int .i64 0, .int .i64 0, .int .i64 0, .int .i64 0] 96), 11), (.s, 12), (.q, 13)] Try.mixed (by kernel_rfl) ⟨⟨_, _, _, _, _, rfl, _, inferInstance, rfl⟩, True.intro⟩ ?_
    refine vdq (mone rfl) (vldn rfl rfl) rfl rfl ?_
    refine vdq (mone rfl) (vcp rfl rfl rfl (c_region_bounds _ _ _ _ _ _ _ _)) rfl rfl ?_
    refine vdq (mone rfl) (vldn rfl rfl) rfl rfl ?_
    refine vdg rfl (mone rfl) (vcnew rfl rfl rfl (n_ends a)) rfl rfl (fun b5 => ?_)
    refine vdq (mone rfl) (vcp rfl rfl rfl (c_region_bounds _ _ _ _ _ _ _ _)) rfl rfl ?_
    refine vdg rfl (mone rfl) (vcnew rfl rfl rfl (n_ends b)) rfl rfl (fun b6 => ?_)
    refine vdm (mone rfl) (vbsP rfl rfl rfl rfl rfl rfl) rfl rfl (fun b7 => ?_)
    refine vdn rfl (mone rfl) (vcq rfl rfl rfl (((h_hull2 (it_ends a (sm2a h16) b5) (it_ends b (sm2b h16) b6) (fun p hp => ends_sm (sm2a h16) hp) (fun p hp => ends_sm (sm2b h16) hp) b7).perm ((List.Perm.swap _ _ _).cons _) ((List.Perm.swap _ _ _).cons _)).fr3)) rfl rfl ?_
    refine vdq (mone rfl) (vmv rfl) rfl rfl ?_
    refine vdq (mone rfl) (vex rfl rfl) rfl rfl ?_
    refine vdq (mone rfl) (vex rfl rfl) rfl rfl ?_
    refine vda rfl rfl (fun b8 => ?_)
    refine vds (mone rfl) (vstn rfl rfl rfl rfl rfl) rfl ?_
    refine vdq (mone rfl) (vas rfl) rfl rfl ?_
    refine vdend rfl ?_
    refine vseq ?_
    refine vseq ?_
    refine vregion ?_
    refine vone rfl (vxq (vmv rfl) rfl rfl ?_)
    refine vone rfl (vxq (vnot rfl) rfl rfl ?_)
    refine vnil ?_
    refine vcond rfl (fun h31 => ?_) (fun h31 => ?_)
    · skip
      refine vseq ?_
      refine vregion ?_
      refine vone rfl (vxq (vbd rfl rfl) rfl rfl ?_)
      refine vone rfl (vxs (vstn rfl rfl rfl rfl rfl) rfl ?_)
      refine vone rfl (vxq (vas rfl) rfl rfl ?_)
      refine vnil ?_
      refine vret (vr2 (H' := H) Try.func52 rfl (.celln rfl rfl) (.tmp rfl) (by repeat first | exact .refl _ | refine .cons_cons _ ?_ | refine .cons _ ?_ | exact sl0 _ | refine slA ?_) ?_)
      first | (rw [show joinE a b = (zR, chk2 a b) from if_neg h16]; exact ⟨rfl, rfl⟩) | (rw [show joinE a b = optE (hullP (endsOf a ++ endsOf b)) from if_pos (nn h16)]; first | (have hh := optN (h := (hullP (endsOf a ++ endsOf b))) h31; rw [optE_n hh]; exact ⟨rfl, rfl⟩) | (obtain ⟨gg, hh⟩ := optS (h := (hullP (endsOf a ++ endsOf b))) h31; rw [optE_s hh, hh]; exact ⟨rfl, rfl⟩))
    · skip
      refine vskip ?_
      refine vseq ?_
      refine vregion ?_
      refine vone rfl (vxq (vldn rfl rfl) rfl rfl ?_)
      refine vone rfl (vxq (vcp rfl rfl rfl (c_region_four_region _ _ _ _ _ _ _ _)) rfl rfl ?_)
      refine vone rfl (vxs (vstn rfl rfl rfl rfl rfl) rfl ?_)
      refine vone rfl (vxq (vas rfl) rfl rfl ?_)
      refine vnil ?_
      refine vret (vr2 (H' := H) Try.func52 rfl (.celln rfl rfl) (.tmp rfl) (by repeat first | exact .refl _ | refine .cons_cons _ ?_ | refine .cons _ ?_ | exact sl0 _ | refine slA ?_) ?_)
      first | (rw [show joinE a b = (zR, chk2 a b) from if_neg h16]; exact ⟨rfl, rfl⟩) | (rw [show joinE a b = optE (hullP (endsOf a ++ endsOf b)) from if_pos (nn h16)]; first | (have hh := optN (h := (hullP (endsOf a ++ endsOf b))) h31; rw [optE_n hh]; exact ⟨rfl, rfl⟩) | (obtain ⟨gg, hh⟩ := optS (h := (hullP (endsOf a ++ endsOf b))) h31; rw [optE_s hh, hh]; exact ⟨rfl, rfl⟩))
/-- paravane/paravaneref01.Join -/
theorem c_ref_Join (a b : Rg) : VPure Try.prog 53 [vR a, vR b] (tup [vR (joinE a b).1, I (joinE a b).2]) := by
  intro H
  refine vcall_of_vrun Try.func53 rfl (N := 20) rfl rfl ?_
  refine vseq ?_
  refine vregion ?_
  refine vone rfl (vxa (vbox rfl rfl) rfl rfl (fun b1 => ?_))
  refine vone rfl (vxa (vbox rfl rfl) rfl rfl (fun b2 => ?_))
  refine vone rfl (vxa valloc rfl rfl (fun b3 => ?_))
  refine vone rfl (vxq (vas rfl) rfl rfl ?_)
  refine vnil ?_
  refine vseq ?_
  refine vseq ?_
  refine vregion ?_
  refine vone rfl (vxq (vldn rfl rfl) rfl rfl ?_)
  refine vone rfl (vxq (vldn rfl rfl) rfl rfl ?_)
  refine vone rfl (vxq (vcp rfl rfl rfl (c_ref_two a b)) rfl rfl ?_)
  refine vone rfl (vxq (vas rfl) rfl rfl ?_)
  refine vnil ?_
  refine vseq ?_
  refine vregion ?_
  refine vone rfl (vxq (vmv rfl) rfl rfl ?_)
  refine vone rfl (vxq (vneq rfl rfl) rfl rfl ?_)
  refine vnil ?_
  refine vcondd rfl (fun h11 => ?_) (fun h11 => ?_)
  · skip
    refine vseq ?_
    refine vregion ?_
    refine vone rfl (vxq (vbd rfl rfl) rfl rfl ?_)
    refine vone rfl (vxq (vmv rfl) rfl rfl ?_)
    refine vone rfl (vxs (vstn rfl rfl rfl rfl rfl) rfl ?_)
    refine vone rfl (vxq (vas rfl) rfl rfl ?_)
    refine vnil ?_
    refine vret (vr2 (H' := H) Try.func53 rfl (.celln rfl rfl) (.tmp rfl) (by repeat first | exact .refl _ | refine .cons_cons _ ?_ | refine .cons _ ?_ | exact sl0 _ | refine slA ?_) ?_)
    first | (rw [show joinE a b = (zR, chk2 a b) from if_neg h11]; exact ⟨rfl, rfl⟩) | (rw [show joinE a b = optE (hullP (endsOf a ++ endsOf b)) from if_pos (nn h11)]; exact ⟨rfl, rfl⟩)
  · skip
    refine vskip ?_
    refine vseq ?_
    refine vregion ?_
    refine vone rfl (vxq (vldn rfl rfl) rfl rfl ?_)
    refine vone rfl (vxq (vldn rfl rfl) rfl rfl ?_)
    refine vone rfl (vxg (vbs rfl rfl rfl rfl rfl rfl) rfl rfl ?_)
    rintro _ _ ⟨b4, rfl, rfl⟩
    refine vone rfl (vxq (vcq rfl rfl rfl ((h_hulls2 a b (sm2a h11) (sm2b h11) b4).fr1)) rfl rfl ?_)
    refine vone rfl (vxq (vex rfl rfl) rfl rfl ?_)
    refine vone rfl (vxq (vex rfl rfl) rfl rfl ?_)
    refine vone rfl (vxs (vstn rfl rfl rfl rfl rfl) rfl ?_)
    refine vone rfl (vxq (vas rfl) rfl rfl ?_)
    refine vnil ?_
    refine vret (vr2 (H' := H) Try.func53 rfl (.celln rfl rfl) (.tmp rfl) (by repeat first | exact .refl _ | refine .cons_cons _ ?_ | refine .cons _ ?_ | exact sl0 _ | refine slA ?_) ?_)
    first | (rw [show joinE a b = (zR, chk2 a b) from if_neg h11]; exact ⟨rfl, rfl⟩) | (rw [show joinE a b = optE (hullP (endsOf a ++ endsOf b)) from if_pos (nn h11)]; exact ⟨rfl, rfl⟩)

theorem twoE_n {a b : Rg} (h : chk2 a b ≠ 0) : twoE a b = (zR, zR, chk2 a b) := if_neg h
theorem twoE_e {a b : Rg} (h : ¬ chk2 a b ≠ 0) : twoE a b = (match tightP a, tightP b with | some x, some y => (x, y, 0) | _, _ => (zR, zR, 4)) := if_pos (nn h)
theorem errO_or {h : Option Rg} : errO h = 0 ∨ errO h = 4 := by cases h <;> simp [errO]
theorem errO_z {h : Option Rg} (e : errO h = 0) : ∃ g, h = some g := by cases h <;> simp_all [errO]
theorem errO_nz {h : Option Rg} (e : errO h ≠ 0) : h = none := by cases h <;> simp_all [errO]
theorem h_firstE (g h : Option Rg) (bs : Nat) : VHas Try.prog 110 [.slice (some ⟨bs, 0, Option.none⟩) 2 2] (I (fst2 (errO g) (errO h))) [(bs, blk [I (errO g), I (errO h)] 27)] [(bs, blk [I (errO g), I (errO h)] 27)] := h_first2 _ _ bs
theorem fstE_z {g h : Option Rg} (e : ¬ fst2 (errO g) (errO h) ≠ 0) : ∃ x y, g = some x ∧ h = some y := by
  cases g <;> cases h <;> simp_all [fst2, errO]
theorem fstE_nz {g h : Option Rg} (e : fst2 (errO g) (errO h) ≠ 0) : fst2 (errO g) (errO h) = 4 ∧ (g = none ∨ h = none) := by
  cases g <;> cases h <;> simp_all [fst2, errO]
theorem twoE_4 {a b : Rg} (h : ¬ chk2 a b ≠ 0) (e : tightP a = none ∨ tightP b = none) : twoE a b = (zR, zR, 4) := by
  rw [twoE_e h]; rcases e with e | e
  · rw [e]
  · rw [e]; cases tightP a <;> rfl
theorem twoE_0 {a b x y : Rg} (h : ¬ chk2 a b ≠ 0) (ea : tightP a = some x) (eb : tightP b = some y) : twoE a b = (x, y, 0) := by
  rw [twoE_e h, ea, eb]

/-- paravane/region.two -/
theorem c_two (a b : Rg) : VPure Try.prog 118 [vR a, vR b] (tup [vR (twoE a b).1, vR (twoE a b).2.1, I (twoE a b).2.2]) := by
  intro H
  refine vcall_of_vrun Try.func118 rfl (N := 44) rfl rfl ?_
  refine vseq ?_
  refine vregion ?_
  refine vone rfl (vxa (vbox rfl rfl) rfl rfl (fun b1 => ?_))
  refine vone rfl (vxa (vbox rfl rfl) rfl rfl (fun b2 => ?_))
  refine vone rfl (vxa valloc rfl rfl (fun b3 => ?_))
  refine vone rfl (vxa valloc rfl rfl (fun b4 => ?_))
  refine vone rfl (vxq (vas rfl) rfl rfl ?_)
  refine vnil ?_
  refine vseq ?_
  refine vseq ?_
  refine vdraw0 [(.q, 0), (.q, 1), (.q, 2), (.q, 3), (.m, 4), (.n, 5), (.q, 6)] Try.mixed (by kernel_rfl) (by kernel_rfl) ?_
  refine vdq (mone rfl) (vldn rfl rfl) rfl rfl ?_
  refine vdq (mone rfl) (vcp rfl rfl rfl (c_region_Check a)) rfl rfl ?_
  refine vdq (mone rfl) (vldn rfl rfl) rfl rfl ?_
  refine vdq (mone rfl) (vcp rfl rfl rfl (c_region_Check b)) rfl rfl ?_
  refine vdm (mone rfl) (vbsP rfl rfl rfl rfl rfl rfl) rfl rfl (fun b5 => ?_)
  refine vdn rfl (mone rfl) (vcq rfl rfl rfl ((h_firstR a b b5).fr1)) rfl rfl ?_
  refine vdq (mone rfl) (vas rfl) rfl rfl ?_
  refine vdend rfl ?_
  refine vseq ?_
  refine vregion ?_
  refine vone rfl (vxq (vmv rfl) rfl rfl ?_)
  refine vone rfl (vxq (vneq rfl rfl) rfl rfl ?_)
  refine vnil ?_
  refine vcondd rfl (fun h17 => ?_) (fun h17 => ?_)
  · skip
    refine vseq ?_
    refine vregion ?_
    refine vone rfl (vxq (vbd rfl rfl) rfl rfl ?_)
    refine vone rfl (vxq (vbd rfl rfl) rfl rfl ?_)
    refine vone rfl (vxq (vmv rfl) rfl rfl ?_)
    refine vone rfl (vxs (vstn rfl rfl rfl rfl rfl) rfl ?_)
    refine vone rfl (vxs (vstn rfl rfl rfl rfl rfl) rfl ?_)
    refine vone rfl (vxq (vas rfl) rfl rfl ?_)
    refine vnil ?_
    refine vret (vr3 (H' := H) Try.func118 rfl (.celln rfl rfl) (.celln rfl rfl) (.tmp rfl) (by repeat first | exact .refl _ | refine .cons_cons _ ?_ | refine .cons _ ?_ | exact sl0 _ | refine slA ?_) ?_)
    first | (rw [twoE_n h17]; exact ⟨rfl, rfl⟩) | (obtain ⟨e4, eo⟩ := fstE_nz h38; rw [twoE_4 h17 eo, e4]; exact ⟨rfl, rfl⟩) | (obtain ⟨gx, gy, ex, ey⟩ := fstE_z h38; rw [twoE_0 h17 ex ey, ex, ey]; exact ⟨rfl, rfl⟩)
  · skip
    refine vskip ?_
    refine vseq ?_
    refine vregion ?_
    refine vone rfl (vxq (vldn rfl rfl) rfl rfl ?_)
    refine vone rfl (vxq (vcp rfl rfl rfl (c_region_bounds _ _ _ _ _ _ _ _)) rfl rfl ?_)
    refine vone rfl (vxq (vcp rfl rfl rfl (c_tight a (sm2a h17))) rfl rfl ?_)
    refine vone rfl (vxq (vmv rfl) rfl rfl ?_)
    refine vone rfl (vxq (vex rfl rfl) rfl rfl ?_)
    refine vone rfl (vxq (vex rfl rfl) rfl rfl ?_)
    refine vone rfl (vxs (vstn rfl rfl rfl rfl rfl) rfl ?_)
    refine vone rfl (vxq (vas rfl) rfl rfl ?_)
    refine vnil ?_
    refine vseq ?_
    refine vregion ?_
    refine vone rfl (vxq (vldn rfl rfl) rfl rfl ?_)
    refine vone rfl (vxq (vcp rfl rfl rfl (c_region_bounds _ _ _ _ _ _ _ _)) rfl rfl ?_)
    refine vone rfl (vxq (vcp rfl rfl rfl (c_tight b (sm2b h17))) rfl rfl ?_)
    refine vone rfl (vxq (vmv rfl) rfl rfl ?_)
    refine vone rfl (vxq (vex rfl rfl) rfl rfl ?_)
    refine vone rfl (vxq (vex rfl rfl) rfl rfl ?_)
    refine vone rfl (vxs (vstn rfl rfl rfl rfl rfl) rfl ?_)
    refine vone rfl (vxq (vas rfl) rfl rfl ?_)
    refine vnil ?_
    refine vseq ?_
    refine vseq ?_
    refine vregion ?_
    refine vone rfl (vxq (vmv rfl) rfl rfl ?_)
    refine vone rfl (vxq (vmv rfl) rfl rfl ?_)
    refine vone rfl (vxg (vbs rfl rfl rfl rfl rfl rfl) rfl rfl ?_)
    rintro _ _ ⟨b6, rfl, rfl⟩
    refine vone rfl (vxq (vcq rfl rfl rfl ((h_firstE (tightP a) (tightP b) b6).fr1)) rfl rfl ?_)
    refine vone rfl (vxq (vas rfl) rfl rfl ?_)
    refine vnil ?_
    refine vseq ?_
    refine vregion ?_
    refine vone rfl (vxq (vmv rfl) rfl rfl ?_)
    refine vone rfl (vxq (vneq rfl rfl) rfl rfl ?_)
    refine vnil ?_
    refine vcondd rfl (fun h38 => ?_) (fun h38 => ?_)
    · skip
      refine vseq ?_
      refine vregion ?_
      refine vone rfl (vxq (vbd rfl rfl) rfl rfl ?_)
      refine vone rfl (vxq (vbd rfl rfl) rfl rfl ?_)
      refine vone rfl (vxq (vmv rfl) rfl rfl ?_)
      refine vone rfl (vxs (vstn rfl rfl rfl rfl rfl) rfl ?_)
      refine vone rfl (vxs (vstn rfl rfl rfl rfl rfl) rfl ?_)
      refine vone rfl (vxq (vas rfl) rfl rfl ?_)
      refine vnil ?_
      refine vret (vr3 (H' := H) Try.func118 rfl (.celln rfl rfl) (.celln rfl rfl) (.tmp rfl) (by repeat first | exact .refl _ | refine .cons_cons _ ?_ | refine .cons _ ?_ | exact sl0 _ | refine slA ?_) ?_)
      first | (rw [twoE_n h17]; exact ⟨rfl, rfl⟩) | (obtain ⟨e4, eo⟩ := fstE_nz h38; rw [twoE_4 h17 eo, e4]; exact ⟨rfl, rfl⟩) | (obtain ⟨gx, gy, ex, ey⟩ := fstE_z h38; rw [twoE_0 h17 ex ey, ex, ey]; exact ⟨rfl, rfl⟩)
    · skip
      refine vskip ?_
      refine vseq ?_
      refine vdraw0 [(.q, 0), (.q, 1), (.q, 2), (.q, 3), (.q, 4)] Try.mixed (by kernel_rfl) (by kernel_rfl) ?_
      refine vdq (mone rfl) (vldn rfl rfl) rfl rfl ?_
      refine vdq (mone rfl) (vldn rfl rfl) rfl rfl ?_
      refine vdqn (mone rfl) (vstns rfl rfl rfl rfl rfl) rfl ?_
      refine vdqn (mone rfl) (vstns rfl rfl rfl rfl rfl) rfl ?_
      refine vdq (mone rfl) (vas rfl) rfl rfl ?_
      refine vdend rfl ?_
      refine vret (vr3 (H' := H) Try.func118 rfl (.celln rfl rfl) (.celln rfl rfl) (.tmp rfl) (by repeat first | exact .refl _ | refine .cons_cons _ ?_ | refine .cons _ ?_ | exact sl0 _ | refine slA ?_) ?_)
      first | (rw [twoE_n h17]; exact ⟨rfl, rfl⟩) | (obtain ⟨e4, eo⟩ := fstE_nz h38; rw [twoE_4 h17 eo, e4]; exact ⟨rfl, rfl⟩) | (obtain ⟨gx, gy, ex, ey⟩ := fstE_z h38; rw [twoE_0 h17 ex ey, ex, ey]; exact ⟨rfl, rfl⟩)
/-- paravane/paravaneref01.tights -/
theorem c_tights (a b : Rg) : VPure Try.prog 130 [vR a, vR b] (tup [vR (twoE a b).1, vR (twoE a b).2.1, I (twoE a b).2.2]) := by
  intro H
  refine vcall_of_vrun Try.func130 rfl (N := 43) rfl rfl ?_
  refine vseq ?_
  refine vregion ?_
  refine vone rfl (vxa (vbox rfl rfl) rfl rfl (fun b1 => ?_))
  refine vone rfl (vxa (vbox rfl rfl) rfl rfl (fun b2 => ?_))
  refine vone rfl (vxa valloc rfl rfl (fun b3 => ?_))
  refine vone rfl (vxa valloc rfl rfl (fun b4 => ?_))
  refine vone rfl (vxq (vas rfl) rfl rfl ?_)
  refine vnil ?_
  refine vseq ?_
  refine vseq ?_
  refine vregion ?_
  refine vone rfl (vxq (vldn rfl rfl) rfl rfl ?_)
  refine vone rfl (vxq (vldn rfl rfl) rfl rfl ?_)
  refine vone rfl (vxq (vcp rfl rfl rfl (c_ref_two a b)) rfl rfl ?_)
  refine vone rfl (vxq (vas rfl) rfl rfl ?_)
  refine vnil ?_
  refine vseq ?_
  refine vregion ?_
  refine vone rfl (vxq (vmv rfl) rfl rfl ?_)
  refine vone rfl (vxq (vneq rfl rfl) rfl rfl ?_)
  refine vnil ?_
  refine vcondd rfl (fun h15 => ?_) (fun h15 => ?_)
  · skip
    refine vseq ?_
    refine vregion ?_
    refine vone rfl (vxq (vbd rfl rfl) rfl rfl ?_)
    refine vone rfl (vxq (vbd rfl rfl) rfl rfl ?_)
    refine vone rfl (vxq (vmv rfl) rfl rfl ?_)
    refine vone rfl (vxs (vstn rfl rfl rfl rfl rfl) rfl ?_)
    refine vone rfl (vxs (vstn rfl rfl rfl rfl rfl) rfl ?_)
    refine vone rfl (vxq (vas rfl) rfl rfl ?_)
    refine vnil ?_
    refine vret (vr3 (H' := H) Try.func130 rfl (.celln rfl rfl) (.celln rfl rfl) (.tmp rfl) (by repeat first | exact .refl _ | refine .cons_cons _ ?_ | refine .cons _ ?_ | exact sl0 _ | refine slA ?_) ?_)
    first | (rw [twoE_n h15]; exact ⟨rfl, rfl⟩) | (rw [twoE_4 h15 (.inl (errO_nz h26)), show (optE (tightP a)).2 = 4 from errO_none (errO_nz h26)]; exact ⟨rfl, rfl⟩) | (rw [twoE_4 h15 (.inr (errO_nz h37)), show (optE (tightP b)).2 = 4 from errO_none (errO_nz h37)]; exact ⟨rfl, rfl⟩) | (obtain ⟨gx, ex⟩ := errO_z (nn h26); obtain ⟨gy, ey⟩ := errO_z (nn h37); rw [twoE_0 h15 ex ey, ex, ey]; exact ⟨rfl, rfl⟩)
  · skip
    refine vskip ?_
    refine vseq ?_
    refine vregion ?_
    refine vone rfl (vxq (vldn rfl rfl) rfl rfl ?_)
    refine vone rfl (vxg (vbs rfl rfl rfl rfl rfl rfl) rfl rfl ?_)
    rintro _ _ ⟨b5, rfl, rfl⟩
    refine vone rfl (vxq (vcq rfl rfl rfl ((h_hulls1 a (sm2a h15) b5).fr1)) rfl rfl ?_)
    refine vone rfl (vxq (vmv rfl) rfl rfl ?_)
    refine vone rfl (vxq (vex rfl rfl) rfl rfl ?_)
    refine vone rfl (vxq (vex rfl rfl) rfl rfl ?_)
    refine vone rfl (vxa valloc rfl rfl (fun b6 => ?_))
    refine vone rfl (vxs (vstn rfl rfl rfl rfl rfl) rfl ?_)
    refine vone rfl (vxq (vas rfl) rfl rfl ?_)
    refine vnil ?_
    refine vseq ?_
    refine vseq ?_
    refine vregion ?_
    refine vone rfl (vxq (vmv rfl) rfl rfl ?_)
    refine vone rfl (vxq (vneq rfl rfl) rfl rfl ?_)
    refine vnil ?_
    refine vcondd rfl (fun h26 => ?_) (fun h26 => ?_)
    · skip
      refine vseq ?_
      refine vregion ?_
      refine vone rfl (vxq (vbd rfl rfl) rfl rfl ?_)
      refine vone rfl (vxq (vbd rfl rfl) rfl rfl ?_)
      refine vone rfl (vxq (vmv rfl) rfl rfl ?_)
      refine vone rfl (vxs (vstn rfl rfl rfl rfl rfl) rfl ?_)
      refine vone rfl (vxs (vstn rfl rfl rfl rfl rfl) rfl ?_)
      refine vone rfl (vxq (vas rfl) rfl rfl ?_)
      refine vnil ?_
      refine vret (vr3 (H' := H) Try.func130 rfl (.celln rfl rfl) (.celln rfl rfl) (.tmp rfl) (by repeat first | exact .refl _ | refine .cons_cons _ ?_ | refine .cons _ ?_ | exact sl0 _ | refine slA ?_) ?_)
      first | (rw [twoE_n h15]; exact ⟨rfl, rfl⟩) | (rw [twoE_4 h15 (.inl (errO_nz h26)), show (optE (tightP a)).2 = 4 from errO_none (errO_nz h26)]; exact ⟨rfl, rfl⟩) | (rw [twoE_4 h15 (.inr (errO_nz h37)), show (optE (tightP b)).2 = 4 from errO_none (errO_nz h37)]; exact ⟨rfl, rfl⟩) | (obtain ⟨gx, ex⟩ := errO_z (nn h26); obtain ⟨gy, ey⟩ := errO_z (nn h37); rw [twoE_0 h15 ex ey, ex, ey]; exact ⟨rfl, rfl⟩)
    · skip
      refine vskip ?_
      refine vseq ?_
      refine vregion ?_
      refine vone rfl (vxq (vldn rfl rfl) rfl rfl ?_)
      refine vone rfl (vxg (vbs rfl rfl rfl rfl rfl rfl) rfl rfl ?_)
      rintro _ _ ⟨b7, rfl, rfl⟩
      refine vone rfl (vxq (vcq rfl rfl rfl ((h_hulls1 b (sm2b h15) b7).fr1)) rfl rfl ?_)
      refine vone rfl (vxq (vmv rfl) rfl rfl ?_)
      refine vone rfl (vxq (vex rfl rfl) rfl rfl ?_)
      refine vone rfl (vxq (vex rfl rfl) rfl rfl ?_)
      refine vone rfl (vxa valloc rfl rfl (fun b8 => ?_))
      refine vone rfl (vxs (vstn rfl rfl rfl rfl rfl) rfl ?_)
      refine vone rfl (vxq (vas rfl) rfl rfl ?_)
      refine vnil ?_
      refine vseq ?_
      refine vseq ?_
      refine vregion ?_
      refine vone rfl (vxq (vmv rfl) rfl rfl ?_)
      refine vone rfl (vxq (vneq rfl rfl) rfl rfl ?_)
      refine vnil ?_
      refine vcondd rfl (fun h37 => ?_) (fun h37 => ?_)
      · skip
        refine vseq ?_
        refine vregion ?_
        refine vone rfl (vxq (vbd rfl rfl) rfl rfl ?_)
        refine vone rfl (vxq (vbd rfl rfl) rfl rfl ?_)
        refine vone rfl (vxq (vmv rfl) rfl rfl ?_)
        refine vone rfl (vxs (vstn rfl rfl rfl rfl rfl) rfl ?_)
        refine vone rfl (vxs (vstn rfl rfl rfl rfl rfl) rfl ?_)
        refine vone rfl (vxq (vas rfl) rfl rfl ?_)
        refine vnil ?_
        refine vret (vr3 (H' := H) Try.func130 rfl (.celln rfl rfl) (.celln rfl rfl) (.tmp rfl) (by repeat first | exact .refl _ | refine .cons_cons _ ?_ | refine .cons _ ?_ | exact sl0 _ | refine slA ?_) ?_)
        first | (rw [twoE_n h15]; exact ⟨rfl, rfl⟩) | (rw [twoE_4 h15 (.inl (errO_nz h26)), show (optE (tightP a)).2 = 4 from errO_none (errO_nz h26)]; exact ⟨rfl, rfl⟩) | (rw [twoE_4 h15 (.inr (errO_nz h37)), show (optE (tightP b)).2 = 4 from errO_none (errO_nz h37)]; exact ⟨rfl, rfl⟩) | (obtain ⟨gx, ex⟩ := errO_z (nn h26); obtain ⟨gy, ey⟩ := errO_z (nn h37); rw [twoE_0 h15 ex ey, ex, ey]; exact ⟨rfl, rfl⟩)
      · skip
        refine vskip ?_
        refine vseq ?_
        refine vdraw1 (d := 4) rfl [(.q, 0), (.q, 1), (.s, 2), (.c, 3), (.q, 4)] Try.mixed (by kernel_rfl) (allocOk_of _ (by kernel_rfl)) ?_
        refine vdq (mone rfl) (vldn rfl rfl) rfl rfl ?_
        refine vdq (mone rfl) (vldn rfl rfl) rfl rfl ?_
        refine vds (mone rfl) (vstn rfl rfl rfl rfl rfl) rfl ?_
        refine vdcs (mone rfl) (vstn rfl rfl rfl rfl rfl) rfl ?_
        refine vdq (mone rfl) (vas rfl) rfl rfl ?_
        refine vdend rfl ?_
        refine vret (vr3 (H' := H) Try.func130 rfl (.celln rfl rfl) (.celln rfl rfl) (.tmp rfl) (by repeat first | exact .refl _ | refine .cons_cons _ ?_ | refine .cons _ ?_ | exact sl0 _ | refine slA ?_) ?_)
        first | (rw [twoE_n h15]; exact ⟨rfl, rfl⟩) | (rw [twoE_4 h15 (.inl (errO_nz h26)), show (optE (tightP a)).2 = 4 from errO_none (errO_nz h26)]; exact ⟨rfl, rfl⟩) | (rw [twoE_4 h15 (.inr (errO_nz h37)), show (optE (tightP b)).2 = 4 from errO_none (errO_nz h37)]; exact ⟨rfl, rfl⟩) | (obtain ⟨gx, ex⟩ := errO_z (nn h26); obtain ⟨gy, ey⟩ := errO_z (nn h37); rw [twoE_0 h15 ex ey, ex, ey]; exact ⟨rfl, rfl⟩)
/-- paravane/region.Sum -/
theorem c_Sum (a b : Rg) : VPure Try.prog 54 [vR a, vR b] (tup [vR (sumE a b).1, I (sumE a b).2]) := by
  intro H
  refine vcall_of_vrun Try.func54 rfl (N := 26) rfl rfl ?_
  refine vseq ?_
  refine vregion ?_
  refine vone rfl (vxa (vbox rfl rfl) rfl rfl (fun b1 => ?_))
  refine vone rfl (vxa (vbox rfl rfl) rfl rfl (fun b2 => ?_))
  refine vone rfl (vxa valloc rfl rfl (fun b3 => ?_))
  refine vone rfl (vxq (vas rfl) rfl rfl ?_)
  refine vnil ?_
  refine vseq ?_
  refine vregion ?_
  refine vone rfl (vxq (vldn rfl rfl) rfl rfl ?_)
  refine vone rfl (vxq (vldn rfl rfl) rfl rfl ?_)
  refine vone rfl (vxq (vcp rfl rfl rfl (c_two a b)) rfl rfl ?_)
  refine vone rfl (vxq (vmv rfl) rfl rfl ?_)
  refine vone rfl (vxq (vex rfl rfl) rfl rfl ?_)
  refine vone rfl (vxq (vex rfl rfl) rfl rfl ?_)
  refine vone rfl (vxq (vex rfl rfl) rfl rfl ?_)
  refine vone rfl (vxa valloc rfl rfl (fun b4 => ?_))
  refine vone rfl (vxa valloc rfl rfl (fun b5 => ?_))
  refine vone rfl (vxs (vstn rfl rfl rfl rfl rfl) rfl ?_)
  refine vone rfl (vxs (vstn rfl rfl rfl rfl rfl) rfl ?_)
  refine vone rfl (vxq (vas rfl) rfl rfl ?_)
  refine vnil ?_
  refine vseq ?_
  refine vseq ?_
  refine vregion ?_
  refine vone rfl (vxq (vmv rfl) rfl rfl ?_)
  refine vone rfl (vxq (vneq rfl rfl) rfl rfl ?_)
  refine vnil ?_
  refine vcondd rfl (fun h17 => ?_) (fun h17 => ?_)
  · skip
    refine vseq ?_
    refine vregion ?_
    refine vone rfl (vxq (vbd rfl rfl) rfl rfl ?_)
    refine vone rfl (vxq (vmv rfl) rfl rfl ?_)
    refine vone rfl (vxs (vstn rfl rfl rfl rfl rfl) rfl ?_)
    refine vone rfl (vxq (vas rfl) rfl rfl ?_)
    refine vnil ?_
    refine vret (vr2 (H' := H) Try.func54 rfl (.celln rfl rfl) (.tmp rfl) (by repeat first | exact .refl _ | refine .cons_cons _ ?_ | refine .cons _ ?_ | exact sl0 _ | refine slA ?_) ?_)
    first | (rw [show sumE a b = (zR, (twoE a b).2.2) from if_neg h17]; exact ⟨rfl, rfl⟩) | (rw [show sumE a b = insideE ((twoE a b).1.map2 Bd.plus (twoE a b).2.1) from if_pos (nn h17)]; exact ⟨rfl, rfl⟩)
  · skip
    refine vskip ?_
    refine vseq ?_
    refine vregion ?_
    refine vone rfl (vxq (vldn rfl rfl) rfl rfl ?_)
    refine vone rfl (vxq (vldn rfl rfl) rfl rfl ?_)
    refine vone rfl (vxq (vcp rfl rfl rfl (c_plus4 (twoE a b).1 (twoE a b).2.1 ((twoE_sm a b).1.mono (by decide)) ((twoE_sm a b).2.mono (by decide)))) rfl rfl ?_)
    refine vone rfl (vxq (vcp rfl rfl rfl (c_inside ((twoE a b).1.map2 Bd.plus (twoE a b).2.1))) rfl rfl ?_)
    refine vone rfl (vxq (vex rfl rfl) rfl rfl ?_)
    refine vone rfl (vxq (vex rfl rfl) rfl rfl ?_)
    refine vone rfl (vxs (vstn rfl rfl rfl rfl rfl) rfl ?_)
    refine vone rfl (vxq (vas rfl) rfl rfl ?_)
    refine vnil ?_
    refine vret (vr2 (H' := H) Try.func54 rfl (.celln rfl rfl) (.tmp rfl) (by repeat first | exact .refl _ | refine .cons_cons _ ?_ | refine .cons _ ?_ | exact sl0 _ | refine slA ?_) ?_)
    first | (rw [show sumE a b = (zR, (twoE a b).2.2) from if_neg h17]; exact ⟨rfl, rfl⟩) | (rw [show sumE a b = insideE ((twoE a b).1.map2 Bd.plus (twoE a b).2.1) from if_pos (nn h17)]; exact ⟨rfl, rfl⟩)
/-- paravane/region.Minus -/
theorem c_Minus (a b : Rg) : VPure Try.prog 56 [vR a, vR b] (tup [vR (minusE a b).1, I (minusE a b).2]) := by
  intro H
  refine vcall_of_vrun Try.func56 rfl (N := 26) rfl rfl ?_
  refine vseq ?_
  refine vregion ?_
  refine vone rfl (vxa (vbox rfl rfl) rfl rfl (fun b1 => ?_))
  refine vone rfl (vxa (vbox rfl rfl) rfl rfl (fun b2 => ?_))
  refine vone rfl (vxa valloc rfl rfl (fun b3 => ?_))
  refine vone rfl (vxq (vas rfl) rfl rfl ?_)
  refine vnil ?_
  refine vseq ?_
  refine vregion ?_
  refine vone rfl (vxq (vldn rfl rfl) rfl rfl ?_)
  refine vone rfl (vxq (vldn rfl rfl) rfl rfl ?_)
  refine vone rfl (vxq (vcp rfl rfl rfl (c_two a b)) rfl rfl ?_)
  refine vone rfl (vxq (vmv rfl) rfl rfl ?_)
  refine vone rfl (vxq (vex rfl rfl) rfl rfl ?_)
  refine vone rfl (vxq (vex rfl rfl) rfl rfl ?_)
  refine vone rfl (vxq (vex rfl rfl) rfl rfl ?_)
  refine vone rfl (vxa valloc rfl rfl (fun b4 => ?_))
  refine vone rfl (vxa valloc rfl rfl (fun b5 => ?_))
  refine vone rfl (vxs (vstn rfl rfl rfl rfl rfl) rfl ?_)
  refine vone rfl (vxs (vstn rfl rfl rfl rfl rfl) rfl ?_)
  refine vone rfl (vxq (vas rfl) rfl rfl ?_)
  refine vnil ?_
  refine vseq ?_
  refine vseq ?_
  refine vregion ?_
  refine vone rfl (vxq (vmv rfl) rfl rfl ?_)
  refine vone rfl (vxq (vneq rfl rfl) rfl rfl ?_)
  refine vnil ?_
  refine vcondd rfl (fun h17 => ?_) (fun h17 => ?_)
  · skip
    refine vseq ?_
    refine vregion ?_
    refine vone rfl (vxq (vbd rfl rfl) rfl rfl ?_)
    refine vone rfl (vxq (vmv rfl) rfl rfl ?_)
    refine vone rfl (vxs (vstn rfl rfl rfl rfl rfl) rfl ?_)
    refine vone rfl (vxq (vas rfl) rfl rfl ?_)
    refine vnil ?_
    refine vret (vr2 (H' := H) Try.func56 rfl (.celln rfl rfl) (.tmp rfl) (by repeat first | exact .refl _ | refine .cons_cons _ ?_ | refine .cons _ ?_ | exact sl0 _ | refine slA ?_) ?_)
    first | (rw [show minusE a b = (zR, (twoE a b).2.2) from if_neg h17]; exact ⟨rfl, rfl⟩) | (rw [show minusE a b = insideE ((twoE a b).1.map2 Bd.minus (twoE a b).2.1) from if_pos (nn h17)]; exact ⟨rfl, rfl⟩)
  · skip
    refine vskip ?_
    refine vseq ?_
    refine vregion ?_
    refine vone rfl (vxq (vldn rfl rfl) rfl rfl ?_)
    refine vone rfl (vxq (vldn rfl rfl) rfl rfl ?_)
    refine vone rfl (vxq (vcp rfl rfl rfl (c_minus4 (twoE a b).1 (twoE a b).2.1 ((twoE_sm a b).1.mono (by decide)) ((twoE_sm a b).2.mono (by decide)))) rfl rfl ?_)
    refine vone rfl (vxq (vcp rfl rfl rfl (c_inside ((twoE a b).1.map2 Bd.minus (twoE a b).2.1))) rfl rfl ?_)
    refine vone rfl (vxq (vex rfl rfl) rfl rfl ?_)
    refine vone rfl (vxq (vex rfl rfl) rfl rfl ?_)
    refine vone rfl (vxs (vstn rfl rfl rfl rfl rfl) rfl ?_)
    refine vone rfl (vxq (vas rfl) rfl rfl ?_)
    refine vnil ?_
    refine vret (vr2 (H' := H) Try.func56 rfl (.celln rfl rfl) (.tmp rfl) (by repeat first | exact .refl _ | refine .cons_cons _ ?_ | refine .cons _ ?_ | exact sl0 _ | refine slA ?_) ?_)
    first | (rw [show minusE a b = (zR, (twoE a b).2.2) from if_neg h17]; exact ⟨rfl, rfl⟩) | (rw [show minusE a b = insideE ((twoE a b).1.map2 Bd.minus (twoE a b).2.1) from if_pos (nn h17)]; exact ⟨rfl, rfl⟩)
/-- paravane/paravaneref01.Sum -/
theorem c_ref_Sum (a b : Rg) : VPure Try.prog 55 [vR a, vR b] (tup [vR (sumE a b).1, I (sumE a b).2]) := by
  intro H
  refine vcall_of_vrun Try.func55 rfl (N := 26) rfl rfl ?_
  refine vseq ?_
  refine vregion ?_
  refine vone rfl (vxa (vbox rfl rfl) rfl rfl (fun b1 => ?_))
  refine vone rfl (vxa (vbox rfl rfl) rfl rfl (fun b2 => ?_))
  refine vone rfl (vxa valloc rfl rfl (fun b3 => ?_))
  refine vone rfl (vxq (vas rfl) rfl rfl ?_)
  refine vnil ?_
  refine vseq ?_
  refine vregion ?_
  refine vone rfl (vxq (vldn rfl rfl) rfl rfl ?_)
  refine vone rfl (vxq (vldn rfl rfl) rfl rfl ?_)
  refine vone rfl (vxq (vcp rfl rfl rfl (c_tights a b)) rfl rfl ?_)
  refine vone rfl (vxq (vmv rfl) rfl rfl ?_)
  refine vone rfl (vxq (vex rfl rfl) rfl rfl ?_)
  refine vone rfl (vxq (vex rfl rfl) rfl rfl ?_)
  refine vone rfl (vxq (vex rfl rfl) rfl rfl ?_)
  refine vone rfl (vxa valloc rfl rfl (fun b4 => ?_))
  refine vone rfl (vxa valloc rfl rfl (fun b5 => ?_))
  refine vone rfl (vxs (vstn rfl rfl rfl rfl rfl) rfl ?_)
  refine vone rfl (vxs (vstn rfl rfl rfl rfl rfl) rfl ?_)
  refine vone rfl (vxq (vas rfl) rfl rfl ?_)
  refine vnil ?_
  refine vseq ?_
  refine vseq ?_
  refine vregion ?_
  refine vone rfl (vxq (vmv rfl) rfl rfl ?_)
  refine vone rfl (vxq (vneq rfl rfl) rfl rfl ?_)
  refine vnil ?_
  refine vcondd rfl (fun h17 => ?_) (fun h17 => ?_)
  · skip
    refine vseq ?_
    refine vregion ?_
    refine vone rfl (vxq (vbd rfl rfl) rfl rfl ?_)
    refine vone rfl (vxq (vmv rfl) rfl rfl ?_)
    refine vone rfl (vxs (vstn rfl rfl rfl rfl rfl) rfl ?_)
    refine vone rfl (vxq (vas rfl) rfl rfl ?_)
    refine vnil ?_
    refine vret (vr2 (H' := H) Try.func55 rfl (.celln rfl rfl) (.tmp rfl) (by repeat first | exact .refl _ | refine .cons_cons _ ?_ | refine .cons _ ?_ | exact sl0 _ | refine slA ?_) ?_)
    first | (rw [show sumE a b = (zR, (twoE a b).2.2) from if_neg h17]; exact ⟨rfl, rfl⟩) | (rw [show sumE a b = insideE ((twoE a b).1.map2 Bd.plus (twoE a b).2.1) from if_pos (nn h17)]; exact ⟨rfl, rfl⟩)
  · skip
    refine vskip ?_
    refine vseq ?_
    refine vregion ?_
    refine vone rfl (vxq (vldn rfl rfl) rfl rfl ?_)
    refine vone rfl (vxq (vldn rfl rfl) rfl rfl ?_)
    refine vone rfl (vxq (vcp rfl rfl rfl (c_added (twoE a b).1 (twoE a b).2.1 ((twoE_sm a b).1.mono (by decide)) ((twoE_sm a b).2.mono (by decide)))) rfl rfl ?_)
    refine vone rfl (vxq (vcp rfl rfl rfl (c_plane ((twoE a b).1.map2 Bd.plus (twoE a b).2.1))) rfl rfl ?_)
    refine vone rfl (vxq (vex rfl rfl) rfl rfl ?_)
    refine vone rfl (vxq (vex rfl rfl) rfl rfl ?_)
    refine vone rfl (vxs (vstn rfl rfl rfl rfl rfl) rfl ?_)
    refine vone rfl (vxq (vas rfl) rfl rfl ?_)
    refine vnil ?_
    refine vret (vr2 (H' := H) Try.func55 rfl (.celln rfl rfl) (.tmp rfl) (by repeat first | exact .refl _ | refine .cons_cons _ ?_ | refine .cons _ ?_ | exact sl0 _ | refine slA ?_) ?_)
    first | (rw [show sumE a b = (zR, (twoE a b).2.2) from if_neg h17]; exact ⟨rfl, rfl⟩) | (rw [show sumE a b = insideE ((twoE a b).1.map2 Bd.plus (twoE a b).2.1) from if_pos (nn h17)]; exact ⟨rfl, rfl⟩)
/-- paravane/paravaneref01.Minus -/
theorem c_ref_Minus (a b : Rg) : VPure Try.prog 57 [vR a, vR b] (tup [vR (minusE a b).1, I (minusE a b).2]) := by
  intro H
  refine vcall_of_vrun Try.func57 rfl (N := 27) rfl rfl ?_
  refine vseq ?_
  refine vregion ?_
  refine vone rfl (vxa (vbox rfl rfl) rfl rfl (fun b1 => ?_))
  refine vone rfl (vxa (vbox rfl rfl) rfl rfl (fun b2 => ?_))
  refine vone rfl (vxa valloc rfl rfl (fun b3 => ?_))
  refine vone rfl (vxq (vas rfl) rfl rfl ?_)
  refine vnil ?_
  refine vseq ?_
  refine vregion ?_
  refine vone rfl (vxq (vldn rfl rfl) rfl rfl ?_)
  refine vone rfl (vxq (vldn rfl rfl) rfl rfl ?_)
  refine vone rfl (vxq (vcp rfl rfl rfl (c_tights a b)) rfl rfl ?_)
  refine vone rfl (vxq (vmv rfl) rfl rfl ?_)
  refine vone rfl (vxq (vex rfl rfl) rfl rfl ?_)
  refine vone rfl (vxq (vex rfl rfl) rfl rfl ?_)
  refine vone rfl (vxq (vex rfl rfl) rfl rfl ?_)
  refine vone rfl (vxa valloc rfl rfl (fun b4 => ?_))
  refine vone rfl (vxa valloc rfl rfl (fun b5 => ?_))
  refine vone rfl (vxs (vstn rfl rfl rfl rfl rfl) rfl ?_)
  refine vone rfl (vxs (vstn rfl rfl rfl rfl rfl) rfl ?_)
  refine vone rfl (vxq (vas rfl) rfl rfl ?_)
  refine vnil ?_
  refine vseq ?_
  refine vseq ?_
  refine vregion ?_
  refine vone rfl (vxq (vmv rfl) rfl rfl ?_)
  refine vone rfl (vxq (vneq rfl rfl) rfl rfl ?_)
  refine vnil ?_
  refine vcondd rfl (fun h17 => ?_) (fun h17 => ?_)
  · skip
    refine vseq ?_
    refine vregion ?_
    refine vone rfl (vxq (vbd rfl rfl) rfl rfl ?_)
    refine vone rfl (vxq (vmv rfl) rfl rfl ?_)
    refine vone rfl (vxs (vstn rfl rfl rfl rfl rfl) rfl ?_)
    refine vone rfl (vxq (vas rfl) rfl rfl ?_)
    refine vnil ?_
    refine vret (vr2 (H' := H) Try.func57 rfl (.celln rfl rfl) (.tmp rfl) (by repeat first | exact .refl _ | refine .cons_cons _ ?_ | refine .cons _ ?_ | exact sl0 _ | refine slA ?_) ?_)
    first | (rw [show minusE a b = (zR, (twoE a b).2.2) from if_neg h17]; exact ⟨rfl, rfl⟩) | (rw [show minusE a b = insideE ((twoE a b).1.map2 Bd.minus (twoE a b).2.1) from if_pos (nn h17)]; exact ⟨rfl, rfl⟩)
  · skip
    refine vskip ?_
    refine vseq ?_
    refine vdraw0 [(.q, 0), (.q, 1), (.q, 2), (.q, 3), (.q, 4), (.q, 5), (.q, 6), (.c, 7), (.q, 8)] Try.mixed (by kernel_rfl) (by kernel_rfl) ?_
    refine vdq (mone rfl) (vldn rfl rfl) rfl rfl ?_
    refine vdq (mone rfl) (vldn rfl rfl) rfl rfl ?_
    refine vdq (mone rfl) (vcp rfl rfl rfl (c_opposite (twoE a b).2.1 ((twoE_sm a b).2.mono (by decide)))) rfl rfl ?_
    refine vdq (mone rfl) (vcp rfl rfl rfl ((c_added (twoE a b).1 (twoE a b).2.1.opp ((twoE_sm a b).1.mono (by decide)) (opp_sm ((twoE_sm a b).2.mono (by decide)))).cong (by rw [plus_opp]))) rfl rfl ?_
    refine vdq (mone rfl) (vcp rfl rfl rfl (c_plane ((twoE a b).1.map2 Bd.minus (twoE a b).2.1))) rfl rfl ?_
    refine vdq (mone rfl) (vex rfl rfl) rfl rfl ?_
    refine vdq (mone rfl) (vex rfl rfl) rfl rfl ?_
    refine vdcs (mone rfl) (vstn rfl rfl rfl rfl rfl) rfl ?_
    refine vdq (mone rfl) (vas rfl) rfl rfl ?_
    refine vdend rfl ?_
    refine vret (vr2 (H' := H) Try.func57 rfl (.celln rfl rfl) (.tmp rfl) (by repeat first | exact .refl _ | refine .cons_cons _ ?_ | refine .cons _ ?_ | exact sl0 _ | refine slA ?_) ?_)
    first | (rw [show minusE a b = (zR, (twoE a b).2.2) from if_neg h17]; exact ⟨rfl, rfl⟩) | (rw [show minusE a b = insideE ((twoE a b).1.map2 Bd.minus (twoE a b).2.1) from if_pos (nn h17)]; exact ⟨rfl, rfl⟩)

theorem optE_sm {r : Rg} (h : r.ok) : (optE (tightP r)).1.sm 65536 := by
  cases e : tightP r with
  | none => exact zR_sm
  | some t => exact tight_sm e h.sm
theorem ok_c {r : Rg} (h : ¬ chkR r ≠ 0) : r.ok := chkR_zero.1 (nn h)
theorem moveE_11 {r : Rg} {v : Pt} (h : chkR r ≠ 0) : moveE r v = (zR, chkR r) := by rw [moveE, if_neg (chkR_nz.1 h), chkR_no (chkR_nz.1 h)]
theorem moveE_7 {r : Rg} {v : Pt} (h : ¬ chkR r ≠ 0) (hv : ¬ v.okV) : moveE r v = (zR, 7) := by rw [moveE, if_pos (ok_c h), if_neg hv]
theorem moveE_4 {r : Rg} {v : Pt} (h : ¬ chkR r ≠ 0) (hv : v.okV) (e : tightP r = none) : moveE r v = (zR, 4) := by rw [moveE, if_pos (ok_c h), if_pos hv, e]
theorem moveE_0 {r x : Rg} {v : Pt} (h : ¬ chkR r ≠ 0) (hv : v.okV) (e : tightP r = some x) : moveE r v = insideE (x.map2 Bd.plus (ofP v)) := by rw [moveE, if_pos (ok_c h), if_pos hv, e]
theorem okV_sm {v : Pt} (h : v.okV) : v.sm 1099511627776 := by unfold Pt.okV at h; unfold Pt.sm; omega

/-- paravane/region.Move -/
theorem c_Move (r : Rg) (v : Pt) : VPure Try.prog 27 [vR r, vP v] (tup [vR (moveE r v).1, I (moveE r v).2]) := by
  intro H
  refine vcall_of_vrun Try.func27 rfl (N := 47) rfl rfl ?_
  refine vseq ?_
  refine vregion ?_
  refine vone rfl (vxa (vbox rfl rfl) rfl rfl (fun b1 => ?_))
  refine vone rfl (vxa (vbox rfl rfl) rfl rfl (fun b2 => ?_))
  refine vone rfl (vxa valloc rfl rfl (fun b3 => ?_))
  refine vone rfl (vxq (vas rfl) rfl rfl ?_)
  refine vnil ?_
  refine vseq ?_
  refine vseq ?_
  refine vregion ?_
  refine vone rfl (vxq (vldn rfl rfl) rfl rfl ?_)
  refine vone rfl (vxq (vcp rfl rfl rfl (c_region_Check r)) rfl rfl ?_)
  refine vone rfl (vxq (vas rfl) rfl rfl ?_)
  refine vnil ?_
  refine vseq ?_
  refine vregion ?_
  refine vone rfl (vxq (vmv rfl) rfl rfl ?_)
  refine vone rfl (vxq (vneq rfl rfl) rfl rfl ?_)
  refine vnil ?_
  refine vcondd rfl (fun h12 => ?_) (fun h12 => ?_)
  · skip
    refine vseq ?_
    refine vregion ?_
    refine vone rfl (vxq (vbd rfl rfl) rfl rfl ?_)
    refine vone rfl (vxq (vmv rfl) rfl rfl ?_)
    refine vone rfl (vxs (vstn rfl rfl rfl rfl rfl) rfl ?_)
    refine vone rfl (vxq (vas rfl) rfl rfl ?_)
    refine vnil ?_
    refine vret (vr2 (H' := H) Try.func27 rfl (.celln rfl rfl) (.tmp rfl) (by repeat first | exact .refl _ | refine .cons_cons _ ?_ | refine .cons _ ?_ | exact sl0 _ | refine slA ?_) ?_)
    first | (rw [moveE_11 h12]; exact ⟨rfl, rfl⟩) | (rw [moveE_7 h12 (by unfold Pt.okV; omega)]; exact ⟨rfl, rfl⟩) | (rw [moveE_4 h12 (by unfold Pt.okV; omega) (errO_nz h37), show (optE (tightP r)).2 = 4 from errO_none (errO_nz h37)]; exact ⟨rfl, rfl⟩) | (obtain ⟨gx, ex⟩ := errO_z (nn h37); rw [moveE_0 h12 (by unfold Pt.okV; omega) ex, ex]; exact ⟨rfl, rfl⟩)
  · skip
    refine vskip ?_
    refine vseq ?_
    refine vseq ?_
    refine vdraw0 [(.q, 0), (.q, 1), (.q, 2), (.q, 3), (.q, 4), (.q, 5), (.q, 6), (.q, 7), (.q, 8), (.q, 9), (.q, 10), (.q, 11), (.q, 12), (.q, 13)] Try.mixed (by kernel_rfl) (by kernel_rfl) ?_
    refine vdq (mone rfl) (vfa rfl) rfl rfl ?_
    refine vdq (mone rfl) (vld1 rfl rfl) rfl rfl ?_
    refine vdq (mone rfl) (vcp rfl rfl rfl (c_region_limit_into _ _ (by omega))) rfl rfl ?_
    refine vdq (mone rfl) (vfa rfl) rfl rfl ?_
    refine vdq (mone rfl) (vld1 rfl rfl) rfl rfl ?_
    refine vdq (mone rfl) (vneq rfl rfl) rfl rfl ?_
    refine vdq (mone rfl) (vmv rfl) rfl rfl ?_
    refine vdsplitd (d := 21) rfl (fun h21 => ?_) (fun h21 => ?_)
    · skip
      refine vdno rfl rfl rfl rfl rfl ?_
      refine vdno rfl rfl rfl rfl rfl ?_
      refine vdno rfl rfl rfl rfl rfl ?_
      refine vdno rfl rfl rfl rfl rfl ?_
      refine vdno rfl rfl rfl rfl rfl ?_
      refine vdno rfl rfl rfl rfl rfl ?_
      refine vdq (mone rfl) (vpkt rfl rfl) rfl rfl ?_
      refine vdend rfl ?_
      refine vcondt rfl ?_
      refine vseq ?_
      refine vregion ?_
      refine vone rfl (vxq (vbd rfl rfl) rfl rfl ?_)
      refine vone rfl (vxs (vstn rfl rfl rfl rfl rfl) rfl ?_)
      refine vone rfl (vxq (vas rfl) rfl rfl ?_)
      refine vnil ?_
      refine vret (vr2 (H' := H) Try.func27 rfl (.celln rfl rfl) (.tmp rfl) (by repeat first | exact .refl _ | refine .cons_cons _ ?_ | refine .cons _ ?_ | exact sl0 _ | refine slA ?_) ?_)
      first | (rw [moveE_11 h12]; exact ⟨rfl, rfl⟩) | (rw [moveE_7 h12 (by unfold Pt.okV; omega)]; exact ⟨rfl, rfl⟩) | (rw [moveE_4 h12 (by unfold Pt.okV; omega) (errO_nz h37), show (optE (tightP r)).2 = 4 from errO_none (errO_nz h37)]; exact ⟨rfl, rfl⟩) | (obtain ⟨gx, ex⟩ := errO_z (nn h37); rw [moveE_0 h12 (by unfold Pt.okV; omega) ex, ex]; exact ⟨rfl, rfl⟩)
    · skip
      refine vdq (myes rfl rfl rfl) (vfa rfl) rfl rfl ?_
      refine vdq (myes rfl rfl rfl) (vld1 rfl rfl) rfl rfl ?_
      refine vdq (myes rfl rfl rfl) (vcp rfl rfl rfl (c_region_limit_into _ _ (by omega))) rfl rfl ?_
      refine vdq (myes rfl rfl rfl) (vfa rfl) rfl rfl ?_
      refine vdq (myes rfl rfl rfl) (vld1 rfl rfl) rfl rfl ?_
      refine vdq (myes rfl rfl rfl) (vneq rfl rfl) rfl rfl ?_
      refine vdq (mone rfl) (vpkf rfl rfl) rfl rfl ?_
      refine vdend rfl ?_
      refine vcondd rfl (fun h28 => ?_) (fun h28 => ?_)
      · skip
        refine vseq ?_
        refine vregion ?_
        refine vone rfl (vxq (vbd rfl rfl) rfl rfl ?_)
        refine vone rfl (vxs (vstn rfl rfl rfl rfl rfl) rfl ?_)
        refine vone rfl (vxq (vas rfl) rfl rfl ?_)
        refine vnil ?_
        refine vret (vr2 (H' := H) Try.func27 rfl (.celln rfl rfl) (.tmp rfl) (by repeat first | exact .refl _ | refine .cons_cons _ ?_ | refine .cons _ ?_ | exact sl0 _ | refine slA ?_) ?_)
        first | (rw [moveE_11 h12]; exact ⟨rfl, rfl⟩) | (rw [moveE_7 h12 (by unfold Pt.okV; omega)]; exact ⟨rfl, rfl⟩) | (rw [moveE_4 h12 (by unfold Pt.okV; omega) (errO_nz h37), show (optE (tightP r)).2 = 4 from errO_none (errO_nz h37)]; exact ⟨rfl, rfl⟩) | (obtain ⟨gx, ex⟩ := errO_z (nn h37); rw [moveE_0 h12 (by unfold Pt.okV; omega) ex, ex]; exact ⟨rfl, rfl⟩)
      · skip
        refine vskip ?_
        refine vseq ?_
        refine vregion ?_
        refine vone rfl (vxq (vldn rfl rfl) rfl rfl ?_)
        refine vone rfl (vxq (vcp rfl rfl rfl (c_region_bounds _ _ _ _ _ _ _ _)) rfl rfl ?_)
        refine vone rfl (vxq (vcp rfl rfl rfl (c_tight r ((ok_c h12).sm.mono (by decide)))) rfl rfl ?_)
        refine vone rfl (vxq (vmv rfl) rfl rfl ?_)
        refine vone rfl (vxq (vex rfl rfl) rfl rfl ?_)
        refine vone rfl (vxq (vex rfl rfl) rfl rfl ?_)
        refine vone rfl (vxa valloc rfl rfl (fun b4 => ?_))
        refine vone rfl (vxs (vstn rfl rfl rfl rfl rfl) rfl ?_)
        refine vone rfl (vxq (vas rfl) rfl rfl ?_)
        refine vnil ?_
        refine vseq ?_
        refine vseq ?_
        refine vregion ?_
        refine vone rfl (vxq (vmv rfl) rfl rfl ?_)
        refine vone rfl (vxq (vneq rfl rfl) rfl rfl ?_)
        refine vnil ?_
        refine vcondd rfl (fun h37 => ?_) (fun h37 => ?_)
        · skip
          refine vseq ?_
          refine vregion ?_
          refine vone rfl (vxq (vbd rfl rfl) rfl rfl ?_)
          refine vone rfl (vxq (vmv rfl) rfl rfl ?_)
          refine vone rfl (vxs (vstn rfl rfl rfl rfl rfl) rfl ?_)
          refine vone rfl (vxq (vas rfl) rfl rfl ?_)
          refine vnil ?_
          refine vret (vr2 (H' := H) Try.func27 rfl (.celln rfl rfl) (.tmp rfl) (by repeat first | exact .refl _ | refine .cons_cons _ ?_ | refine .cons _ ?_ | exact sl0 _ | refine slA ?_) ?_)
          first | (rw [moveE_11 h12]; exact ⟨rfl, rfl⟩) | (rw [moveE_7 h12 (by unfold Pt.okV; omega)]; exact ⟨rfl, rfl⟩) | (rw [moveE_4 h12 (by unfold Pt.okV; omega) (errO_nz h37), show (optE (tightP r)).2 = 4 from errO_none (errO_nz h37)]; exact ⟨rfl, rfl⟩) | (obtain ⟨gx, ex⟩ := errO_z (nn h37); rw [moveE_0 h12 (by unfold Pt.okV; omega) ex, ex]; exact ⟨rfl, rfl⟩)
        · skip
          refine vskip ?_
          refine vseq ?_
          refine vdraw0 [(.q, 0), (.q, 1), (.q, 2), (.q, 3), (.q, 4), (.q, 5), (.q, 6), (.c, 7), (.q, 8)] Try.mixed (by kernel_rfl) (by kernel_rfl) ?_
          refine vdq (mone rfl) (vldn rfl rfl) rfl rfl ?_
          refine vdq (mone rfl) (vldn rfl rfl) rfl rfl ?_
          refine vdq (mone rfl) (vcp rfl rfl rfl (c_of v (okV_sm (by unfold Pt.okV; omega)))) rfl rfl ?_
          refine vdq (mone rfl) (vcp rfl rfl rfl (c_plus4 (optE (tightP r)).1 (ofP v) ((optE_sm (ok_c h12)).mono (by decide)) ((ofP_sm (by unfold Pt.okV; omega)).mono (by decide)))) rfl rfl ?_
          refine vdq (mone rfl) (vcp rfl rfl rfl (c_inside ((optE (tightP r)).1.map2 Bd.plus (ofP v)))) rfl rfl ?_
          refine vdq (mone rfl) (vex rfl rfl) rfl rfl ?_
          refine vdq (mone rfl) (vex rfl rfl) rfl rfl ?_
          refine vdcs (mone rfl) (vstn rfl rfl rfl rfl rfl) rfl ?_
          refine vdq (mone rfl) (vas rfl) rfl rfl ?_
          refine vdend rfl ?_
          refine vret (vr2 (H' := H) Try.func27 rfl (.celln rfl rfl) (.tmp rfl) (by repeat first | exact .refl _ | refine .cons_cons _ ?_ | refine .cons _ ?_ | exact sl0 _ | refine slA ?_) ?_)
          first | (rw [moveE_11 h12]; exact ⟨rfl, rfl⟩) | (rw [moveE_7 h12 (by unfold Pt.okV; omega)]; exact ⟨rfl, rfl⟩) | (rw [moveE_4 h12 (by unfold Pt.okV; omega) (errO_nz h37), show (optE (tightP r)).2 = 4 from errO_none (errO_nz h37)]; exact ⟨rfl, rfl⟩) | (obtain ⟨gx, ex⟩ := errO_z (nn h37); rw [moveE_0 h12 (by unfold Pt.okV; omega) ex, ex]; exact ⟨rfl, rfl⟩)
/-- paravane/paravaneref01.Move -/
theorem c_ref_Move (r : Rg) (v : Pt) : VPure Try.prog 28 [vR r, vP v] (tup [vR (moveE r v).1, I (moveE r v).2]) := by
  intro H
  refine vcall_of_vrun Try.func28 rfl (N := 43) rfl rfl ?_
  refine vseq ?_
  refine vregion ?_
  refine vone rfl (vxa (vbox rfl rfl) rfl rfl (fun b1 => ?_))
  refine vone rfl (vxa (vbox rfl rfl) rfl rfl (fun b2 => ?_))
  refine vone rfl (vxa valloc rfl rfl (fun b3 => ?_))
  refine vone rfl (vxq (vas rfl) rfl rfl ?_)
  refine vnil ?_
  refine vseq ?_
  refine vseq ?_
  refine vregion ?_
  refine vone rfl (vxq (vldn rfl rfl) rfl rfl ?_)
  refine vone rfl (vxq (vcp rfl rfl rfl (c_ref_Check r)) rfl rfl ?_)
  refine vone rfl (vxq (vas rfl) rfl rfl ?_)
  refine vnil ?_
  refine vseq ?_
  refine vregion ?_
  refine vone rfl (vxq (vmv rfl) rfl rfl ?_)
  refine vone rfl (vxq (vneq rfl rfl) rfl rfl ?_)
  refine vnil ?_
  refine vcondd rfl (fun h12 => ?_) (fun h12 => ?_)
  · skip
    refine vseq ?_
    refine vregion ?_
    refine vone rfl (vxq (vbd rfl rfl) rfl rfl ?_)
    refine vone rfl (vxq (vmv rfl) rfl rfl ?_)
    refine vone rfl (vxs (vstn rfl rfl rfl rfl rfl) rfl ?_)
    refine vone rfl (vxq (vas rfl) rfl rfl ?_)
    refine vnil ?_
    refine vret (vr2 (H' := H) Try.func28 rfl (.celln rfl rfl) (.tmp rfl) (by repeat first | exact .refl _ | refine .cons_cons _ ?_ | refine .cons _ ?_ | exact sl0 _ | refine slA ?_) ?_)
    first | (rw [moveE_11 h12]; exact ⟨rfl, rfl⟩) | (rw [moveE_7 h12 (by unfold Pt.okV; omega)]; exact ⟨rfl, rfl⟩) | (rw [moveE_4 h12 (by unfold Pt.okV; omega) (errO_nz h33), show (optE (tightP r)).2 = 4 from errO_none (errO_nz h33)]; exact ⟨rfl, rfl⟩) | (obtain ⟨gx, ex⟩ := errO_z (nn h33); rw [moveE_0 h12 (by unfold Pt.okV; omega) ex, ex]; exact ⟨rfl, rfl⟩)
  · skip
    refine vskip ?_
    refine vseq ?_
    refine vseq ?_
    refine vregion ?_
    refine vone rfl (vxq (vfa rfl) rfl rfl ?_)
    refine vone rfl (vxq (vld1 rfl rfl) rfl rfl ?_)
    refine vone rfl (vxq (vcp rfl rfl rfl (c_ref00_Between _ _ _)) rfl rfl ?_)
    refine vone rfl (vxq (vnotd rfl) rfl rfl ?_)
    refine vone rfl (vxq (vmv rfl) rfl rfl ?_)
    refine vsplitd (d := 19) rfl (fun h19 => ?_) (fun h19 => ?_)
    · skip
      refine vno rfl rfl rfl rfl rfl ?_
      refine vno rfl rfl rfl rfl rfl ?_
      refine vno rfl rfl rfl rfl rfl ?_
      refine vno rfl rfl rfl rfl rfl ?_
      refine vone rfl (vxq (vpkt rfl rfl) rfl rfl ?_)
      refine vnil ?_
      refine vcondt rfl ?_
      refine vseq ?_
      refine vregion ?_
      refine vone rfl (vxq (vbd rfl rfl) rfl rfl ?_)
      refine vone rfl (vxs (vstn rfl rfl rfl rfl rfl) rfl ?_)
      refine vone rfl (vxq (vas rfl) rfl rfl ?_)
      refine vnil ?_
      refine vret (vr2 (H' := H) Try.func28 rfl (.celln rfl rfl) (.tmp rfl) (by repeat first | exact .refl _ | refine .cons_cons _ ?_ | refine .cons _ ?_ | exact sl0 _ | refine slA ?_) ?_)
      first | (rw [moveE_11 h12]; exact ⟨rfl, rfl⟩) | (rw [moveE_7 h12 (by unfold Pt.okV; omega)]; exact ⟨rfl, rfl⟩) | (rw [moveE_4 h12 (by unfold Pt.okV; omega) (errO_nz h33), show (optE (tightP r)).2 = 4 from errO_none (errO_nz h33)]; exact ⟨rfl, rfl⟩) | (obtain ⟨gx, ex⟩ := errO_z (nn h33); rw [moveE_0 h12 (by unfold Pt.okV; omega) ex, ex]; exact ⟨rfl, rfl⟩)
    · skip
      refine vyes rfl rfl rfl (vxq (vfa rfl) rfl rfl ?_)
      refine vyes rfl rfl rfl (vxq (vld1 rfl rfl) rfl rfl ?_)
      refine vyes rfl rfl rfl (vxq (vcp rfl rfl rfl (c_ref00_Between _ _ _)) rfl rfl ?_)
      refine vyes rfl rfl rfl (vxq (vnotd rfl) rfl rfl ?_)
      refine vone rfl (vxq (vpkf rfl rfl) rfl rfl ?_)
      refine vnil ?_
      refine vcondd rfl (fun h24 => ?_) (fun h24 => ?_)
      · skip
        refine vseq ?_
        refine vregion ?_
        refine vone rfl (vxq (vbd rfl rfl) rfl rfl ?_)
        refine vone rfl (vxs (vstn rfl rfl rfl rfl rfl) rfl ?_)
        refine vone rfl (vxq (vas rfl) rfl rfl ?_)
        refine vnil ?_
        refine vret (vr2 (H' := H) Try.func28 rfl (.celln rfl rfl) (.tmp rfl) (by repeat first | exact .refl _ | refine .cons_cons _ ?_ | refine .cons _ ?_ | exact sl0 _ | refine slA ?_) ?_)
        first | (rw [moveE_11 h12]; exact ⟨rfl, rfl⟩) | (rw [moveE_7 h12 (by unfold Pt.okV; omega)]; exact ⟨rfl, rfl⟩) | (rw [moveE_4 h12 (by unfold Pt.okV; omega) (errO_nz h33), show (optE (tightP r)).2 = 4 from errO_none (errO_nz h33)]; exact ⟨rfl, rfl⟩) | (obtain ⟨gx, ex⟩ := errO_z (nn h33); rw [moveE_0 h12 (by unfold Pt.okV; omega) ex, ex]; exact ⟨rfl, rfl⟩)
      · skip
        refine vskip ?_
        refine vseq ?_
        refine vregion ?_
        refine vone rfl (vxq (vldn rfl rfl) rfl rfl ?_)
        refine vone rfl (vxg (vbs rfl rfl rfl rfl rfl rfl) rfl rfl ?_)
        rintro _ _ ⟨b4, rfl, rfl⟩
        refine vone rfl (vxq (vcq rfl rfl rfl ((h_hulls1 r ((ok_c h12).sm.mono (by decide)) b4).fr1)) rfl rfl ?_)
        refine vone rfl (vxq (vmv rfl) rfl rfl ?_)
        refine vone rfl (vxq (vex rfl rfl) rfl rfl ?_)
        refine vone rfl (vxq (vex rfl rfl) rfl rfl ?_)
        refine vone rfl (vxa valloc rfl rfl (fun b5 => ?_))
        refine vone rfl (vxs (vstn rfl rfl rfl rfl rfl) rfl ?_)
        refine vone rfl (vxq (vas rfl) rfl rfl ?_)
        refine vnil ?_
        refine vseq ?_
        refine vseq ?_
        refine vregion ?_
        refine vone rfl (vxq (vmv rfl) rfl rfl ?_)
        refine vone rfl (vxq (vneq rfl rfl) rfl rfl ?_)
        refine vnil ?_
        refine vcondd rfl (fun h33 => ?_) (fun h33 => ?_)
        · skip
          refine vseq ?_
          refine vregion ?_
          refine vone rfl (vxq (vbd rfl rfl) rfl rfl ?_)
          refine vone rfl (vxq (vmv rfl) rfl rfl ?_)
          refine vone rfl (vxs (vstn rfl rfl rfl rfl rfl) rfl ?_)
          refine vone rfl (vxq (vas rfl) rfl rfl ?_)
          refine vnil ?_
          refine vret (vr2 (H' := H) Try.func28 rfl (.celln rfl rfl) (.tmp rfl) (by repeat first | exact .refl _ | refine .cons_cons _ ?_ | refine .cons _ ?_ | exact sl0 _ | refine slA ?_) ?_)
          first | (rw [moveE_11 h12]; exact ⟨rfl, rfl⟩) | (rw [moveE_7 h12 (by unfold Pt.okV; omega)]; exact ⟨rfl, rfl⟩) | (rw [moveE_4 h12 (by unfold Pt.okV; omega) (errO_nz h33), show (optE (tightP r)).2 = 4 from errO_none (errO_nz h33)]; exact ⟨rfl, rfl⟩) | (obtain ⟨gx, ex⟩ := errO_z (nn h33); rw [moveE_0 h12 (by unfold Pt.okV; omega) ex, ex]; exact ⟨rfl, rfl⟩)
        · skip
          refine vskip ?_
          refine vseq ?_
          refine vdraw0 [(.q, 0), (.q, 1), (.q, 2), (.q, 3), (.q, 4), (.q, 5), (.q, 6), (.c, 7), (.q, 8)] Try.mixed (by kernel_rfl) (by kernel_rfl) ?_
          refine vdq (mone rfl) (vldn rfl rfl) rfl rfl ?_
          refine vdq (mone rfl) (vldn rfl rfl) rfl rfl ?_
          refine vdq (mone rfl) (vcp rfl rfl rfl (c_single v (okV_sm (by unfold Pt.okV; omega)))) rfl rfl ?_
          refine vdq (mone rfl) (vcp rfl rfl rfl (c_added (optE (tightP r)).1 (ofP v) ((optE_sm (ok_c h12)).mono (by decide)) ((ofP_sm (by unfold Pt.okV; omega)).mono (by decide)))) rfl rfl ?_
          refine vdq (mone rfl) (vcp rfl rfl rfl (c_plane ((optE (tightP r)).1.map2 Bd.plus (ofP v)))) rfl rfl ?_
          refine vdq (mone rfl) (vex rfl rfl) rfl rfl ?_
          refine vdq (mone rfl) (vex rfl rfl) rfl rfl ?_
          refine vdcs (mone rfl) (vstn rfl rfl rfl rfl rfl) rfl ?_
          refine vdq (mone rfl) (vas rfl) rfl rfl ?_
          refine vdend rfl ?_
          refine vret (vr2 (H' := H) Try.func28 rfl (.celln rfl rfl) (.tmp rfl) (by repeat first | exact .refl _ | refine .cons_cons _ ?_ | refine .cons _ ?_ | exact sl0 _ | refine slA ?_) ?_)
          first | (rw [moveE_11 h12]; exact ⟨rfl, rfl⟩) | (rw [moveE_7 h12 (by unfold Pt.okV; omega)]; exact ⟨rfl, rfl⟩) | (rw [moveE_4 h12 (by unfold Pt.okV; omega) (errO_nz h33), show (optE (tightP r)).2 = 4 from errO_none (errO_nz h33)]; exact ⟨rfl, rfl⟩) | (obtain ⟨gx, ex⟩ := errO_z (nn h33); rw [moveE_0 h12 (by unfold Pt.okV; omega) ex, ex]; exact ⟨rfl, rfl⟩)
/-- paravane/region.Swept -/
theorem c_Swept (r : Rg) (u v : Pt) : VPure Try.prog 29 [vR r, vP u, vP v] (tup [vR (sweptE r u v).1, I (sweptE r u v).2]) := by
  intro H
  refine vcall_of_vrun Try.func29 rfl (N := 36) rfl rfl ?_
  refine vseq ?_
  refine vregion ?_
  refine vone rfl (vxa (vbox rfl rfl) rfl rfl (fun b1 => ?_))
  refine vone rfl (vxa (vbox rfl rfl) rfl rfl (fun b2 => ?_))
  refine vone rfl (vxa (vbox rfl rfl) rfl rfl (fun b3 => ?_))
  refine vone rfl (vxa valloc rfl rfl (fun b4 => ?_))
  refine vone rfl (vxq (vas rfl) rfl rfl ?_)
  refine vnil ?_
  refine vseq ?_
  refine vregion ?_
  refine vone rfl (vxq (vldn rfl rfl) rfl rfl ?_)
  refine vone rfl (vxq (vldn rfl rfl) rfl rfl ?_)
  refine vone rfl (vxq (vcp rfl rfl rfl (c_Move r u)) rfl rfl ?_)
  refine vone rfl (vxq (vmv rfl) rfl rfl ?_)
  refine vone rfl (vxq (vex rfl rfl) rfl rfl ?_)
  refine vone rfl (vxq (vex rfl rfl) rfl rfl ?_)
  refine vone rfl (vxa valloc rfl rfl (fun b5 => ?_))
  refine vone rfl (vxs (vstn rfl rfl rfl rfl rfl) rfl ?_)
  refine vone rfl (vxq (vas rfl) rfl rfl ?_)
  refine vnil ?_
  refine vseq ?_
  refine vseq ?_
  refine vregion ?_
  refine vone rfl (vxq (vmv rfl) rfl rfl ?_)
  refine vone rfl (vxq (vneq rfl rfl) rfl rfl ?_)
  refine vnil ?_
  refine vcondd rfl (fun h18 => ?_) (fun h18 => ?_)
  · skip
    refine vseq ?_
    refine vregion ?_
    refine vone rfl (vxq (vbd rfl rfl) rfl rfl ?_)
    refine vone rfl (vxq (vmv rfl) rfl rfl ?_)
    refine vone rfl (vxs (vstn rfl rfl rfl rfl rfl) rfl ?_)
    refine vone rfl (vxq (vas rfl) rfl rfl ?_)
    refine vnil ?_
    refine vret (vr2 (H' := H) Try.func29 rfl (.celln rfl rfl) (.tmp rfl) (by repeat first | exact .refl _ | refine .cons_cons _ ?_ | refine .cons _ ?_ | exact sl0 _ | refine slA ?_) ?_)
    first | (rw [show sweptE r u v = (zR, (moveE r u).2) from if_neg h18]; exact ⟨rfl, rfl⟩) | (rw [show sweptE r u v = (zR, (moveE r v).2) by rw [sweptE, if_pos (nn h18), if_neg h28]]; exact ⟨rfl, rfl⟩) | (rw [show sweptE r u v = joinE (moveE r u).1 (moveE r v).1 by rw [sweptE, if_pos (nn h18), if_pos (nn h28)]]; exact ⟨rfl, rfl⟩)
  · skip
    refine vskip ?_
    refine vseq ?_
    refine vregion ?_
    refine vone rfl (vxq (vldn rfl rfl) rfl rfl ?_)
    refine vone rfl (vxq (vldn rfl rfl) rfl rfl ?_)
    refine vone rfl (vxq (vcp rfl rfl rfl (c_Move r v)) rfl rfl ?_)
    refine vone rfl (vxq (vmv rfl) rfl rfl ?_)
    refine vone rfl (vxq (vex rfl rfl) rfl rfl ?_)
    refine vone rfl (vxq (vex rfl rfl) rfl rfl ?_)
    refine vone rfl (vxa valloc rfl rfl (fun b6 => ?_))
    refine vone rfl (vxs (vstn rfl rfl rfl rfl rfl) rfl ?_)
    refine vone rfl (vxq (vas rfl) rfl rfl ?_)
    refine vnil ?_
    refine vseq ?_
    refine vseq ?_
    refine vregion ?_
    refine vone rfl (vxq (vmv rfl) rfl rfl ?_)
    refine vone rfl (vxq (vneq rfl rfl) rfl rfl ?_)
    refine vnil ?_
    refine vcondd rfl (fun h28 => ?_) (fun h28 => ?_)
    · skip
      refine vseq ?_
      refine vregion ?_
      refine vone rfl (vxq (vbd rfl rfl) rfl rfl ?_)
      refine vone rfl (vxq (vmv rfl) rfl rfl ?_)
      refine vone rfl (vxs (vstn rfl rfl rfl rfl rfl) rfl ?_)
      refine vone rfl (vxq (vas rfl) rfl rfl ?_)
      refine vnil ?_
      refine vret (vr2 (H' := H) Try.func29 rfl (.celln rfl rfl) (.tmp rfl) (by repeat first | exact .refl _ | refine .cons_cons _ ?_ | refine .cons _ ?_ | exact sl0 _ | refine slA ?_) ?_)
      first | (rw [show sweptE r u v = (zR, (moveE r u).2) from if_neg h18]; exact ⟨rfl, rfl⟩) | (rw [show sweptE r u v = (zR, (moveE r v).2) by rw [sweptE, if_pos (nn h18), if_neg h28]]; exact ⟨rfl, rfl⟩) | (rw [show sweptE r u v = joinE (moveE r u).1 (moveE r v).1 by rw [sweptE, if_pos (nn h18), if_pos (nn h28)]]; exact ⟨rfl, rfl⟩)
    · skip
      refine vskip ?_
      refine vseq ?_
      refine vregion ?_
      refine vone rfl (vxq (vldn rfl rfl) rfl rfl ?_)
      refine vone rfl (vxq (vldn rfl rfl) rfl rfl ?_)
      refine vone rfl (vxq (vcp rfl rfl rfl (c_Join (moveE r u).1 (moveE r v).1)) rfl rfl ?_)
      refine vone rfl (vxq (vex rfl rfl) rfl rfl ?_)
      refine vone rfl (vxq (vex rfl rfl) rfl rfl ?_)
      refine vone rfl (vxs (vstn rfl rfl rfl rfl rfl) rfl ?_)
      refine vone rfl (vxq (vas rfl) rfl rfl ?_)
      refine vnil ?_
      refine vret (vr2 (H' := H) Try.func29 rfl (.celln rfl rfl) (.tmp rfl) (by repeat first | exact .refl _ | refine .cons_cons _ ?_ | refine .cons _ ?_ | exact sl0 _ | refine slA ?_) ?_)
      first | (rw [show sweptE r u v = (zR, (moveE r u).2) from if_neg h18]; exact ⟨rfl, rfl⟩) | (rw [show sweptE r u v = (zR, (moveE r v).2) by rw [sweptE, if_pos (nn h18), if_neg h28]]; exact ⟨rfl, rfl⟩) | (rw [show sweptE r u v = joinE (moveE r u).1 (moveE r v).1 by rw [sweptE, if_pos (nn h18), if_pos (nn h28)]]; exact ⟨rfl, rfl⟩)
/-- paravane/paravaneref01.Swept -/
theorem c_ref_Swept (r : Rg) (u v : Pt) : VPure Try.prog 30 [vR r, vP u, vP v] (tup [vR (sweptE r u v).1, I (sweptE r u v).2]) := by
  intro H
  refine vcall_of_vrun Try.func30 rfl (N := 36) rfl rfl ?_
  refine vseq ?_
  refine vregion ?_
  refine vone rfl (vxa (vbox rfl rfl) rfl rfl (fun b1 => ?_))
  refine vone rfl (vxa (vbox rfl rfl) rfl rfl (fun b2 => ?_))
  refine vone rfl (vxa (vbox rfl rfl) rfl rfl (fun b3 => ?_))
  refine vone rfl (vxa valloc rfl rfl (fun b4 => ?_))
  refine vone rfl (vxq (vas rfl) rfl rfl ?_)
  refine vnil ?_
  refine vseq ?_
  refine vregion ?_
  refine vone rfl (vxq (vldn rfl rfl) rfl rfl ?_)
  refine vone rfl (vxq (vldn rfl rfl) rfl rfl ?_)
  refine vone rfl (vxq (vcp rfl rfl rfl (c_ref_Move r u)) rfl rfl ?_)
  refine vone rfl (vxq (vmv rfl) rfl rfl ?_)
  refine vone rfl (vxq (vex rfl rfl) rfl rfl ?_)
  refine vone rfl (vxq (vex rfl rfl) rfl rfl ?_)
  refine vone rfl (vxa valloc rfl rfl (fun b5 => ?_))
  refine vone rfl (vxs (vstn rfl rfl rfl rfl rfl) rfl ?_)
  refine vone rfl (vxq (vas rfl) rfl rfl ?_)
  refine vnil ?_
  refine vseq ?_
  refine vseq ?_
  refine vregion ?_
  refine vone rfl (vxq (vmv rfl) rfl rfl ?_)
  refine vone rfl (vxq (vneq rfl rfl) rfl rfl ?_)
  refine vnil ?_
  refine vcondd rfl (fun h18 => ?_) (fun h18 => ?_)
  · skip
    refine vseq ?_
    refine vregion ?_
    refine vone rfl (vxq (vbd rfl rfl) rfl rfl ?_)
    refine vone rfl (vxq (vmv rfl) rfl rfl ?_)
    refine vone rfl (vxs (vstn rfl rfl rfl rfl rfl) rfl ?_)
    refine vone rfl (vxq (vas rfl) rfl rfl ?_)
    refine vnil ?_
    refine vret (vr2 (H' := H) Try.func30 rfl (.celln rfl rfl) (.tmp rfl) (by repeat first | exact .refl _ | refine .cons_cons _ ?_ | refine .cons _ ?_ | exact sl0 _ | refine slA ?_) ?_)
    first | (rw [show sweptE r u v = (zR, (moveE r u).2) from if_neg h18]; exact ⟨rfl, rfl⟩) | (rw [show sweptE r u v = (zR, (moveE r v).2) by rw [sweptE, if_pos (nn h18), if_neg h28]]; exact ⟨rfl, rfl⟩) | (rw [show sweptE r u v = joinE (moveE r u).1 (moveE r v).1 by rw [sweptE, if_pos (nn h18), if_pos (nn h28)]]; exact ⟨rfl, rfl⟩)
  · skip
    refine vskip ?_
    refine vseq ?_
    refine vregion ?_
    refine vone rfl (vxq (vldn rfl rfl) rfl rfl ?_)
    refine vone rfl (vxq (vldn rfl rfl) rfl rfl ?_)
    refine vone rfl (vxq (vcp rfl rfl rfl (c_ref_Move r v)) rfl rfl ?_)
    refine vone rfl (vxq (vmv rfl) rfl rfl ?_)
    refine vone rfl (vxq (vex rfl rfl) rfl rfl ?_)
    refine vone rfl (vxq (vex rfl rfl) rfl rfl ?_)
    refine vone rfl (vxa valloc rfl rfl (fun b6 => ?_))
    refine vone rfl (vxs (vstn rfl rfl rfl rfl rfl) rfl ?_)
    refine vone rfl (vxq (vas rfl) rfl rfl ?_)
    refine vnil ?_
    refine vseq ?_
    refine vseq ?_
    refine vregion ?_
    refine vone rfl (vxq (vmv rfl) rfl rfl ?_)
    refine vone rfl (vxq (vneq rfl rfl) rfl rfl ?_)
    refine vnil ?_
    refine vcondd rfl (fun h28 => ?_) (fun h28 => ?_)
    · skip
      refine vseq ?_
      refine vregion ?_
      refine vone rfl (vxq (vbd rfl rfl) rfl rfl ?_)
      refine vone rfl (vxq (vmv rfl) rfl rfl ?_)
      refine vone rfl (vxs (vstn rfl rfl rfl rfl rfl) rfl ?_)
      refine vone rfl (vxq (vas rfl) rfl rfl ?_)
      refine vnil ?_
      refine vret (vr2 (H' := H) Try.func30 rfl (.celln rfl rfl) (.tmp rfl) (by repeat first | exact .refl _ | refine .cons_cons _ ?_ | refine .cons _ ?_ | exact sl0 _ | refine slA ?_) ?_)
      first | (rw [show sweptE r u v = (zR, (moveE r u).2) from if_neg h18]; exact ⟨rfl, rfl⟩) | (rw [show sweptE r u v = (zR, (moveE r v).2) by rw [sweptE, if_pos (nn h18), if_neg h28]]; exact ⟨rfl, rfl⟩) | (rw [show sweptE r u v = joinE (moveE r u).1 (moveE r v).1 by rw [sweptE, if_pos (nn h18), if_pos (nn h28)]]; exact ⟨rfl, rfl⟩)
    · skip
      refine vskip ?_
      refine vseq ?_
      refine vregion ?_
      refine vone rfl (vxq (vldn rfl rfl) rfl rfl ?_)
      refine vone rfl (vxq (vldn rfl rfl) rfl rfl ?_)
      refine vone rfl (vxq (vcp rfl rfl rfl (c_ref_Join (moveE r u).1 (moveE r v).1)) rfl rfl ?_)
      refine vone rfl (vxq (vex rfl rfl) rfl rfl ?_)
      refine vone rfl (vxq (vex rfl rfl) rfl rfl ?_)
      refine vone rfl (vxs (vstn rfl rfl rfl rfl rfl) rfl ?_)
      refine vone rfl (vxq (vas rfl) rfl rfl ?_)
      refine vnil ?_
      refine vret (vr2 (H' := H) Try.func30 rfl (.celln rfl rfl) (.tmp rfl) (by repeat first | exact .refl _ | refine .cons_cons _ ?_ | refine .cons _ ?_ | exact sl0 _ | refine slA ?_) ?_)
      first | (rw [show sweptE r u v = (zR, (moveE r u).2) from if_neg h18]; exact ⟨rfl, rfl⟩) | (rw [show sweptE r u v = (zR, (moveE r v).2) by rw [sweptE, if_pos (nn h18), if_neg h28]]; exact ⟨rfl, rfl⟩) | (rw [show sweptE r u v = joinE (moveE r u).1 (moveE r v).1 by rw [sweptE, if_pos (nn h18), if_pos (nn h28)]]; exact ⟨rfl, rfl⟩)
end Go.Proofs.Ytffpfcomikcimaa
