/-
  Walks of the helpers of the statements.
-/
import Derived.Test.YtffpfcomikcimaaWx
import Derived.Test.YtffpfcomikcimaaPlp
namespace Go.Proofs.Ytffpfcomikcimaa
open Go
set_option maxRecDepth 100000

theorem rest_lt {n m : Int} (h : m < 1) : restP n m = 0 := if_pos h
theorem rest_neg {n m : Int} (h : ¬ m < 1) (h2 : n.tmod m < 0) : restP n m = n.tmod m + m := by
  have := tmod_emod (n := n) (m := m) (by omega)
  rw [if_pos h2] at this
  unfold restP; rw [if_neg h, this]
theorem rest_nn {n m : Int} (h : ¬ m < 1) (h2 : ¬ n.tmod m < 0) : restP n m = n.tmod m := by
  have := tmod_emod (n := n) (m := m) (by omega)
  rw [if_neg h2] at this
  unfold restP; rw [if_neg h, this]
theorem tmod_bd {n m : Int} (h : ¬ m < 1) : -m < n.tmod m ∧ n.tmod m < m := by
  refine ⟨?_, Int.tmod_lt_of_pos _ (by omega)⟩
  have := Int.tmod_lt_of_pos (-n) (show 0 < m by omega)
  rw [Int.neg_tmod] at this; omega
theorem rest_rng (n m : Int) : 0 ≤ restP n m ∧ restP n m ≤ max 0 (m - 1) := by
  by_cases h : m < 1
  · rw [rest_lt h]; omega
  · have := rest_bd (n := n) (m := m) (by omega); omega

attribute [local irreducible] tightP hullP rootP farP rows endsOf sqL sqP twoE pickL srch cutsOf clashE ofE tightE meetE sumE sweptE reachE cntE extE distE moveE gapE coversE hitE joinE minusE hasE restP rootE inE
/-- paravane/paravaneref00.Rest -/
theorem c_Rest (n m : Int) (hn : InR n) (hm : InR m) : VPure Try.prog 65 [I n, I m] (I (restP n m)) := by
  unfold InR at hn hm
  intro H
  refine vcall_of_vrun Try.func65 rfl (N := 16) rfl rfl ?_
  refine vseq ?_
  refine vregion ?_
  refine vone rfl (vxq (vas rfl) rfl rfl ?_)
  refine vnil ?_
  refine vseq ?_
  refine vseq ?_
  refine vregion ?_
  refine vone rfl (vxq (vmv rfl) rfl rfl ?_)
  refine vone rfl (vxq (vlss rfl rfl) rfl rfl ?_)
  refine vnil ?_
  refine vcondd rfl (fun h6 => ?_) (fun h6 => ?_)
  · skip
    refine vseq ?_
    refine vregion ?_
    refine vone rfl (vxq (vas rfl) rfl rfl ?_)
    refine vnil ?_
    refine vret (vr1 (H' := H) Try.func65 rfl (.tmp rfl) (by repeat first | exact .refl _ | refine .cons_cons _ ?_ | refine .cons _ ?_ | exact sl0 _ | refine slA ?_) ?_)
    first | (rw [rest_lt h6]; exact ⟨rfl, rfl⟩) | (rw [rest_neg h6 h11]; exact ⟨rfl, rfl⟩) | (rw [rest_nn h6 h11]; exact ⟨rfl, rfl⟩)
  · skip
    have hb := tmod_bd (n := n) h6
    refine vskip ?_
    refine vseq ?_
    refine vregion ?_
    refine vone rfl (vxq (vmv rfl) rfl rfl ?_)
    refine vone rfl (vxq (vmv rfl) rfl rfl ?_)
    refine vone rfl (vxq (vrem rfl rfl (by omega)) rfl rfl ?_)
    refine vone rfl (vxq (vas rfl) rfl rfl ?_)
    refine vnil ?_
    refine vseq ?_
    refine vseq ?_
    refine vregion ?_
    refine vone rfl (vxq (vmv rfl) rfl rfl ?_)
    refine vone rfl (vxq (vlss rfl rfl) rfl rfl ?_)
    refine vnil ?_
    refine vcondd rfl (fun h11 => ?_) (fun h11 => ?_)
    · skip
      refine vregion ?_
      refine vone rfl (vxq (vmv rfl) rfl rfl ?_)
      refine vone rfl (vxq (vmv rfl) rfl rfl ?_)
      refine vone rfl (vxq (vadd rfl rfl (by unfold InR; omega)) rfl rfl ?_)
      refine vone rfl (vxq (vas rfl) rfl rfl ?_)
      refine vnil ?_
      refine vseq ?_
      refine vregion ?_
      refine vone rfl (vxq (vmv rfl) rfl rfl ?_)
      refine vone rfl (vxq (vas rfl) rfl rfl ?_)
      refine vnil ?_
      refine vret (vr1 (H' := H) Try.func65 rfl (.tmp rfl) (by repeat first | exact .refl _ | refine .cons_cons _ ?_ | refine .cons _ ?_ | exact sl0 _ | refine slA ?_) ?_)
      first | (rw [rest_lt h6]; exact ⟨rfl, rfl⟩) | (rw [rest_neg h6 h11]; exact ⟨rfl, rfl⟩) | (rw [rest_nn h6 h11]; exact ⟨rfl, rfl⟩)
    · skip
      refine vskip ?_
      refine vseq ?_
      refine vregion ?_
      refine vone rfl (vxq (vmv rfl) rfl rfl ?_)
      refine vone rfl (vxq (vas rfl) rfl rfl ?_)
      refine vnil ?_
      refine vret (vr1 (H' := H) Try.func65 rfl (.tmp rfl) (by repeat first | exact .refl _ | refine .cons_cons _ ?_ | refine .cons _ ?_ | exact sl0 _ | refine slA ?_) ?_)
      first | (rw [rest_lt h6]; exact ⟨rfl, rfl⟩) | (rw [rest_neg h6 h11]; exact ⟨rfl, rfl⟩) | (rw [rest_nn h6 h11]; exact ⟨rfl, rfl⟩)
/-- paravane/paravaneref00.Magnitude -/
theorem c_Mag (n : Int) (hn : InR (-n)) : VPure Try.prog 63 [I n] (I (max n (-n))) := by
  unfold InR at hn
  intro H
  refine vcall_of_vrun Try.func63 rfl (N := 7) rfl rfl ?_
  refine vseq ?_
  refine vregion ?_
  refine vone rfl (vxq (vas rfl) rfl rfl ?_)
  refine vnil ?_
  refine vseq ?_
  refine vregion ?_
  refine vone rfl (vxq (vmv rfl) rfl rfl ?_)
  refine vone rfl (vxq (vmv rfl) rfl rfl ?_)
  refine vone rfl (vxq (vneg rfl (by unfold InR; omega)) rfl rfl ?_)
  refine vone rfl (vxq (vmax2 rfl rfl) rfl rfl ?_)
  refine vone rfl (vxq (vas rfl) rfl rfl ?_)
  refine vnil ?_
  refine vret (vr1 (H' := H) Try.func63 rfl (.tmp rfl) (by repeat first | exact .refl _ | refine .cons_cons _ ?_ | refine .cons _ ?_ | exact sl0 _ | refine slA ?_) ?_)
  exact ⟨rfl, rfl⟩
/-- paravane/paravanelaw01.plus -/
theorem c_plusW (p q : Pt) : VPure Try.prog 41 [vP p, vP q] (vP ⟨IntKind.i64.wrap (p.x + q.x), IntKind.i64.wrap (p.y + q.y)⟩) := by
  intro H
  refine vcall_of_vrun Try.func41 rfl (N := 16) rfl rfl ?_
  refine vseq ?_
  refine vregion ?_
  refine vone rfl (vxa (vbox rfl rfl) rfl rfl (fun b1 => ?_))
  refine vone rfl (vxa (vbox rfl rfl) rfl rfl (fun b2 => ?_))
  refine vone rfl (vxa valloc rfl rfl (fun b3 => ?_))
  refine vnil ?_
  refine vseq ?_
  refine vregion ?_
  refine vone rfl (vxq (vfa rfl) rfl rfl ?_)
  refine vone rfl (vxq (vld1 rfl rfl) rfl rfl ?_)
  refine vone rfl (vxq (vfa rfl) rfl rfl ?_)
  refine vone rfl (vxq (vld1 rfl rfl) rfl rfl ?_)
  refine vone rfl (vxq (vaddw rfl rfl) rfl rfl ?_)
  refine vone rfl (vxq (vfa rfl) rfl rfl ?_)
  refine vone rfl (vxq (vld1 rfl rfl) rfl rfl ?_)
  refine vone rfl (vxq (vfa rfl) rfl rfl ?_)
  refine vone rfl (vxq (vld1 rfl rfl) rfl rfl ?_)
  refine vone rfl (vxq (vaddw rfl rfl) rfl rfl ?_)
  refine vone rfl (vxq (vbd rfl rfl) rfl rfl ?_)
  refine vone rfl (vxs (vstn rfl rfl rfl rfl rfl) rfl ?_)
  refine vnil ?_
  refine vret (vr1 (H' := H) Try.func41 rfl (.celln rfl rfl) (by repeat first | exact .refl _ | refine .cons_cons _ ?_ | refine .cons _ ?_ | exact sl0 _ | refine slA ?_) ?_)
  exact ⟨rfl, rfl⟩
theorem c_ptplus (p q : Pt) (h1 : InR (p.x + q.x)) (h2 : InR (p.y + q.y)) : VPure Try.prog 41 [vP p, vP q] (vP ⟨p.x + q.x, p.y + q.y⟩) := by
  have h := c_plusW p q
  rw [wrap_id h1, wrap_id h2] at h
  exact h
/-- paravane/paravanelaw01.less -/
theorem c_lessW (p q : Pt) : VPure Try.prog 66 [vP p, vP q] (vP ⟨IntKind.i64.wrap (p.x - q.x), IntKind.i64.wrap (p.y - q.y)⟩) := by
  intro H
  refine vcall_of_vrun Try.func66 rfl (N := 16) rfl rfl ?_
  refine vseq ?_
  refine vregion ?_
  refine vone rfl (vxa (vbox rfl rfl) rfl rfl (fun b1 => ?_))
  refine vone rfl (vxa (vbox rfl rfl) rfl rfl (fun b2 => ?_))
  refine vone rfl (vxa valloc rfl rfl (fun b3 => ?_))
  refine vnil ?_
  refine vseq ?_
  refine vregion ?_
  refine vone rfl (vxq (vfa rfl) rfl rfl ?_)
  refine vone rfl (vxq (vld1 rfl rfl) rfl rfl ?_)
  refine vone rfl (vxq (vfa rfl) rfl rfl ?_)
  refine vone rfl (vxq (vld1 rfl rfl) rfl rfl ?_)
  refine vone rfl (vxq (vsubw rfl rfl) rfl rfl ?_)
  refine vone rfl (vxq (vfa rfl) rfl rfl ?_)
  refine vone rfl (vxq (vld1 rfl rfl) rfl rfl ?_)
  refine vone rfl (vxq (vfa rfl) rfl rfl ?_)
  refine vone rfl (vxq (vld1 rfl rfl) rfl rfl ?_)
  refine vone rfl (vxq (vsubw rfl rfl) rfl rfl ?_)
  refine vone rfl (vxq (vbd rfl rfl) rfl rfl ?_)
  refine vone rfl (vxs (vstn rfl rfl rfl rfl rfl) rfl ?_)
  refine vnil ?_
  refine vret (vr1 (H' := H) Try.func66 rfl (.celln rfl rfl) (by repeat first | exact .refl _ | refine .cons_cons _ ?_ | refine .cons _ ?_ | exact sl0 _ | refine slA ?_) ?_)
  exact ⟨rfl, rfl⟩
theorem c_ptless (p q : Pt) (h1 : InR (p.x - q.x)) (h2 : InR (p.y - q.y)) : VPure Try.prog 66 [vP p, vP q] (vP ⟨p.x - q.x, p.y - q.y⟩) := by
  have h := c_lessW p q
  rw [wrap_id h1, wrap_id h2] at h
  exact h
/-- paravane/paravanelaw01.chosen -/
theorem c_chosen (r : Rg) (a b : Int) (hr : r.sm 65536) (ha : InR a) (hb : InR b) : VPure Try.prog 60 [vR r, I a, I b] (tup [vP (choP r a b), .bool (choB r a)]) := by
  unfold Rg.sm Bd.sm at hr
  intro H
  refine vcall_of_vrun Try.func60 rfl (N := 66) rfl rfl ?_
  refine vseq ?_
  refine vregion ?_
  refine vone rfl (vxa (vbox rfl rfl) rfl rfl (fun b1 => ?_))
  refine vone rfl (vxa valloc rfl rfl (fun b2 => ?_))
  refine vone rfl (vxq (vas rfl) rfl rfl ?_)
  refine vnil ?_
  refine vseq ?_
  refine vdraw0 [(.q, 0), (.q, 1), (.q, 2), (.q, 3), (.q, 4), (.q, 5), (.q, 6), (.q, 7), (.q, 8), (.q, 9), (.q, 10), (.q, 11), (.q, 12), (.q, 13), (.q, 14)] Try.mixed (by kernel_rfl) (by kernel_rfl) ?_
  refine vdq (mone rfl) (vfa rfl) rfl rfl ?_
  refine vdq (mone rfl) (vfa rfl) rfl rfl ?_
  refine vdq (mone rfl) (vld1 rfl rfl) rfl rfl ?_
  refine vdq (mone rfl) (vmv rfl) rfl rfl ?_
  refine vdq (mone rfl) (vfa rfl) rfl rfl ?_
  refine vdq (mone rfl) (vfa rfl) rfl rfl ?_
  refine vdq (mone rfl) (vld1 rfl rfl) rfl rfl ?_
  refine vdq (mone rfl) (vfa rfl) rfl rfl ?_
  refine vdq (mone rfl) (vfa rfl) rfl rfl ?_
  refine vdq (mone rfl) (vld1 rfl rfl) rfl rfl ?_
  refine vdq (mone rfl) (vsub rfl rfl (by unfold InR; omega)) rfl rfl ?_
  refine vdq (mone rfl) (vadd rfl rfl (by unfold InR; omega)) rfl rfl ?_
  have hx := rest_rng a (r.x.hi - r.x.lo + 1)
  refine vdq (mone rfl) (vcp rfl rfl rfl (c_Rest _ _ ha (by unfold InR; omega))) rfl rfl ?_
  refine vdq (mone rfl) (vadd rfl rfl (by unfold InR; omega)) rfl rfl ?_
  refine vdq (mone rfl) (vas rfl) rfl rfl ?_
  refine vdend rfl ?_
  refine vseq ?_
  refine vdraw0 [(.q, 0), (.q, 1), (.q, 2), (.q, 3), (.q, 4), (.q, 5), (.q, 6), (.q, 7), (.q, 8), (.q, 9), (.q, 10), (.q, 11), (.q, 12), (.q, 13), (.q, 14), (.q, 15), (.q, 16), (.q, 17), (.q, 18), (.q, 19), (.q, 20), (.q, 21), (.q, 22), (.q, 23), (.q, 24), (.q, 25), (.q, 26), (.q, 27), (.q, 28), (.q, 29)] Try.mixed (by kernel_rfl) (by kernel_rfl) ?_
  refine vdq (mone rfl) (vfa rfl) rfl rfl ?_
  refine vdq (mone rfl) (vfa rfl) rfl rfl ?_
  refine vdq (mone rfl) (vld1 rfl rfl) rfl rfl ?_
  refine vdq (mone rfl) (vfa rfl) rfl rfl ?_
  refine vdq (mone rfl) (vfa rfl) rfl rfl ?_
  refine vdq (mone rfl) (vld1 rfl rfl) rfl rfl ?_
  refine vdq (mone rfl) (vmv rfl) rfl rfl ?_
  refine vdq (mone rfl) (vsub rfl rfl (by unfold InR; omega)) rfl rfl ?_
  refine vdq (mone rfl) (vmv rfl) rfl rfl ?_
  refine vdq (mone rfl) (vfa rfl) rfl rfl ?_
  refine vdq (mone rfl) (vfa rfl) rfl rfl ?_
  refine vdq (mone rfl) (vld1 rfl rfl) rfl rfl ?_
  refine vdq (mone rfl) (vsub rfl rfl (by unfold InR; omega)) rfl rfl ?_
  refine vdq (mone rfl) (vmax3 rfl rfl rfl) rfl rfl ?_
  refine vdq (mone rfl) (vfa rfl) rfl rfl ?_
  refine vdq (mone rfl) (vfa rfl) rfl rfl ?_
  refine vdq (mone rfl) (vld1 rfl rfl) rfl rfl ?_
  refine vdq (mone rfl) (vfa rfl) rfl rfl ?_
  refine vdq (mone rfl) (vfa rfl) rfl rfl ?_
  refine vdq (mone rfl) (vld1 rfl rfl) rfl rfl ?_
  refine vdq (mone rfl) (vmv rfl) rfl rfl ?_
  refine vdq (mone rfl) (vsub rfl rfl (by unfold InR; omega)) rfl rfl ?_
  refine vdq (mone rfl) (vmv rfl) rfl rfl ?_
  refine vdq (mone rfl) (vfa rfl) rfl rfl ?_
  refine vdq (mone rfl) (vfa rfl) rfl rfl ?_
  refine vdq (mone rfl) (vld1 rfl rfl) rfl rfl ?_
  refine vdq (mone rfl) (vsub rfl rfl (by unfold InR; omega)) rfl rfl ?_
  refine vdq (mone rfl) (vmin3 rfl rfl rfl) rfl rfl ?_
  refine vdq (mone rfl) (vas rfl) rfl rfl ?_
  refine vdq (mone rfl) (vas rfl) rfl rfl ?_
  refine vdend rfl ?_
  refine vseq ?_
  refine vregion ?_
  refine vone rfl (vxq (vmv rfl) rfl rfl ?_)
  refine vone rfl (vxq (vmv rfl) rfl rfl ?_)
  refine vone rfl (vxq (vmv rfl) rfl rfl ?_)
  refine vone rfl (vxq (vmv rfl) rfl rfl ?_)
  refine vone rfl (vxq (vmv rfl) rfl rfl ?_)
  refine vone rfl (vxq (vsub rfl rfl (by unfold InR; omega)) rfl rfl ?_)
  refine vone rfl (vxq (vadd rfl rfl (by unfold InR; omega)) rfl rfl ?_)
  have hy := rest_rng b ((rowOf r (r.x.lo + restP a (r.x.hi - r.x.lo + 1))).b - (rowOf r (r.x.lo + restP a (r.x.hi - r.x.lo + 1))).a + 1)
  unfold rowOf at hy
  simp only at hy
  refine vone rfl (vxq (vcp rfl rfl rfl (c_Rest _ _ hb (by unfold InR; omega))) rfl rfl ?_)
  refine vone rfl (vxq (vadd rfl rfl (by unfold InR; omega)) rfl rfl ?_)
  refine vone rfl (vxq (vbd rfl rfl) rfl rfl ?_)
  refine vone rfl (vxq (vmv rfl) rfl rfl ?_)
  refine vone rfl (vxq (vmv rfl) rfl rfl ?_)
  refine vone rfl (vxq (vleq rfl rfl) rfl rfl ?_)
  refine vone rfl (vxs (vstn rfl rfl rfl rfl rfl) rfl ?_)
  refine vone rfl (vxq (vas rfl) rfl rfl ?_)
  refine vnil ?_
  refine vret (vr2 (H' := H) Try.func60 rfl (.celln rfl rfl) (.tmp rfl) (by repeat first | exact .refl _ | refine .cons_cons _ ?_ | refine .cons _ ?_ | exact sl0 _ | refine slA ?_) ?_)
  exact ⟨rfl, rfl⟩

theorem has_nz {r : Rg} {p : Pt} (h : fst2 (chkR r) (chkP p) ≠ 0) : hasE r p = (false, fst2 (chkR r) (chkP p)) := by
  unfold hasE
  by_cases h1 : r.ok
  · by_cases h2 : p.ok
    · rw [chkR_ok h1, chkP_zero.2 h2] at h; exact absurd rfl h
    · rw [if_pos h1, if_neg h2, chkR_ok h1, chkP_no h2]; rfl
  · rw [if_neg h1, chkR_no h1]; rfl
theorem has_z {r : Rg} {p : Pt} (h : ¬ fst2 (chkR r) (chkP p) ≠ 0) : r.ok ∧ p.ok := by
  have h := Classical.not_not.1 h
  by_cases h1 : r.ok
  · refine ⟨h1, ?_⟩
    rw [chkR_ok h1] at h
    exact chkP_zero.1 (by unfold fst2 at h; simpa using h)
  · rw [chkR_no h1] at h; unfold fst2 at h; simp at h
theorem oTb {p q : Prop} {_ : Decidable p} {_ : Decidable q} {v : Value} (h : p ↔ q) : Out.val (tup [.bool (decide p), v]) = Out.val (tup [.bool (decide q), v]) := by
  rw [decide_eq_decide.2 h]

/-- paravane/region.Has -/
theorem c_Has (r : Rg) (p : Pt) : VPure Try.prog 61 [vR r, vP p] (tup [.bool (hasE r p).1, I (hasE r p).2]) := by
  intro H
  refine vcall_of_vrun Try.func61 rfl (N := 26) rfl rfl ?_
  refine vseq ?_
  refine vregion ?_
  refine vone rfl (vxa (vbox rfl rfl) rfl rfl (fun b1 => ?_))
  refine vone rfl (vxa (vbox rfl rfl) rfl rfl (fun b2 => ?_))
  refine vone rfl (vxq (vas rfl) rfl rfl ?_)
  refine vone rfl (vxq (vas rfl) rfl rfl ?_)
  refine vnil ?_
  refine vseq ?_
  refine vseq ?_
  refine vdraw0 [(.q, 0), (.q, 1), (.q, 2), (.q, 3), (.m, 4), (.n, 5), (.q, 6)] Try.mixed (by kernel_rfl) (by kernel_rfl) ?_
  refine vdq (mone rfl) (vldn rfl rfl) rfl rfl ?_
  refine vdq (mone rfl) (vcp rfl rfl rfl (c_region_Check r)) rfl rfl ?_
  refine vdq (mone rfl) (vldn rfl rfl) rfl rfl ?_
  refine vdq (mone rfl) (vcp rfl rfl rfl (c_region_CheckPoint p)) rfl rfl ?_
  refine vdm (mone rfl) (vbsP rfl rfl rfl rfl rfl rfl) rfl rfl (fun b3 => ?_)
  refine vdn rfl (mone rfl) (vcq rfl rfl rfl ((h_first2 (chkR r) (chkP p) b3).fr1)) rfl rfl ?_
  refine vdq (mone rfl) (vas rfl) rfl rfl ?_
  refine vdend rfl ?_
  refine vseq ?_
  refine vregion ?_
  refine vone rfl (vxq (vmv rfl) rfl rfl ?_)
  refine vone rfl (vxq (vneq rfl rfl) rfl rfl ?_)
  refine vnil ?_
  refine vcondd rfl (fun h15 => ?_) (fun h15 => ?_)
  · skip
    refine vseq ?_
    refine vregion ?_
    refine vone rfl (vxq (vmv rfl) rfl rfl ?_)
    refine vone rfl (vxq (vas rfl) rfl rfl ?_)
    refine vone rfl (vxq (vas rfl) rfl rfl ?_)
    refine vnil ?_
    refine vret (vr2 (H' := H) Try.func61 rfl (.tmp rfl) (.tmp rfl) (by repeat first | exact .refl _ | refine .cons_cons _ ?_ | refine .cons _ ?_ | exact sl0 _ | refine slA ?_) ?_)
    first | (rw [has_nz h15]; exact ⟨rfl, rfl⟩) | (rw [has_ok (has_z h15).1 (has_z h15).2]; exact ⟨oTb (by simp only [Rg.map2, Bd.cut, ofP, List.cons.injEq, and_true]; unfold inR; omega), rfl⟩)
  · skip
    refine vskip ?_
    refine vseq ?_
    refine vregion ?_
    refine vone rfl (vxq (vldn rfl rfl) rfl rfl ?_)
    refine vone rfl (vxq (vcp rfl rfl rfl (c_region_bounds _ _ _ _ _ _ _ _)) rfl rfl ?_)
    refine vone rfl (vxa valloc rfl rfl (fun b4 => ?_))
    refine vone rfl (vxs (vstn rfl rfl rfl rfl rfl) rfl ?_)
    refine vnil ?_
    refine vseq ?_
    refine vdraw0 [(.q, 0), (.q, 1), (.q, 2), (.q, 3), (.q, 4), (.q, 5), (.q, 6), (.q, 7), (.q, 8)] Try.mixed (by kernel_rfl) (by kernel_rfl) ?_
    refine vdq (mone rfl) (vldn rfl rfl) rfl rfl ?_
    refine vdq (mone rfl) (vldn rfl rfl) rfl rfl ?_
    refine vdq (mone rfl) (vcp rfl rfl rfl (c_of p ((has_z h15).2.sm.mono (by decide)))) rfl rfl ?_
    refine vdq (mone rfl) (vcp rfl rfl rfl (c_cut4 r (ofP p))) rfl rfl ?_
    refine vdq (mone rfl) (vldn rfl rfl) rfl rfl ?_
    refine vdq (mone rfl) (vcp rfl rfl rfl (c_of p ((has_z h15).2.sm.mono (by decide)))) rfl rfl ?_
    refine vdq (mone rfl) (veqs rfl rfl rfl rfl rfl rfl) rfl rfl ?_
    refine vdq (mone rfl) (vas rfl) rfl rfl ?_
    refine vdq (mone rfl) (vas rfl) rfl rfl ?_
    refine vdend rfl ?_
    refine vret (vr2 (H' := H) Try.func61 rfl (.tmp rfl) (.tmp rfl) (by repeat first | exact .refl _ | refine .cons_cons _ ?_ | refine .cons _ ?_ | exact sl0 _ | refine slA ?_) ?_)
    first | (rw [has_nz h15]; exact ⟨rfl, rfl⟩) | (rw [has_ok (has_z h15).1 (has_z h15).2]; exact ⟨oTb (by simp only [Rg.map2, Bd.cut, ofP, List.cons.injEq, and_true]; unfold inR; omega), rfl⟩)
/-- paravane/paravaneref01.lies -/
theorem c_lies (r : Rg) (p : Pt) (hp : p.ok) : VPure Try.prog 134 [vR r, vP p] (.bool (decide (inR r p))) := by
  unfold Pt.ok at hp
  intro H
  refine vcall_of_vrun Try.func134 rfl (N := 53) rfl rfl ?_
  refine vseq ?_
  refine vregion ?_
  refine vone rfl (vxa (vbox rfl rfl) rfl rfl (fun b1 => ?_))
  refine vone rfl (vxa (vbox rfl rfl) rfl rfl (fun b2 => ?_))
  refine vone rfl (vxq (vas rfl) rfl rfl ?_)
  refine vnil ?_
  refine vseq ?_
  refine vregion ?_
  refine vone rfl (vxq (vfa rfl) rfl rfl ?_)
  refine vone rfl (vxq (vld1 rfl rfl) rfl rfl ?_)
  refine vone rfl (vxq (vfa rfl) rfl rfl ?_)
  refine vone rfl (vxq (vfa rfl) rfl rfl ?_)
  refine vone rfl (vxq (vld1 rfl rfl) rfl rfl ?_)
  refine vone rfl (vxq (vfa rfl) rfl rfl ?_)
  refine vone rfl (vxq (vfa rfl) rfl rfl ?_)
  refine vone rfl (vxq (vld1 rfl rfl) rfl rfl ?_)
  refine vone rfl (vxq (vcp rfl rfl rfl (c_ref00_Between _ _ _)) rfl rfl ?_)
  refine vone rfl (vxq (vmv rfl) rfl rfl ?_)
  refine vsplitd (d := 14) rfl (fun h14 => ?_) (fun h14 => ?_)
  · skip
    refine vyes rfl rfl rfl (vxq (vfa rfl) rfl rfl ?_)
    refine vyes rfl rfl rfl (vxq (vld1 rfl rfl) rfl rfl ?_)
    refine vyes rfl rfl rfl (vxq (vfa rfl) rfl rfl ?_)
    refine vyes rfl rfl rfl (vxq (vfa rfl) rfl rfl ?_)
    refine vyes rfl rfl rfl (vxq (vld1 rfl rfl) rfl rfl ?_)
    refine vyes rfl rfl rfl (vxq (vfa rfl) rfl rfl ?_)
    refine vyes rfl rfl rfl (vxq (vfa rfl) rfl rfl ?_)
    refine vyes rfl rfl rfl (vxq (vld1 rfl rfl) rfl rfl ?_)
    refine vyes rfl rfl rfl (vxq (vcp rfl rfl rfl (c_ref00_Between _ _ _)) rfl rfl ?_)
    refine vone rfl (vxq (vpkt rfl rfl) rfl rfl ?_)
    refine vone rfl (vxq (vmv rfl) rfl rfl ?_)
    refine vsplitd (d := 25) rfl (fun h25 => ?_) (fun h25 => ?_)
    · skip
      refine vyes rfl rfl rfl (vxq (vfa rfl) rfl rfl ?_)
      refine vyes rfl rfl rfl (vxq (vld1 rfl rfl) rfl rfl ?_)
      refine vyes rfl rfl rfl (vxq (vfa rfl) rfl rfl ?_)
      refine vyes rfl rfl rfl (vxq (vld1 rfl rfl) rfl rfl ?_)
      refine vyes rfl rfl rfl (vxq (vadd rfl rfl (by unfold InR; omega)) rfl rfl ?_)
      refine vyes rfl rfl rfl (vxq (vfa rfl) rfl rfl ?_)
      refine vyes rfl rfl rfl (vxq (vfa rfl) rfl rfl ?_)
      refine vyes rfl rfl rfl (vxq (vld1 rfl rfl) rfl rfl ?_)
      refine vyes rfl rfl rfl (vxq (vfa rfl) rfl rfl ?_)
      refine vyes rfl rfl rfl (vxq (vfa rfl) rfl rfl ?_)
      refine vyes rfl rfl rfl (vxq (vld1 rfl rfl) rfl rfl ?_)
      refine vyes rfl rfl rfl (vxq (vcp rfl rfl rfl (c_ref00_Between _ _ _)) rfl rfl ?_)
      refine vone rfl (vxq (vpkt rfl rfl) rfl rfl ?_)
      refine vone rfl (vxq (vmv rfl) rfl rfl ?_)
      refine vsplitd (d := 39) rfl (fun h39 => ?_) (fun h39 => ?_)
      · skip
        refine vyes rfl rfl rfl (vxq (vfa rfl) rfl rfl ?_)
        refine vyes rfl rfl rfl (vxq (vld1 rfl rfl) rfl rfl ?_)
        refine vyes rfl rfl rfl (vxq (vfa rfl) rfl rfl ?_)
        refine vyes rfl rfl rfl (vxq (vld1 rfl rfl) rfl rfl ?_)
        refine vyes rfl rfl rfl (vxq (vsub rfl rfl (by unfold InR; omega)) rfl rfl ?_)
        refine vyes rfl rfl rfl (vxq (vfa rfl) rfl rfl ?_)
        refine vyes rfl rfl rfl (vxq (vfa rfl) rfl rfl ?_)
        refine vyes rfl rfl rfl (vxq (vld1 rfl rfl) rfl rfl ?_)
        refine vyes rfl rfl rfl (vxq (vfa rfl) rfl rfl ?_)
        refine vyes rfl rfl rfl (vxq (vfa rfl) rfl rfl ?_)
        refine vyes rfl rfl rfl (vxq (vld1 rfl rfl) rfl rfl ?_)
        refine vyes rfl rfl rfl (vxq (vcp rfl rfl rfl (c_ref00_Between _ _ _)) rfl rfl ?_)
        refine vone rfl (vxq (vpkt rfl rfl) rfl rfl ?_)
        refine vone rfl (vxq (vas rfl) rfl rfl ?_)
        refine vnil ?_
        refine vret (vr1 (H' := H) Try.func134 rfl (.tmp rfl) (by repeat first | exact .refl _ | refine .cons_cons _ ?_ | refine .cons _ ?_ | exact sl0 _ | refine slA ?_) ?_)
        first | exact ⟨obt (by unfold inR; omega), rfl⟩ | exact ⟨obf (by unfold inR; omega), rfl⟩ | exact ⟨obd (by unfold inR; omega), rfl⟩
      · skip
        refine vno rfl rfl rfl rfl rfl ?_
        refine vno rfl rfl rfl rfl rfl ?_
        refine vno rfl rfl rfl rfl rfl ?_
        refine vno rfl rfl rfl rfl rfl ?_
        refine vno rfl rfl rfl rfl rfl ?_
        refine vno rfl rfl rfl rfl rfl ?_
        refine vno rfl rfl rfl rfl rfl ?_
        refine vno rfl rfl rfl rfl rfl ?_
        refine vno rfl rfl rfl rfl rfl ?_
        refine vno rfl rfl rfl rfl rfl ?_
        refine vno rfl rfl rfl rfl rfl ?_
        refine vno rfl rfl rfl rfl rfl ?_
        refine vone rfl (vxq (vpkf rfl rfl) rfl rfl ?_)
        refine vone rfl (vxq (vas rfl) rfl rfl ?_)
        refine vnil ?_
        refine vret (vr1 (H' := H) Try.func134 rfl (.tmp rfl) (by repeat first | exact .refl _ | refine .cons_cons _ ?_ | refine .cons _ ?_ | exact sl0 _ | refine slA ?_) ?_)
        first | exact ⟨obt (by unfold inR; omega), rfl⟩ | exact ⟨obf (by unfold inR; omega), rfl⟩ | exact ⟨obd (by unfold inR; omega), rfl⟩
    · skip
      refine vno rfl rfl rfl rfl rfl ?_
      refine vno rfl rfl rfl rfl rfl ?_
      refine vno rfl rfl rfl rfl rfl ?_
      refine vno rfl rfl rfl rfl rfl ?_
      refine vno rfl rfl rfl rfl rfl ?_
      refine vno rfl rfl rfl rfl rfl ?_
      refine vno rfl rfl rfl rfl rfl ?_
      refine vno rfl rfl rfl rfl rfl ?_
      refine vno rfl rfl rfl rfl rfl ?_
      refine vno rfl rfl rfl rfl rfl ?_
      refine vno rfl rfl rfl rfl rfl ?_
      refine vno rfl rfl rfl rfl rfl ?_
      refine vone rfl (vxq (vpkf rfl rfl) rfl rfl ?_)
      refine vone rfl (vxq (vmv rfl) rfl rfl ?_)
      refine vno rfl rfl rfl rfl rfl ?_
      refine vno rfl rfl rfl rfl rfl ?_
      refine vno rfl rfl rfl rfl rfl ?_
      refine vno rfl rfl rfl rfl rfl ?_
      refine vno rfl rfl rfl rfl rfl ?_
      refine vno rfl rfl rfl rfl rfl ?_
      refine vno rfl rfl rfl rfl rfl ?_
      refine vno rfl rfl rfl rfl rfl ?_
      refine vno rfl rfl rfl rfl rfl ?_
      refine vno rfl rfl rfl rfl rfl ?_
      refine vno rfl rfl rfl rfl rfl ?_
      refine vno rfl rfl rfl rfl rfl ?_
      refine vone rfl (vxq (vpkf rfl rfl) rfl rfl ?_)
      refine vone rfl (vxq (vas rfl) rfl rfl ?_)
      refine vnil ?_
      refine vret (vr1 (H' := H) Try.func134 rfl (.tmp rfl) (by repeat first | exact .refl _ | refine .cons_cons _ ?_ | refine .cons _ ?_ | exact sl0 _ | refine slA ?_) ?_)
      first | exact ⟨obt (by unfold inR; omega), rfl⟩ | exact ⟨obf (by unfold inR; omega), rfl⟩ | exact ⟨obd (by unfold inR; omega), rfl⟩
  · skip
    refine vno rfl rfl rfl rfl rfl ?_
    refine vno rfl rfl rfl rfl rfl ?_
    refine vno rfl rfl rfl rfl rfl ?_
    refine vno rfl rfl rfl rfl rfl ?_
    refine vno rfl rfl rfl rfl rfl ?_
    refine vno rfl rfl rfl rfl rfl ?_
    refine vno rfl rfl rfl rfl rfl ?_
    refine vno rfl rfl rfl rfl rfl ?_
    refine vno rfl rfl rfl rfl rfl ?_
    refine vone rfl (vxq (vpkf rfl rfl) rfl rfl ?_)
    refine vone rfl (vxq (vmv rfl) rfl rfl ?_)
    refine vno rfl rfl rfl rfl rfl ?_
    refine vno rfl rfl rfl rfl rfl ?_
    refine vno rfl rfl rfl rfl rfl ?_
    refine vno rfl rfl rfl rfl rfl ?_
    refine vno rfl rfl rfl rfl rfl ?_
    refine vno rfl rfl rfl rfl rfl ?_
    refine vno rfl rfl rfl rfl rfl ?_
    refine vno rfl rfl rfl rfl rfl ?_
    refine vno rfl rfl rfl rfl rfl ?_
    refine vno rfl rfl rfl rfl rfl ?_
    refine vno rfl rfl rfl rfl rfl ?_
    refine vno rfl rfl rfl rfl rfl ?_
    refine vone rfl (vxq (vpkf rfl rfl) rfl rfl ?_)
    refine vone rfl (vxq (vmv rfl) rfl rfl ?_)
    refine vno rfl rfl rfl rfl rfl ?_
    refine vno rfl rfl rfl rfl rfl ?_
    refine vno rfl rfl rfl rfl rfl ?_
    refine vno rfl rfl rfl rfl rfl ?_
    refine vno rfl rfl rfl rfl rfl ?_
    refine vno rfl rfl rfl rfl rfl ?_
    refine vno rfl rfl rfl rfl rfl ?_
    refine vno rfl rfl rfl rfl rfl ?_
    refine vno rfl rfl rfl rfl rfl ?_
    refine vno rfl rfl rfl rfl rfl ?_
    refine vno rfl rfl rfl rfl rfl ?_
    refine vno rfl rfl rfl rfl rfl ?_
    refine vone rfl (vxq (vpkf rfl rfl) rfl rfl ?_)
    refine vone rfl (vxq (vas rfl) rfl rfl ?_)
    refine vnil ?_
    refine vret (vr1 (H' := H) Try.func134 rfl (.tmp rfl) (by repeat first | exact .refl _ | refine .cons_cons _ ?_ | refine .cons _ ?_ | exact sl0 _ | refine slA ?_) ?_)
    first | exact ⟨obt (by unfold inR; omega), rfl⟩ | exact ⟨obf (by unfold inR; omega), rfl⟩ | exact ⟨obd (by unfold inR; omega), rfl⟩
/-- paravane/paravaneref01.Has -/
theorem c_ref_Has (r : Rg) (p : Pt) : VPure Try.prog 74 [vR r, vP p] (tup [.bool (hasE r p).1, I (hasE r p).2]) := by
  intro H
  refine vcall_of_vrun Try.func74 rfl (N := 18) rfl rfl ?_
  refine vseq ?_
  refine vregion ?_
  refine vone rfl (vxa (vbox rfl rfl) rfl rfl (fun b1 => ?_))
  refine vone rfl (vxa (vbox rfl rfl) rfl rfl (fun b2 => ?_))
  refine vone rfl (vxq (vas rfl) rfl rfl ?_)
  refine vone rfl (vxq (vas rfl) rfl rfl ?_)
  refine vnil ?_
  refine vseq ?_
  refine vseq ?_
  refine vregion ?_
  refine vone rfl (vxq (vldn rfl rfl) rfl rfl ?_)
  refine vone rfl (vxq (vcp rfl rfl rfl (c_ref_Check r)) rfl rfl ?_)
  refine vone rfl (vxq (vas rfl) rfl rfl ?_)
  refine vnil ?_
  refine vseq ?_
  refine vregion ?_
  refine vone rfl (vxq (vmv rfl) rfl rfl ?_)
  refine vone rfl (vxq (vneq rfl rfl) rfl rfl ?_)
  refine vnil ?_
  refine vcondd rfl (fun h10 => ?_) (fun h10 => ?_)
  · skip
    refine vseq ?_
    refine vregion ?_
    refine vone rfl (vxq (vmv rfl) rfl rfl ?_)
    refine vone rfl (vxq (vas rfl) rfl rfl ?_)
    refine vone rfl (vxq (vas rfl) rfl rfl ?_)
    refine vnil ?_
    refine vret (vr2 (H' := H) Try.func74 rfl (.tmp rfl) (.tmp rfl) (by repeat first | exact .refl _ | refine .cons_cons _ ?_ | refine .cons _ ?_ | exact sl0 _ | refine slA ?_) ?_)
    first | (rw [show hasE r p = (false, chkR r) by unfold hasE; rw [if_neg (chkR_nz.1 h10), chkR_no (chkR_nz.1 h10)]]; exact ⟨rfl, rfl⟩) | (rw [show hasE r p = (false, 10) by unfold hasE; rw [if_pos (ok_of h10), if_neg h14]]; exact ⟨rfl, rfl⟩) | (rw [has_ok (ok_of h10) (Classical.not_not.1 h14)]; exact ⟨rfl, rfl⟩)
  · skip
    refine vskip ?_
    refine vseq ?_
    refine vseq ?_
    refine vregion ?_
    refine vone rfl (vxq (vldn rfl rfl) rfl rfl ?_)
    refine vone rfl (vxq (vcp rfl rfl rfl (c_place p)) rfl rfl ?_)
    refine vone rfl (vxq (vnotd rfl) rfl rfl ?_)
    refine vnil ?_
    refine vcondd rfl (fun h14 => ?_) (fun h14 => ?_)
    · skip
      refine vseq ?_
      refine vregion ?_
      refine vone rfl (vxq (vas rfl) rfl rfl ?_)
      refine vone rfl (vxq (vas rfl) rfl rfl ?_)
      refine vnil ?_
      refine vret (vr2 (H' := H) Try.func74 rfl (.tmp rfl) (.tmp rfl) (by repeat first | exact .refl _ | refine .cons_cons _ ?_ | refine .cons _ ?_ | exact sl0 _ | refine slA ?_) ?_)
      first | (rw [show hasE r p = (false, chkR r) by unfold hasE; rw [if_neg (chkR_nz.1 h10), chkR_no (chkR_nz.1 h10)]]; exact ⟨rfl, rfl⟩) | (rw [show hasE r p = (false, 10) by unfold hasE; rw [if_pos (ok_of h10), if_neg h14]]; exact ⟨rfl, rfl⟩) | (rw [has_ok (ok_of h10) (Classical.not_not.1 h14)]; exact ⟨rfl, rfl⟩)
    · skip
      refine vskip ?_
      refine vseq ?_
      refine vregion ?_
      refine vone rfl (vxq (vldn rfl rfl) rfl rfl ?_)
      refine vone rfl (vxq (vldn rfl rfl) rfl rfl ?_)
      refine vone rfl (vxq (vcp rfl rfl rfl (c_lies r p (Classical.not_not.1 h14))) rfl rfl ?_)
      refine vone rfl (vxq (vas rfl) rfl rfl ?_)
      refine vone rfl (vxq (vas rfl) rfl rfl ?_)
      refine vnil ?_
      refine vret (vr2 (H' := H) Try.func74 rfl (.tmp rfl) (.tmp rfl) (by repeat first | exact .refl _ | refine .cons_cons _ ?_ | refine .cons _ ?_ | exact sl0 _ | refine slA ?_) ?_)
      first | (rw [show hasE r p = (false, chkR r) by unfold hasE; rw [if_neg (chkR_nz.1 h10), chkR_no (chkR_nz.1 h10)]]; exact ⟨rfl, rfl⟩) | (rw [show hasE r p = (false, 10) by unfold hasE; rw [if_pos (ok_of h10), if_neg h14]]; exact ⟨rfl, rfl⟩) | (rw [has_ok (ok_of h10) (Classical.not_not.1 h14)]; exact ⟨rfl, rfl⟩)

instance tAp50 : TAp Try.prog 50 25 8 64 := mkTAp (z := .agg #[.int .i64 0, .int .i64 0, .int .i64 0, .int .i64 0, .int .i64 0, .int .i64 0, .int .i64 0, .int .i64 0]) (by kernel_rfl) (by kernel_rfl) rfl
theorem perm_two {x y : Nat × Obj} {B C : Heap} : (x :: y :: (B ++ C)).Perm (B ++ (x :: y :: C)) := by
  have := List.perm_append_comm_assoc [x, y] B C
  simpa using this
theorem newsB {H : Heap} {b : Nat} {T : TypeId} {vs : List Value} : ∀ j u, vs[j]? = some u → ∃ ob, ((⟨b, 0, Option.none⟩ : Addr).block, ob) ∈ (b, blk vs T) :: H ∧ oCell ob ((⟨b, 0, Option.none⟩ : Addr).add j) = some u := by
  intro j u hu
  refine ⟨blk vs T, by simp, ?_⟩
  unfold Addr.add
  split
  · rename_i e; subst e; simpa [oCell, blk] using hu
  · simpa [oCell, blk] using hu
theorem oneI8 {a b c d e f g h : Int} : ∀ u ∈ [I a, I b, I c, I d, I e, I f, I g, I h], u.oneCell' = true := by
  intro u hu
  simp only [List.mem_cons, List.not_mem_nil, or_false] at hu
  rcases hu with rfl | rfl | rfl | rfl | rfl | rfl | rfl | rfl <;> rfl
/-- A slice of one's own, read by its elements. -/
theorem OwnS.sloE {α : Type} {e size : Nat} {enc : α → List Value} {l : List α} {v : Value} {n : Nat} {B : Heap} (he : ∀ x, (enc x).length = size) (h : OwnS e size v n (l.flatMap enc) B) (hne : v ≠ nilS) : ∃ a c, v = sli (some a) n c ∧ ∀ H, SlO (B ++ H) (some a) size enc l := by
  rcases h with ⟨rfl, _⟩ | ⟨g, cap, cur, rfl, rfl, h1, h2, h3, h4⟩
  · exact absurd rfl hne
  · refine ⟨_, _, rfl, fun H => ?_⟩
    have : HAt ([(g, blk cur e)] ++ H) g cur e := HAt.head
    refine SlO.blk fun i x hx => ⟨he x, fun j u hj => ?_⟩
    have h5 := flat_get he l i x j u hx hj
    rw [← h4, List.getElem?_take] at h5
    split at h5
    · exact h5
    · cases h5
theorem ends_next {r : Rg} {i : Nat} {v : Value} {B : Heap} (h : OwnS 25 8 v (i + 1) ((List.range i).flatMap (fun j => encR (endR r j)) ++ encR (endR r i)) B) : OwnS 25 8 v (i + 1) ((List.range (i + 1)).flatMap (fun j => encR (endR r j))) B := by
  rw [List.range_succ, List.flatMap_append]
  simpa using h

/-- paravane/paravanelaw01.ends -/
theorem g_ends (r : Rg) (H : Heap) : VCall Try.prog 59 [vR r].toArray H (fun o H' => ∃ v, o = .val v ∧ ∃ B, H' = B ++ H ∧ ∃ a c, v = sli (some a) 8 c ∧ SlO (B ++ H) (some a) 8 encR ((List.range 8).map (endR r))) := by
  refine vcall_of_vrun Try.func59 rfl (N := 71) rfl rfl ?_
  refine vseq ?_
  refine vregion ?_
  refine vone rfl (vxa (vbox rfl rfl) rfl rfl (fun b1 => ?_))
  refine vone rfl (vxq (vas rfl) rfl rfl ?_)
  refine vnil ?_
  refine vseq ?_
  refine vregion ?_
  refine vone rfl (vxq (vas rfl) rfl rfl ?_)
  refine vnil ?_
  refine vseq ?_
  refine vseq ?_
  refine vregion ?_
  refine vone rfl (vxq (vas rfl) rfl rfl ?_)
  refine vnil ?_
  refine vblock ?_
  refine vwhile (σ := Nat × Value × Heap) (fun ⟨i, v, B⟩ => 8 - i) (fun ⟨i, v, B⟩ => [(1, ptr b1), (2, nilS), (3, v), (4, I (i : Int))]) (fun ⟨i, v, B⟩ => B ++ (b1, blk (clR r) 25) :: H) (fun ⟨i, v, B⟩ => i ≤ 8 ∧ (v ≠ nilS ∨ i = 0) ∧ OwnS 25 8 v i ((List.range i).flatMap fun j => encR (endR r j)) B) (0, nilS, []) ⟨by omega, .inr rfl, OwnS.nil⟩ ⟨rfl, rfl, rfl, rfl, True.intro⟩ (List.Sublist.refl _) ?_
  rintro ⟨i, v, B⟩ ⟨hi, hnn, hown⟩ IH
  change VRun _ _ _ _ _ [(1, ptr b1), (2, nilS), (3, v), (4, I (i : Int))] _ (B ++ (b1, blk (clR r) 25) :: H) _
  refine vseq ?_
  refine vseq ?_
  refine vregion ?_
  refine vone rfl (vxq (vmv rfl) rfl rfl ?_)
  refine vone rfl (vxq (vlss rfl rfl) rfl rfl ?_)
  refine vnil ?_
  refine vcondd rfl (fun h7 => ?_) (fun h7 => ?_)
  · skip
    refine vskip ?_
    refine vseq ?_
    refine vblock ?_
    refine vseq ?_
    refine vregion ?_
    refine vone rfl (vxq (vldn rfl rfl) rfl rfl ?_)
    refine vone rfl (vxa valloc rfl rfl (fun b2 => ?_))
    refine vone rfl (vxs (vstn rfl rfl rfl rfl rfl) rfl ?_)
    refine vnil ?_
    refine vseq ?_
    refine vseq ?_
    refine vregion ?_
    refine vone rfl (vxq (vmv rfl) rfl rfl ?_)
    refine vnil ?_
    refine vblock ?_
    refine vseq ?_
    refine vregion ?_
    refine vone rfl (vxq (veql rfl rfl) rfl rfl ?_)
    refine vone rfl (vxq (vas rfl) rfl rfl ?_)
    refine vnil ?_
    refine vcondd rfl (fun h17 => ?_) (fun h17 => ?_)
    · skip
      obtain rfl : i = 0 := by omega
      refine vregion ?_
      refine vone rfl (vxq (vfa rfl) rfl rfl ?_)
      refine vone rfl (vxq (vfa rfl) rfl rfl ?_)
      refine vone rfl (vxq (vld1 rfl rfl) rfl rfl ?_)
      refine vone rfl (vxq (vfa rfl) rfl rfl ?_)
      refine vone rfl (vxq (vfa rfl) rfl rfl ?_)
      refine vone rfl (vxs (vst1 rfl rfl rfl rfl) rfl ?_)
      refine vnil ?_
      refine vinblock ?_
      refine vregion ?_
      refine vone rfl (vxq (vmv rfl) rfl rfl ?_)
      refine vone rfl (vxq (vldn rfl rfl) rfl rfl ?_)
      refine vone rfl (vxg (vbs rfl rfl rfl rfl rfl rfl) rfl rfl ?_)
      rintro _ _ ⟨b3, rfl, rfl⟩
      refine vone rfl (vxg (vapp (B := B) (H0 := _) rfl rfl hown perm_two rfl newsB oneI8 (by omega) (by simp only [maxLen]; omega) (by omega)) rfl rfl ?_)
      rintro u _ ⟨B2, hown2, hne, rfl⟩
      refine vone rfl (vxq (vas rfl) rfl rfl ?_)
      refine vnil ?_
      refine vinblock ?_
      refine vregion ?_
      refine vone rfl (vxq (vmv rfl) rfl rfl ?_)
      refine vone rfl (vxq (vadd rfl rfl (by unfold InR; omega)) rfl rfl ?_)
      refine vone rfl (vxq (vas rfl) rfl rfl ?_)
      refine vnil ?_
      exact vback (IH (_, u, B2) ⟨by omega, .inl hne, ends_next hown2⟩ (by show 8 - _ < 8 - _; omega)) ⟨rfl, rfl, rfl, rfl, True.intro⟩ (List.Sublist.append_left (List.Sublist.cons _ (List.Sublist.cons _ (List.Sublist.refl _))) _)
    · skip
      refine vseq ?_
      refine vregion ?_
      refine vone rfl (vxq (veql rfl rfl) rfl rfl ?_)
      refine vone rfl (vxq (vas rfl) rfl rfl ?_)
      refine vnil ?_
      refine vcondd rfl (fun h24 => ?_) (fun h24 => ?_)
      · skip
        obtain rfl : i = 1 := by omega
        refine vregion ?_
        refine vone rfl (vxq (vfa rfl) rfl rfl ?_)
        refine vone rfl (vxq (vfa rfl) rfl rfl ?_)
        refine vone rfl (vxq (vld1 rfl rfl) rfl rfl ?_)
        refine vone rfl (vxq (vfa rfl) rfl rfl ?_)
        refine vone rfl (vxq (vfa rfl) rfl rfl ?_)
        refine vone rfl (vxs (vst1 rfl rfl rfl rfl) rfl ?_)
        refine vnil ?_
        refine vinblock ?_
        refine vregion ?_
        refine vone rfl (vxq (vmv rfl) rfl rfl ?_)
        refine vone rfl (vxq (vldn rfl rfl) rfl rfl ?_)
        refine vone rfl (vxg (vbs rfl rfl rfl rfl rfl rfl) rfl rfl ?_)
        rintro _ _ ⟨b4, rfl, rfl⟩
        refine vone rfl (vxg (vapp (B := B) (H0 := _) rfl rfl hown perm_two rfl newsB oneI8 (by omega) (by simp only [maxLen]; omega) (by omega)) rfl rfl ?_)
        rintro u _ ⟨B2, hown2, hne, rfl⟩
        refine vone rfl (vxq (vas rfl) rfl rfl ?_)
        refine vnil ?_
        refine vinblock ?_
        refine vregion ?_
        refine vone rfl (vxq (vmv rfl) rfl rfl ?_)
        refine vone rfl (vxq (vadd rfl rfl (by unfold InR; omega)) rfl rfl ?_)
        refine vone rfl (vxq (vas rfl) rfl rfl ?_)
        refine vnil ?_
        exact vback (IH (_, u, B2) ⟨by omega, .inl hne, ends_next hown2⟩ (by show 8 - _ < 8 - _; omega)) ⟨rfl, rfl, rfl, rfl, True.intro⟩ (List.Sublist.append_left (List.Sublist.cons _ (List.Sublist.cons _ (List.Sublist.refl _))) _)
      · skip
        refine vseq ?_
        refine vregion ?_
        refine vone rfl (vxq (veql rfl rfl) rfl rfl ?_)
        refine vone rfl (vxq (vas rfl) rfl rfl ?_)
        refine vnil ?_
        refine vcondd rfl (fun h31 => ?_) (fun h31 => ?_)
        · skip
          obtain rfl : i = 2 := by omega
          refine vregion ?_
          refine vone rfl (vxq (vfa rfl) rfl rfl ?_)
          refine vone rfl (vxq (vfa rfl) rfl rfl ?_)
          refine vone rfl (vxq (vld1 rfl rfl) rfl rfl ?_)
          refine vone rfl (vxq (vfa rfl) rfl rfl ?_)
          refine vone rfl (vxq (vfa rfl) rfl rfl ?_)
          refine vone rfl (vxs (vst1 rfl rfl rfl rfl) rfl ?_)
          refine vnil ?_
          refine vinblock ?_
          refine vregion ?_
          refine vone rfl (vxq (vmv rfl) rfl rfl ?_)
          refine vone rfl (vxq (vldn rfl rfl) rfl rfl ?_)
          refine vone rfl (vxg (vbs rfl rfl rfl rfl rfl rfl) rfl rfl ?_)
          rintro _ _ ⟨b5, rfl, rfl⟩
          refine vone rfl (vxg (vapp (B := B) (H0 := _) rfl rfl hown perm_two rfl newsB oneI8 (by omega) (by simp only [maxLen]; omega) (by omega)) rfl rfl ?_)
          rintro u _ ⟨B2, hown2, hne, rfl⟩
          refine vone rfl (vxq (vas rfl) rfl rfl ?_)
          refine vnil ?_
          refine vinblock ?_
          refine vregion ?_
          refine vone rfl (vxq (vmv rfl) rfl rfl ?_)
          refine vone rfl (vxq (vadd rfl rfl (by unfold InR; omega)) rfl rfl ?_)
          refine vone rfl (vxq (vas rfl) rfl rfl ?_)
          refine vnil ?_
          exact vback (IH (_, u, B2) ⟨by omega, .inl hne, ends_next hown2⟩ (by show 8 - _ < 8 - _; omega)) ⟨rfl, rfl, rfl, rfl, True.intro⟩ (List.Sublist.append_left (List.Sublist.cons _ (List.Sublist.cons _ (List.Sublist.refl _))) _)
        · skip
          refine vseq ?_
          refine vregion ?_
          refine vone rfl (vxq (veql rfl rfl) rfl rfl ?_)
          refine vone rfl (vxq (vas rfl) rfl rfl ?_)
          refine vnil ?_
          refine vcondd rfl (fun h38 => ?_) (fun h38 => ?_)
          · skip
            obtain rfl : i = 3 := by omega
            refine vregion ?_
            refine vone rfl (vxq (vfa rfl) rfl rfl ?_)
            refine vone rfl (vxq (vfa rfl) rfl rfl ?_)
            refine vone rfl (vxq (vld1 rfl rfl) rfl rfl ?_)
            refine vone rfl (vxq (vfa rfl) rfl rfl ?_)
            refine vone rfl (vxq (vfa rfl) rfl rfl ?_)
            refine vone rfl (vxs (vst1 rfl rfl rfl rfl) rfl ?_)
            refine vnil ?_
            refine vinblock ?_
            refine vregion ?_
            refine vone rfl (vxq (vmv rfl) rfl rfl ?_)
            refine vone rfl (vxq (vldn rfl rfl) rfl rfl ?_)
            refine vone rfl (vxg (vbs rfl rfl rfl rfl rfl rfl) rfl rfl ?_)
            rintro _ _ ⟨b6, rfl, rfl⟩
            refine vone rfl (vxg (vapp (B := B) (H0 := _) rfl rfl hown perm_two rfl newsB oneI8 (by omega) (by simp only [maxLen]; omega) (by omega)) rfl rfl ?_)
            rintro u _ ⟨B2, hown2, hne, rfl⟩
            refine vone rfl (vxq (vas rfl) rfl rfl ?_)
            refine vnil ?_
            refine vinblock ?_
            refine vregion ?_
            refine vone rfl (vxq (vmv rfl) rfl rfl ?_)
            refine vone rfl (vxq (vadd rfl rfl (by unfold InR; omega)) rfl rfl ?_)
            refine vone rfl (vxq (vas rfl) rfl rfl ?_)
            refine vnil ?_
            exact vback (IH (_, u, B2) ⟨by omega, .inl hne, ends_next hown2⟩ (by show 8 - _ < 8 - _; omega)) ⟨rfl, rfl, rfl, rfl, True.intro⟩ (List.Sublist.append_left (List.Sublist.cons _ (List.Sublist.cons _ (List.Sublist.refl _))) _)
          · skip
            refine vseq ?_
            refine vregion ?_
            refine vone rfl (vxq (veql rfl rfl) rfl rfl ?_)
            refine vone rfl (vxq (vas rfl) rfl rfl ?_)
            refine vnil ?_
            refine vcondd rfl (fun h45 => ?_) (fun h45 => ?_)
            · skip
              obtain rfl : i = 4 := by omega
              refine vregion ?_
              refine vone rfl (vxq (vfa rfl) rfl rfl ?_)
              refine vone rfl (vxq (vfa rfl) rfl rfl ?_)
              refine vone rfl (vxq (vld1 rfl rfl) rfl rfl ?_)
              refine vone rfl (vxq (vfa rfl) rfl rfl ?_)
              refine vone rfl (vxq (vfa rfl) rfl rfl ?_)
              refine vone rfl (vxs (vst1 rfl rfl rfl rfl) rfl ?_)
              refine vnil ?_
              refine vinblock ?_
              refine vregion ?_
              refine vone rfl (vxq (vmv rfl) rfl rfl ?_)
              refine vone rfl (vxq (vldn rfl rfl) rfl rfl ?_)
              refine vone rfl (vxg (vbs rfl rfl rfl rfl rfl rfl) rfl rfl ?_)
              rintro _ _ ⟨b7, rfl, rfl⟩
              refine vone rfl (vxg (vapp (B := B) (H0 := _) rfl rfl hown perm_two rfl newsB oneI8 (by omega) (by simp only [maxLen]; omega) (by omega)) rfl rfl ?_)
              rintro u _ ⟨B2, hown2, hne, rfl⟩
              refine vone rfl (vxq (vas rfl) rfl rfl ?_)
              refine vnil ?_
              refine vinblock ?_
              refine vregion ?_
              refine vone rfl (vxq (vmv rfl) rfl rfl ?_)
              refine vone rfl (vxq (vadd rfl rfl (by unfold InR; omega)) rfl rfl ?_)
              refine vone rfl (vxq (vas rfl) rfl rfl ?_)
              refine vnil ?_
              exact vback (IH (_, u, B2) ⟨by omega, .inl hne, ends_next hown2⟩ (by show 8 - _ < 8 - _; omega)) ⟨rfl, rfl, rfl, rfl, True.intro⟩ (List.Sublist.append_left (List.Sublist.cons _ (List.Sublist.cons _ (List.Sublist.refl _))) _)
            · skip
              refine vseq ?_
              refine vregion ?_
              refine vone rfl (vxq (veql rfl rfl) rfl rfl ?_)
              refine vone rfl (vxq (vas rfl) rfl rfl ?_)
              refine vnil ?_
              refine vcondd rfl (fun h52 => ?_) (fun h52 => ?_)
              · skip
                obtain rfl : i = 5 := by omega
                refine vregion ?_
                refine vone rfl (vxq (vfa rfl) rfl rfl ?_)
                refine vone rfl (vxq (vfa rfl) rfl rfl ?_)
                refine vone rfl (vxq (vld1 rfl rfl) rfl rfl ?_)
                refine vone rfl (vxq (vfa rfl) rfl rfl ?_)
                refine vone rfl (vxq (vfa rfl) rfl rfl ?_)
                refine vone rfl (vxs (vst1 rfl rfl rfl rfl) rfl ?_)
                refine vnil ?_
                refine vinblock ?_
                refine vregion ?_
                refine vone rfl (vxq (vmv rfl) rfl rfl ?_)
                refine vone rfl (vxq (vldn rfl rfl) rfl rfl ?_)
                refine vone rfl (vxg (vbs rfl rfl rfl rfl rfl rfl) rfl rfl ?_)
                rintro _ _ ⟨b8, rfl, rfl⟩
                refine vone rfl (vxg (vapp (B := B) (H0 := _) rfl rfl hown perm_two rfl newsB oneI8 (by omega) (by simp only [maxLen]; omega) (by omega)) rfl rfl ?_)
                rintro u _ ⟨B2, hown2, hne, rfl⟩
                refine vone rfl (vxq (vas rfl) rfl rfl ?_)
                refine vnil ?_
                refine vinblock ?_
                refine vregion ?_
                refine vone rfl (vxq (vmv rfl) rfl rfl ?_)
                refine vone rfl (vxq (vadd rfl rfl (by unfold InR; omega)) rfl rfl ?_)
                refine vone rfl (vxq (vas rfl) rfl rfl ?_)
                refine vnil ?_
                exact vback (IH (_, u, B2) ⟨by omega, .inl hne, ends_next hown2⟩ (by show 8 - _ < 8 - _; omega)) ⟨rfl, rfl, rfl, rfl, True.intro⟩ (List.Sublist.append_left (List.Sublist.cons _ (List.Sublist.cons _ (List.Sublist.refl _))) _)
              · skip
                refine vseq ?_
                refine vregion ?_
                refine vone rfl (vxq (veql rfl rfl) rfl rfl ?_)
                refine vone rfl (vxq (vas rfl) rfl rfl ?_)
                refine vnil ?_
                refine vcondd rfl (fun h59 => ?_) (fun h59 => ?_)
                · skip
                  obtain rfl : i = 6 := by omega
                  refine vregion ?_
                  refine vone rfl (vxq (vfa rfl) rfl rfl ?_)
                  refine vone rfl (vxq (vfa rfl) rfl rfl ?_)
                  refine vone rfl (vxq (vld1 rfl rfl) rfl rfl ?_)
                  refine vone rfl (vxq (vfa rfl) rfl rfl ?_)
                  refine vone rfl (vxq (vfa rfl) rfl rfl ?_)
                  refine vone rfl (vxs (vst1 rfl rfl rfl rfl) rfl ?_)
                  refine vnil ?_
                  refine vinblock ?_
                  refine vregion ?_
                  refine vone rfl (vxq (vmv rfl) rfl rfl ?_)
                  refine vone rfl (vxq (vldn rfl rfl) rfl rfl ?_)
                  refine vone rfl (vxg (vbs rfl rfl rfl rfl rfl rfl) rfl rfl ?_)
                  rintro _ _ ⟨b9, rfl, rfl⟩
                  refine vone rfl (vxg (vapp (B := B) (H0 := _) rfl rfl hown perm_two rfl newsB oneI8 (by omega) (by simp only [maxLen]; omega) (by omega)) rfl rfl ?_)
                  rintro u _ ⟨B2, hown2, hne, rfl⟩
                  refine vone rfl (vxq (vas rfl) rfl rfl ?_)
                  refine vnil ?_
                  refine vinblock ?_
                  refine vregion ?_
                  refine vone rfl (vxq (vmv rfl) rfl rfl ?_)
                  refine vone rfl (vxq (vadd rfl rfl (by unfold InR; omega)) rfl rfl ?_)
                  refine vone rfl (vxq (vas rfl) rfl rfl ?_)
                  refine vnil ?_
                  exact vback (IH (_, u, B2) ⟨by omega, .inl hne, ends_next hown2⟩ (by show 8 - _ < 8 - _; omega)) ⟨rfl, rfl, rfl, rfl, True.intro⟩ (List.Sublist.append_left (List.Sublist.cons _ (List.Sublist.cons _ (List.Sublist.refl _))) _)
                · skip
                  obtain rfl : i = 7 := by omega
                  refine vregion ?_
                  refine vone rfl (vxq (vfa rfl) rfl rfl ?_)
                  refine vone rfl (vxq (vfa rfl) rfl rfl ?_)
                  refine vone rfl (vxq (vld1 rfl rfl) rfl rfl ?_)
                  refine vone rfl (vxq (vfa rfl) rfl rfl ?_)
                  refine vone rfl (vxq (vfa rfl) rfl rfl ?_)
                  refine vone rfl (vxs (vst1 rfl rfl rfl rfl) rfl ?_)
                  refine vnil ?_
                  refine vinblock ?_
                  refine vregion ?_
                  refine vone rfl (vxq (vmv rfl) rfl rfl ?_)
                  refine vone rfl (vxq (vldn rfl rfl) rfl rfl ?_)
                  refine vone rfl (vxg (vbs rfl rfl rfl rfl rfl rfl) rfl rfl ?_)
                  rintro _ _ ⟨b10, rfl, rfl⟩
                  refine vone rfl (vxg (vapp (B := B) (H0 := _) rfl rfl hown perm_two rfl newsB oneI8 (by omega) (by simp only [maxLen]; omega) (by omega)) rfl rfl ?_)
                  rintro u _ ⟨B2, hown2, hne, rfl⟩
                  refine vone rfl (vxq (vas rfl) rfl rfl ?_)
                  refine vnil ?_
                  refine vinblock ?_
                  refine vregion ?_
                  refine vone rfl (vxq (vmv rfl) rfl rfl ?_)
                  refine vone rfl (vxq (vadd rfl rfl (by unfold InR; omega)) rfl rfl ?_)
                  refine vone rfl (vxq (vas rfl) rfl rfl ?_)
                  refine vnil ?_
                  exact vback (IH (_, u, B2) ⟨by omega, .inl hne, ends_next hown2⟩ (by show 8 - _ < 8 - _; omega)) ⟨rfl, rfl, rfl, rfl, True.intro⟩ (List.Sublist.append_left (List.Sublist.cons _ (List.Sublist.cons _ (List.Sublist.refl _))) _)
  · skip
    refine vexit (k' := _) rfl ?_
    refine vseq ?_
    refine vregion ?_
    refine vone rfl (vxq (vmv rfl) rfl rfl ?_)
    refine vone rfl (vxq (vas rfl) rfl rfl ?_)
    refine vnil ?_
    refine vret (vr1 (H' := _) Try.func59 rfl (.tmp rfl) (by repeat first | exact .refl _ | refine .cons_cons _ ?_ | refine .cons _ ?_ | exact sl0 _ | refine slA ?_) ?_)
    (obtain rfl : i = 8 := (by omega); obtain ⟨a, c, rfl, hS⟩ := OwnS.sloE (enc := encR) (l := (List.range 8).map (endR r)) (fun _ => rfl) (by rw [List.flatMap_map]; exact hown) (by rcases hnn with h | h; exact h; omega); exact ⟨_, rfl, B ++ [(b1, blk (clR r) 25)], (by simp), a, c, rfl, (by have := hS ((b1, blk (clR r) 25) :: H); simpa using this)⟩)
end Go.Proofs.Ytffpfcomikcimaa
