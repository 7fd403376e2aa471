/-
  Walks of Dist and Gap, of both.
-/
import Derived.Test.YtffpfcomikcimaaWj
namespace Go.Proofs.Ytffpfcomikcimaa
open Go
set_option maxRecDepth 100000

attribute [local irreducible] tightP hullP rootP farP rows endsOf pickL sqL sqP twoE
theorem h_firstRP (a : Rg) (p : Pt) (bs : Nat) : VHas Try.prog 110 [.slice (some ⟨bs, 0, Option.none⟩) 2 2] (I (fst2 (chkR a) (chkP p))) [(bs, blk [I (chkR a), I (chkP p)] 27)] [(bs, blk [I (chkR a), I (chkP p)] 27)] := h_first2 (chkR a) (chkP p) bs
theorem frp_z {a : Rg} {p : Pt} (h : ¬ fst2 (chkR a) (chkP p) ≠ 0) : a.ok ∧ p.ok := by
  have h := nn h
  unfold fst2 at h
  by_cases ha : a.ok
  · rw [chkR_ok ha] at h; simp only [ne_eq, not_true_eq_false, if_false] at h
    exact ⟨ha, chkP_zero.1 h⟩
  · rw [chkR_no ha] at h; simp at h
theorem distE_nz {a : Rg} {p : Pt} (h : fst2 (chkR a) (chkP p) ≠ 0) : distE a p = (zB, fst2 (chkR a) (chkP p)) := by
  unfold fst2 at *
  by_cases ha : a.ok
  · rw [chkR_ok ha] at *; simp only [ne_eq, not_true_eq_false, if_false] at *
    rw [distE, if_pos ha, if_neg (chkP_nz.1 h), chkP_no (chkP_nz.1 h)]
  · rw [chkR_no ha]; rw [distE, if_neg ha]; rfl
theorem distE_4 {a : Rg} {p : Pt} (ha : a.ok) (hp : p.ok) (e : (!(sqP a p).isSome) = true) : distE a p = (zB, 4) := by rw [distE, if_pos ha, if_pos hp, optN e]
theorem distE_0 {a : Rg} {p : Pt} (ha : a.ok) (hp : p.ok) (e : (!(sqP a p).isSome) = false) : distE a p = ((sqP a p).getD zB, 0) := by
  obtain ⟨b, hb⟩ := optS e
  rw [distE, if_pos ha, if_pos hp, hb]; rfl
theorem zP_sm : zP.sm 524288 := by unfold Pt.sm zP; simp only; omega
theorem gap_sm (a b : Rg) : ((twoE a b).1.map2 Bd.minus (twoE a b).2.1).sm 524288 := (minus_sm (twoE_sm a b).1 (twoE_sm a b).2).mono (by decide)

/-- paravane/region.Dist -/
theorem c_Dist (r : Rg) (p : Pt) : VPure Try.prog 35 [vR r, vP p] (tup [vB (distE r p).1, I (distE r p).2]) := by
  intro H
  refine vcall_of_vrun Try.func35 rfl (N := 30) rfl rfl ?_
  refine vseq ?_
  refine vregion ?_
  refine vone rfl (vxa (vbox rfl rfl) rfl rfl (fun b1 => ?_))
  refine vone rfl (vxa (vbox rfl rfl) rfl rfl (fun b2 => ?_))
  refine vone rfl (vxa valloc rfl rfl (fun b3 => ?_))
  refine vone rfl (vxq (vas rfl) rfl rfl ?_)
  refine vnil ?_
  refine vseq ?_
  refine vseq ?_
  refine vdraw0 [(.q, 0), (.q, 1), (.q, 2), (.q, 3), (.m, 4), (.n, 5), (.q, 6)] Try.mixed (by kernel_rfl) (by kernel_rfl) ?_
  refine vdq (mone rfl) (vldn rfl rfl) rfl rfl ?_
  refine vdq (mone rfl) (vcp rfl rfl rfl (c_region_Check r)) rfl rfl ?_
  refine vdq (mone rfl) (vldn rfl rfl) rfl rfl ?_
  refine vdq (mone rfl) (vcp rfl rfl rfl (c_region_CheckPoint p)) rfl rfl ?_
  refine vdm (mone rfl) (vbsP rfl rfl rfl rfl rfl rfl) rfl rfl (fun b4 => ?_)
  refine vdn rfl (mone rfl) (vcq rfl rfl rfl ((h_firstRP r p b4).fr1)) rfl rfl ?_
  refine vdq (mone rfl) (vas rfl) rfl rfl ?_
  refine vdend rfl ?_
  refine vseq ?_
  refine vregion ?_
  refine vone rfl (vxq (vmv rfl) rfl rfl ?_)
  refine vone rfl (vxq (vneq rfl rfl) rfl rfl ?_)
  refine vnil ?_
  refine vcondd rfl (fun h16 => ?_) (fun h16 => ?_)
  · skip
    refine vseq ?_
    refine vregion ?_
    refine vone rfl (vxq (vbd rfl rfl) rfl rfl ?_)
    refine vone rfl (vxq (vmv rfl) rfl rfl ?_)
    refine vone rfl (vxs (vstn rfl rfl rfl rfl rfl) rfl ?_)
    refine vone rfl (vxq (vas rfl) rfl rfl ?_)
    refine vnil ?_
    refine vret (vr2 (H' := H) Try.func35 rfl (.celln rfl rfl) (.tmp rfl) (by repeat first | exact .refl _ | refine .cons_cons _ ?_ | refine .cons _ ?_ | exact sl0 _ | refine slA ?_) ?_)
    first | (rw [distE_nz h16]; exact ⟨rfl, rfl⟩) | (rw [distE_4 (frp_z h16).1 (frp_z h16).2 h27]; exact ⟨rfl, rfl⟩) | (rw [distE_0 (frp_z h16).1 (frp_z h16).2 h27]; exact ⟨rfl, rfl⟩)
  · skip
    refine vskip ?_
    refine vseq ?_
    refine vdraw [(.q, 0), (.q, 1), (.q, 2), (.q, 3), (.q, 4), (.q, 5), (.q, 6), (.a (blk [.int .i64 0, .int .i64 0] 23), 7), (.s, 8), (.q, 9)] Try.mixed (by kernel_rfl) ⟨⟨_, _, _, _, _, rfl, _, inferInstance, rfl⟩, True.intro⟩ ?_
    refine vdq (mone rfl) (vldn rfl rfl) rfl rfl ?_
    refine vdq (mone rfl) (vcp rfl rfl rfl (c_region_bounds _ _ _ _ _ _ _ _)) rfl rfl ?_
    refine vdq (mone rfl) (vldn rfl rfl) rfl rfl ?_
    refine vdq (mone rfl) (vcp rfl rfl rfl (c_squares r p ((frp_z h16).1.sm.mono (by decide)) ((frp_z h16).2.sm.mono (by decide)))) rfl rfl ?_
    refine vdq (mone rfl) (vmv rfl) rfl rfl ?_
    refine vdq (mone rfl) (vex rfl rfl) rfl rfl ?_
    refine vdq (mone rfl) (vex rfl rfl) rfl rfl ?_
    refine vda rfl rfl (fun b5 => ?_)
    refine vds (mone rfl) (vstn rfl rfl rfl rfl rfl) rfl ?_
    refine vdq (mone rfl) (vas rfl) rfl rfl ?_
    refine vdend rfl ?_
    refine vseq ?_
    refine vseq ?_
    refine vregion ?_
    refine vone rfl (vxq (vmv rfl) rfl rfl ?_)
    refine vone rfl (vxq (vnot rfl) rfl rfl ?_)
    refine vnil ?_
    refine vcond rfl (fun h27 => ?_) (fun h27 => ?_)
    · skip
      refine vseq ?_
      refine vregion ?_
      refine vone rfl (vxq (vbd rfl rfl) rfl rfl ?_)
      refine vone rfl (vxs (vstn rfl rfl rfl rfl rfl) rfl ?_)
      refine vone rfl (vxq (vas rfl) rfl rfl ?_)
      refine vnil ?_
      refine vret (vr2 (H' := H) Try.func35 rfl (.celln rfl rfl) (.tmp rfl) (by repeat first | exact .refl _ | refine .cons_cons _ ?_ | refine .cons _ ?_ | exact sl0 _ | refine slA ?_) ?_)
      first | (rw [distE_nz h16]; exact ⟨rfl, rfl⟩) | (rw [distE_4 (frp_z h16).1 (frp_z h16).2 h27]; exact ⟨rfl, rfl⟩) | (rw [distE_0 (frp_z h16).1 (frp_z h16).2 h27]; exact ⟨rfl, rfl⟩)
    · skip
      refine vskip ?_
      refine vseq ?_
      refine vregion ?_
      refine vone rfl (vxq (vldn rfl rfl) rfl rfl ?_)
      refine vone rfl (vxs (vstn rfl rfl rfl rfl rfl) rfl ?_)
      refine vone rfl (vxq (vas rfl) rfl rfl ?_)
      refine vnil ?_
      refine vret (vr2 (H' := H) Try.func35 rfl (.celln rfl rfl) (.tmp rfl) (by repeat first | exact .refl _ | refine .cons_cons _ ?_ | refine .cons _ ?_ | exact sl0 _ | refine slA ?_) ?_)
      first | (rw [distE_nz h16]; exact ⟨rfl, rfl⟩) | (rw [distE_4 (frp_z h16).1 (frp_z h16).2 h27]; exact ⟨rfl, rfl⟩) | (rw [distE_0 (frp_z h16).1 (frp_z h16).2 h27]; exact ⟨rfl, rfl⟩)
/-- paravane/region.Gap -/
theorem c_Gap (a b : Rg) : VPure Try.prog 40 [vR a, vR b] (tup [vB (gapE a b).1, I (gapE a b).2]) := by
  intro H
  refine vcall_of_vrun Try.func40 rfl (N := 31) rfl rfl ?_
  refine vseq ?_
  refine vregion ?_
  refine vone rfl (vxa (vbox rfl rfl) rfl rfl (fun b1 => ?_))
  refine vone rfl (vxa (vbox rfl rfl) rfl rfl (fun b2 => ?_))
  refine vone rfl (vxa valloc rfl rfl (fun b3 => ?_))
  refine vone rfl (vxq (vas rfl) rfl rfl ?_)
  refine vnil ?_
  refine vseq ?_
  refine vregion ?_
  refine vone rfl (vxq (vldn rfl rfl) rfl rfl ?_)
  refine vone rfl (vxq (vldn rfl rfl) rfl rfl ?_)
  refine vone rfl (vxq (vcp rfl rfl rfl (c_two a b)) rfl rfl ?_)
  refine vone rfl (vxq (vmv rfl) rfl rfl ?_)
  refine vone rfl (vxq (vex rfl rfl) rfl rfl ?_)
  refine vone rfl (vxq (vex rfl rfl) rfl rfl ?_)
  refine vone rfl (vxq (vex rfl rfl) rfl rfl ?_)
  refine vone rfl (vxa valloc rfl rfl (fun b4 => ?_))
  refine vone rfl (vxa valloc rfl rfl (fun b5 => ?_))
  refine vone rfl (vxs (vstn rfl rfl rfl rfl rfl) rfl ?_)
  refine vone rfl (vxs (vstn rfl rfl rfl rfl rfl) rfl ?_)
  refine vone rfl (vxq (vas rfl) rfl rfl ?_)
  refine vnil ?_
  refine vseq ?_
  refine vseq ?_
  refine vregion ?_
  refine vone rfl (vxq (vmv rfl) rfl rfl ?_)
  refine vone rfl (vxq (vneq rfl rfl) rfl rfl ?_)
  refine vnil ?_
  refine vcondd rfl (fun h19 => ?_) (fun h19 => ?_)
  · skip
    refine vseq ?_
    refine vregion ?_
    refine vone rfl (vxq (vbd rfl rfl) rfl rfl ?_)
    refine vone rfl (vxq (vmv rfl) rfl rfl ?_)
    refine vone rfl (vxs (vstn rfl rfl rfl rfl rfl) rfl ?_)
    refine vone rfl (vxq (vas rfl) rfl rfl ?_)
    refine vnil ?_
    refine vret (vr2 (H' := H) Try.func40 rfl (.celln rfl rfl) (.tmp rfl) (by repeat first | exact .refl _ | refine .cons_cons _ ?_ | refine .cons _ ?_ | exact sl0 _ | refine slA ?_) ?_)
    first | (rw [show gapE a b = (zB, (twoE a b).2.2) from if_neg h19]; exact ⟨rfl, rfl⟩) | (rw [show gapE a b = ((sqP ((twoE a b).1.map2 Bd.minus (twoE a b).2.1) zP).getD zB, 0) from if_pos (nn h19)]; exact ⟨rfl, rfl⟩)
  · skip
    refine vskip ?_
    refine vseq ?_
    refine vregion ?_
    refine vone rfl (vxq (vldn rfl rfl) rfl rfl ?_)
    refine vone rfl (vxq (vldn rfl rfl) rfl rfl ?_)
    refine vone rfl (vxq (vcp rfl rfl rfl (c_minus4 (twoE a b).1 (twoE a b).2.1 ((twoE_sm a b).1.mono (by decide)) ((twoE_sm a b).2.mono (by decide)))) rfl rfl ?_)
    refine vone rfl (vxq (vbd rfl rfl) rfl rfl ?_)
    refine vone rfl (vxq (vcp rfl rfl rfl (c_squares ((twoE a b).1.map2 Bd.minus (twoE a b).2.1) zP (gap_sm a b) zP_sm)) rfl rfl ?_)
    refine vone rfl (vxq (vmv rfl) rfl rfl ?_)
    refine vone rfl (vxq (vex rfl rfl) rfl rfl ?_)
    refine vone rfl (vxq (vex rfl rfl) rfl rfl ?_)
    refine vone rfl (vxa valloc rfl rfl (fun b6 => ?_))
    refine vone rfl (vxs (vstn rfl rfl rfl rfl rfl) rfl ?_)
    refine vone rfl (vxq (vas rfl) rfl rfl ?_)
    refine vnil ?_
    refine vseq ?_
    refine vregion ?_
    refine vone rfl (vxq (vldn rfl rfl) rfl rfl ?_)
    refine vone rfl (vxs (vstn rfl rfl rfl rfl rfl) rfl ?_)
    refine vone rfl (vxq (vas rfl) rfl rfl ?_)
    refine vnil ?_
    refine vret (vr2 (H' := H) Try.func40 rfl (.celln rfl rfl) (.tmp rfl) (by repeat first | exact .refl _ | refine .cons_cons _ ?_ | refine .cons _ ?_ | exact sl0 _ | refine slA ?_) ?_)
    first | (rw [show gapE a b = (zB, (twoE a b).2.2) from if_neg h19]; exact ⟨rfl, rfl⟩) | (rw [show gapE a b = ((sqP ((twoE a b).1.map2 Bd.minus (twoE a b).2.1) zP).getD zB, 0) from if_pos (nn h19)]; exact ⟨rfl, rfl⟩)
/-- paravane/paravaneref01.square -/
theorem c_square (a b : Int) (ha : -1048576 ≤ a ∧ a ≤ 1048576) (hb : -1048576 ≤ b ∧ b ≤ 1048576) : VPure Try.prog 148 [I a, I b] (I (a * a + b * b)) := by
  have h1 := abs_mul_bd ha ha
  have h2 := abs_mul_bd hb hb
  intro H
  refine vcall_of_vrun Try.func148 rfl (N := 12) rfl rfl ?_
  refine vseq ?_
  refine vregion ?_
  refine vone rfl (vxq (vas rfl) rfl rfl ?_)
  refine vnil ?_
  refine vseq ?_
  refine vregion ?_
  refine vone rfl (vxq (vmv rfl) rfl rfl ?_)
  refine vone rfl (vxq (vmv rfl) rfl rfl ?_)
  refine vone rfl (vxq (vmul rfl rfl (by unfold InR; omega)) rfl rfl ?_)
  refine vone rfl (vxq (vmv rfl) rfl rfl ?_)
  refine vone rfl (vxq (vmv rfl) rfl rfl ?_)
  refine vone rfl (vxq (vmul rfl rfl (by unfold InR; omega)) rfl rfl ?_)
  refine vone rfl (vxq (vadd rfl rfl (by unfold InR; omega)) rfl rfl ?_)
  refine vone rfl (vxq (vas rfl) rfl rfl ?_)
  refine vnil ?_
  refine vret (vr1 (H' := H) Try.func148 rfl (.tmp rfl) (by repeat first | exact .refl _ | refine .cons_cons _ ?_ | refine .cons _ ?_ | exact sl0 _ | refine slA ?_) ?_)
  exact ⟨rfl, rfl⟩

abbrev sqX (f : Rg) (p : Pt) (x : Int) : Option Bd := sqL ((rowsN f (x - f.x.lo).toNat).map (sqI p))
theorem sqX_0 (f : Rg) (p : Pt) : sqX f p f.x.lo = none := by unfold sqX; rw [Int.sub_self]; unfold sqL; rfl
theorem sqL_snoc (l : List Bd) (i : Bd) : sqL (l ++ [i]) = sqS (sqL l) i := by unfold sqL; simp
theorem sqX_no {f : Rg} {p : Pt} {x : Int} (hx : f.x.lo ≤ x) (h : ¬ (rowOf f x).a ≤ (rowOf f x).b) : sqX f p (x + 1) = sqX f p x := by unfold sqX; rw [rowsN_nil hx h]
theorem sqX_yes {f : Rg} {p : Pt} {x : Int} (hx : f.x.lo ≤ x) (h : (rowOf f x).a ≤ (rowOf f x).b) : sqX f p (x + 1) = sqS (sqX f p x) (sqI p (rowOf f x)) := by unfold sqX; rw [rowsN_one hx h, map_snoc, sqL_snoc]
theorem row_mem {f : Rg} {x : Int} (h1 : f.x.lo ≤ x) (h2 : x ≤ f.x.hi) (h : (rowOf f x).a ≤ (rowOf f x).b) : rowOf f x ∈ rows f := mem_rows.2 ⟨⟨h1, h2⟩, rfl, h⟩
theorem sqX_end {f : Rg} {p : Pt} {x : Int} (h1 : f.x.lo ≤ x) (h2 : x = f.x.lo ∨ x ≤ f.x.hi + 1) (h3 : ¬ x ≤ f.x.hi) : sqX f p x = sqP f p := by unfold sqX sqP; rw [rowsN_end h1 h2 h3]
theorem ov_cong {P : Program} {N : Nat} {E : Env} {D : List Deferred} {H : Heap} {o : Oper} {v v' : Value} (h : OQ P N E D H o v) (e : v = v') : OQ P N E D H o v' := e ▸ h
theorem max_add (c a b : Int) : max (c + a) (c + b) = c + max a b := by omega

/-- paravane/paravaneref01.lengths -/
theorem c_lengths (f : Rg) (p : Pt) (hf : f.sm 524288) (hp : p.sm 524288) : VPure Try.prog 112 [vR f, vP p] (tup [vB ((sqP f p).getD zB), .bool (sqP f p).isSome]) := by
  have hf2 := hf
  have hp2 := hp
  unfold Rg.sm Bd.sm at hf2
  unfold Pt.sm at hp2
  intro H
  refine vcall_of_vrun Try.func112 rfl (N := 82) rfl rfl ?_
  refine vseq ?_
  refine vregion ?_
  refine vone rfl (vxa (vbox rfl rfl) rfl rfl (fun b1 => ?_))
  refine vone rfl (vxa (vbox rfl rfl) rfl rfl (fun b2 => ?_))
  refine vone rfl (vxa valloc rfl rfl (fun b3 => ?_))
  refine vone rfl (vxq (vas rfl) rfl rfl ?_)
  refine vnil ?_
  refine vseq ?_
  refine vregion ?_
  refine vone rfl (vxa valloc rfl rfl (fun b4 => ?_))
  refine vnil ?_
  refine vseq ?_
  refine vregion ?_
  refine vone rfl (vxq (vas rfl) rfl rfl ?_)
  refine vnil ?_
  refine vseq ?_
  refine vseq ?_
  refine vregion ?_
  refine vone rfl (vxq (vfa rfl) rfl rfl ?_)
  refine vone rfl (vxq (vfa rfl) rfl rfl ?_)
  refine vone rfl (vxq (vld1 rfl rfl) rfl rfl ?_)
  refine vone rfl (vxq (vas rfl) rfl rfl ?_)
  refine vnil ?_
  refine vblock ?_
  refine vwhile (σ := Int) (fun x => (f.x.hi + 1 - x).toNat) (fun x => [(2, ptr b1), (3, ptr b2), (4, ptr b3), (5, .bool false), (6, ptr b4), (7, .bool (sqX f p x).isSome), (8, I x)]) (fun x => (b4, blk (clB ((sqX f p x).getD zB)) 23) :: (b3, blk (clB zB) 23) :: (b2, blk [I p.x, I p.y] 36) :: (b1, blk (clR f) 25) :: H) (fun x => f.x.lo ≤ x ∧ (x = f.x.lo ∨ x ≤ f.x.hi + 1)) f.x.lo ⟨by omega, .inl rfl⟩ ⟨rfl, rfl, rfl, rfl, rfl, by rw [sqX_0]; rfl, rfl, True.intro⟩ (by show List.Sublist ((b4, blk (clB ((sqX f p f.x.lo).getD zB)) 23) :: _) _; rw [sqX_0]; exact (by repeat first | exact .refl _ | refine .cons_cons _ ?_ | refine .cons _ ?_ | exact sl0 _ | refine slA ?_)) ?_
  rintro x ⟨hx1, hx2⟩ IH
  change VRun _ _ _ _ _ [(2, ptr b1), (3, ptr b2), (4, ptr b3), (5, .bool false), (6, ptr b4), (7, .bool (sqX f p x).isSome), (8, I x)] _ ((b4, blk (clB ((sqX f p x).getD zB)) 23) :: (b3, blk (clB zB) 23) :: (b2, blk [I p.x, I p.y] 36) :: (b1, blk (clR f) 25) :: H) _
  refine vseq ?_
  refine vseq ?_
  refine vregion ?_
  refine vone rfl (vxq (vmv rfl) rfl rfl ?_)
  refine vone rfl (vxq (vfa rfl) rfl rfl ?_)
  refine vone rfl (vxq (vfa rfl) rfl rfl ?_)
  refine vone rfl (vxq (vld1 rfl rfl) rfl rfl ?_)
  refine vone rfl (vxq (vleq rfl rfl) rfl rfl ?_)
  refine vnil ?_
  refine vcondd rfl (fun h19 => ?_) (fun h19 => ?_)
  · skip
    refine vskip ?_
    refine vseq ?_
    refine vblock ?_
    refine vseq ?_
    refine vregion ?_
    refine vone rfl (vxq (vldn rfl rfl) rfl rfl ?_)
    refine vone rfl (vxq (vmv rfl) rfl rfl ?_)
    refine vone rfl (vxq (vcp rfl rfl rfl (c_row f x (hf.mono (by decide)) (by omega))) rfl rfl ?_)
    refine vone rfl (vxa valloc rfl rfl (fun b5 => ?_))
    refine vone rfl (vxs (vstn rfl rfl rfl rfl rfl) rfl ?_)
    refine vnil ?_
    refine vseq ?_
    refine vseq ?_
    refine vregion ?_
    refine vone rfl (vxq (vfa rfl) rfl rfl ?_)
    refine vone rfl (vxq (vld1 rfl rfl) rfl rfl ?_)
    refine vone rfl (vxq (vfa rfl) rfl rfl ?_)
    refine vone rfl (vxq (vld1 rfl rfl) rfl rfl ?_)
    refine vone rfl (vxq (vgtr rfl rfl) rfl rfl ?_)
    refine vnil ?_
    refine vcondd rfl (fun h29 => ?_) (fun h29 => ?_)
    · skip
      refine vexit (k' := _) rfl ?_
      refine vregion ?_
      refine vone rfl (vxq (vmv rfl) rfl rfl ?_)
      refine vone rfl (vxq (vadd rfl rfl (by first | (unfold InR; omega) | (simp only [nearY] at hbd; unfold InR; omega))) rfl rfl ?_)
      refine vone rfl (vxq (vas rfl) rfl rfl ?_)
      refine vnil ?_
      first
        | (have he : sqX f p (x + 1) = sqX f p x := sqX_no hx1 (by omega)
           exact vback (IH (x + 1) ⟨by omega, by omega⟩ (by show (_ : Int).toNat < (_ : Int).toNat; omega)) ⟨rfl, rfl, rfl, rfl, rfl, by rw [he]; rfl, rfl, True.intro⟩ (by rw [he]; exact (by repeat first | exact .refl _ | refine .cons_cons _ ?_ | refine .cons _ ?_ | exact sl0 _ | refine slA ?_)))
        | (have he : sqX f p (x + 1) = some ((sqI p (rowOf f x)).span (sqI p (rowOf f x))) := by rw [sqX_yes hx1 (by omega), optN (h := sqX f p x) h67]; rfl
           exact vback (IH (x + 1) ⟨by omega, by omega⟩ (by show (_ : Int).toNat < (_ : Int).toNat; omega)) ⟨rfl, rfl, rfl, rfl, rfl, by rw [he]; rfl, rfl, True.intro⟩ (by rw [he]; exact (by repeat first | exact .refl _ | refine .cons_cons _ ?_ | refine .cons _ ?_ | exact sl0 _ | refine slA ?_)))
        | (obtain ⟨gg, hg⟩ := optS (h := sqX f p x) h67
           have he : sqX f p (x + 1) = some (((sqX f p x).getD zB).span (sqI p (rowOf f x))) := by rw [sqX_yes hx1 (by omega), hg]; rfl
           exact vback (IH (x + 1) ⟨by omega, by omega⟩ (by show (_ : Int).toNat < (_ : Int).toNat; omega)) ⟨rfl, rfl, rfl, rfl, rfl, by rw [he, hg]; rfl, rfl, True.intro⟩ (by rw [he]; exact (by repeat first | exact .refl _ | refine .cons_cons _ ?_ | refine .cons _ ?_ | exact sl0 _ | refine slA ?_)))
    · skip
      have hbd := sqI_bd hf hp (row_mem hx1 h19 (by omega))
      refine vskip ?_
      refine vseq ?_
      refine vdraw0 [(.q, 0), (.q, 1), (.q, 2), (.q, 3), (.q, 4), (.q, 5), (.q, 6), (.q, 7), (.q, 8), (.q, 9), (.q, 10), (.q, 11), (.q, 12), (.q, 13), (.q, 14), (.q, 15)] Try.mixed (by kernel_rfl) (by kernel_rfl) ?_
      refine vdq (mone rfl) (vmv rfl) rfl rfl ?_
      refine vdq (mone rfl) (vfa rfl) rfl rfl ?_
      refine vdq (mone rfl) (vld1 rfl rfl) rfl rfl ?_
      refine vdq (mone rfl) (vsub rfl rfl (by first | (unfold InR; omega) | (simp only [nearY] at hbd; unfold InR; omega))) rfl rfl ?_
      refine vdq (mone rfl) (vfa rfl) rfl rfl ?_
      refine vdq (mone rfl) (vld1 rfl rfl) rfl rfl ?_
      refine vdq (mone rfl) (vfa rfl) rfl rfl ?_
      refine vdq (mone rfl) (vld1 rfl rfl) rfl rfl ?_
      refine vdq (mone rfl) (vfa rfl) rfl rfl ?_
      refine vdq (mone rfl) (vld1 rfl rfl) rfl rfl ?_
      refine vdq (mone rfl) (vcp rfl rfl rfl (c_ref00_Into _ _ _)) rfl rfl ?_
      refine vdq (mone rfl) (vfa rfl) rfl rfl ?_
      refine vdq (mone rfl) (vld1 rfl rfl) rfl rfl ?_
      refine vdq (mone rfl) (vsub rfl rfl (by first | (unfold InR; omega) | (simp only [nearY] at hbd; unfold InR; omega))) rfl rfl ?_
      refine vdq (mone rfl) (vcp rfl rfl rfl ((c_square (x - p.x) (nearY p (rowOf f x)) hbd.1.1 hbd.1.2.1))) rfl rfl ?_
      refine vdq (mone rfl) (vas rfl) rfl rfl ?_
      refine vdend rfl ?_
      refine vseq ?_
      refine vdraw0 [(.q, 0), (.q, 1), (.q, 2), (.q, 3), (.q, 4), (.q, 5), (.q, 6), (.q, 7), (.q, 8), (.q, 9), (.q, 10), (.q, 11), (.q, 12), (.q, 13), (.q, 14), (.q, 15), (.q, 16), (.q, 17), (.q, 18), (.q, 19), (.q, 20), (.q, 21)] Try.mixed (by kernel_rfl) (by kernel_rfl) ?_
      refine vdq (mone rfl) (vmv rfl) rfl rfl ?_
      refine vdq (mone rfl) (vfa rfl) rfl rfl ?_
      refine vdq (mone rfl) (vld1 rfl rfl) rfl rfl ?_
      refine vdq (mone rfl) (vsub rfl rfl (by first | (unfold InR; omega) | (simp only [nearY] at hbd; unfold InR; omega))) rfl rfl ?_
      refine vdq (mone rfl) (vfa rfl) rfl rfl ?_
      refine vdq (mone rfl) (vld1 rfl rfl) rfl rfl ?_
      refine vdq (mone rfl) (vfa rfl) rfl rfl ?_
      refine vdq (mone rfl) (vld1 rfl rfl) rfl rfl ?_
      refine vdq (mone rfl) (vsub rfl rfl (by first | (unfold InR; omega) | (simp only [nearY] at hbd; unfold InR; omega))) rfl rfl ?_
      refine vdq (mone rfl) (vcp rfl rfl rfl (c_square (x - p.x) ((rowOf f x).a - p.y) hbd.1.1 hbd.1.2.2.1)) rfl rfl ?_
      refine vdq (mone rfl) (vmv rfl) rfl rfl ?_
      refine vdq (mone rfl) (vfa rfl) rfl rfl ?_
      refine vdq (mone rfl) (vld1 rfl rfl) rfl rfl ?_
      refine vdq (mone rfl) (vsub rfl rfl (by first | (unfold InR; omega) | (simp only [nearY] at hbd; unfold InR; omega))) rfl rfl ?_
      refine vdq (mone rfl) (vfa rfl) rfl rfl ?_
      refine vdq (mone rfl) (vld1 rfl rfl) rfl rfl ?_
      refine vdq (mone rfl) (vfa rfl) rfl rfl ?_
      refine vdq (mone rfl) (vld1 rfl rfl) rfl rfl ?_
      refine vdq (mone rfl) (vsub rfl rfl (by first | (unfold InR; omega) | (simp only [nearY] at hbd; unfold InR; omega))) rfl rfl ?_
      refine vdq (mone rfl) (vcp rfl rfl rfl (c_square (x - p.x) ((rowOf f x).b - p.y) hbd.1.1 hbd.1.2.2.2)) rfl rfl ?_
      refine vdq (mone rfl) (ov_cong (vmax2 rfl rfl) (congrArg I (max_add _ _ _))) rfl rfl ?_
      refine vdq (mone rfl) (vas rfl) rfl rfl ?_
      refine vdend rfl ?_
      refine vseq ?_
      refine vseq ?_
      refine vregion ?_
      refine vone rfl (vxq (vmv rfl) rfl rfl ?_)
      refine vone rfl (vxq (vnot rfl) rfl rfl ?_)
      refine vnil ?_
      refine vcond rfl (fun h67 => ?_) (fun h67 => ?_)
      · skip
        refine vregion ?_
        refine vone rfl (vxq (vmv rfl) rfl rfl ?_)
        refine vone rfl (vxq (vmv rfl) rfl rfl ?_)
        refine vone rfl (vxq (vbd rfl rfl) rfl rfl ?_)
        refine vone rfl (vxs (vstn rfl rfl rfl rfl rfl) rfl ?_)
        refine vone rfl (vxq (vas rfl) rfl rfl ?_)
        refine vnil ?_
        refine vregion ?_
        refine vone rfl (vxq (vfa rfl) rfl rfl ?_)
        refine vone rfl (vxq (vld1 rfl rfl) rfl rfl ?_)
        refine vone rfl (vxq (vmv rfl) rfl rfl ?_)
        refine vone rfl (vxq (vmin2 rfl rfl) rfl rfl ?_)
        refine vone rfl (vxq (vfa rfl) rfl rfl ?_)
        refine vone rfl (vxq (vld1 rfl rfl) rfl rfl ?_)
        refine vone rfl (vxq (vmv rfl) rfl rfl ?_)
        refine vone rfl (vxq (vmax2 rfl rfl) rfl rfl ?_)
        refine vone rfl (vxq (vbd rfl rfl) rfl rfl ?_)
        refine vone rfl (vxs (vstn rfl rfl rfl rfl rfl) rfl ?_)
        refine vnil ?_
        refine vinblock ?_
        refine vregion ?_
        refine vone rfl (vxq (vmv rfl) rfl rfl ?_)
        refine vone rfl (vxq (vadd rfl rfl (by first | (unfold InR; omega) | (simp only [nearY] at hbd; unfold InR; omega))) rfl rfl ?_)
        refine vone rfl (vxq (vas rfl) rfl rfl ?_)
        refine vnil ?_
        first
          | (have he : sqX f p (x + 1) = sqX f p x := sqX_no hx1 (by omega)
             exact vback (IH (x + 1) ⟨by omega, by omega⟩ (by show (_ : Int).toNat < (_ : Int).toNat; omega)) ⟨rfl, rfl, rfl, rfl, rfl, by rw [he]; rfl, rfl, True.intro⟩ (by rw [he]; exact (by repeat first | exact .refl _ | refine .cons_cons _ ?_ | refine .cons _ ?_ | exact sl0 _ | refine slA ?_)))
          | (have he : sqX f p (x + 1) = some ((sqI p (rowOf f x)).span (sqI p (rowOf f x))) := by rw [sqX_yes hx1 (by omega), optN (h := sqX f p x) h67]; rfl
             exact vback (IH (x + 1) ⟨by omega, by omega⟩ (by show (_ : Int).toNat < (_ : Int).toNat; omega)) ⟨rfl, rfl, rfl, rfl, rfl, by rw [he]; rfl, rfl, True.intro⟩ (by rw [he]; exact (by repeat first | exact .refl _ | refine .cons_cons _ ?_ | refine .cons _ ?_ | exact sl0 _ | refine slA ?_)))
          | (obtain ⟨gg, hg⟩ := optS (h := sqX f p x) h67
             have he : sqX f p (x + 1) = some (((sqX f p x).getD zB).span (sqI p (rowOf f x))) := by rw [sqX_yes hx1 (by omega), hg]; rfl
             exact vback (IH (x + 1) ⟨by omega, by omega⟩ (by show (_ : Int).toNat < (_ : Int).toNat; omega)) ⟨rfl, rfl, rfl, rfl, rfl, by rw [he, hg]; rfl, rfl, True.intro⟩ (by rw [he]; exact (by repeat first | exact .refl _ | refine .cons_cons _ ?_ | refine .cons _ ?_ | exact sl0 _ | refine slA ?_)))
      · skip
        refine vskip ?_
        refine vregion ?_
        refine vone rfl (vxq (vfa rfl) rfl rfl ?_)
        refine vone rfl (vxq (vld1 rfl rfl) rfl rfl ?_)
        refine vone rfl (vxq (vmv rfl) rfl rfl ?_)
        refine vone rfl (vxq (vmin2 rfl rfl) rfl rfl ?_)
        refine vone rfl (vxq (vfa rfl) rfl rfl ?_)
        refine vone rfl (vxq (vld1 rfl rfl) rfl rfl ?_)
        refine vone rfl (vxq (vmv rfl) rfl rfl ?_)
        refine vone rfl (vxq (vmax2 rfl rfl) rfl rfl ?_)
        refine vone rfl (vxq (vbd rfl rfl) rfl rfl ?_)
        refine vone rfl (vxs (vstn rfl rfl rfl rfl rfl) rfl ?_)
        refine vnil ?_
        refine vinblock ?_
        refine vregion ?_
        refine vone rfl (vxq (vmv rfl) rfl rfl ?_)
        refine vone rfl (vxq (vadd rfl rfl (by first | (unfold InR; omega) | (simp only [nearY] at hbd; unfold InR; omega))) rfl rfl ?_)
        refine vone rfl (vxq (vas rfl) rfl rfl ?_)
        refine vnil ?_
        first
          | (have he : sqX f p (x + 1) = sqX f p x := sqX_no hx1 (by omega)
             exact vback (IH (x + 1) ⟨by omega, by omega⟩ (by show (_ : Int).toNat < (_ : Int).toNat; omega)) ⟨rfl, rfl, rfl, rfl, rfl, by rw [he]; rfl, rfl, True.intro⟩ (by rw [he]; exact (by repeat first | exact .refl _ | refine .cons_cons _ ?_ | refine .cons _ ?_ | exact sl0 _ | refine slA ?_)))
          | (have he : sqX f p (x + 1) = some ((sqI p (rowOf f x)).span (sqI p (rowOf f x))) := by rw [sqX_yes hx1 (by omega), optN (h := sqX f p x) h67]; rfl
             exact vback (IH (x + 1) ⟨by omega, by omega⟩ (by show (_ : Int).toNat < (_ : Int).toNat; omega)) ⟨rfl, rfl, rfl, rfl, rfl, by rw [he]; rfl, rfl, True.intro⟩ (by rw [he]; exact (by repeat first | exact .refl _ | refine .cons_cons _ ?_ | refine .cons _ ?_ | exact sl0 _ | refine slA ?_)))
          | (obtain ⟨gg, hg⟩ := optS (h := sqX f p x) h67
             have he : sqX f p (x + 1) = some (((sqX f p x).getD zB).span (sqI p (rowOf f x))) := by rw [sqX_yes hx1 (by omega), hg]; rfl
             exact vback (IH (x + 1) ⟨by omega, by omega⟩ (by show (_ : Int).toNat < (_ : Int).toNat; omega)) ⟨rfl, rfl, rfl, rfl, rfl, by rw [he, hg]; rfl, rfl, True.intro⟩ (by rw [he]; exact (by repeat first | exact .refl _ | refine .cons_cons _ ?_ | refine .cons _ ?_ | exact sl0 _ | refine slA ?_)))
  · skip
    refine vexit (k' := _) rfl ?_
    refine vseq ?_
    refine vregion ?_
    refine vone rfl (vxq (vldn rfl rfl) rfl rfl ?_)
    refine vone rfl (vxq (vmv rfl) rfl rfl ?_)
    refine vone rfl (vxs (vstn rfl rfl rfl rfl rfl) rfl ?_)
    refine vone rfl (vxq (vas rfl) rfl rfl ?_)
    refine vnil ?_
    refine vret (vr2 (H' := H) Try.func112 rfl (.celln rfl rfl) (.tmp rfl) (by repeat first | exact .refl _ | refine .cons_cons _ ?_ | refine .cons _ ?_ | exact sl0 _ | refine slA ?_) ?_)
    exact ⟨oT (by rw [← sqX_end hx1 hx2 h19]), rfl⟩
theorem nn2 {p : Prop} (h : ¬ ¬ p) : p := Classical.not_not.1 h
/-- paravane/paravaneref01.Dist -/
theorem c_ref_Dist (r : Rg) (p : Pt) : VPure Try.prog 36 [vR r, vP p] (tup [vB (distE r p).1, I (distE r p).2]) := by
  intro H
  refine vcall_of_vrun Try.func36 rfl (N := 29) rfl rfl ?_
  refine vseq ?_
  refine vregion ?_
  refine vone rfl (vxa (vbox rfl rfl) rfl rfl (fun b1 => ?_))
  refine vone rfl (vxa (vbox rfl rfl) rfl rfl (fun b2 => ?_))
  refine vone rfl (vxa valloc rfl rfl (fun b3 => ?_))
  refine vone rfl (vxq (vas rfl) rfl rfl ?_)
  refine vnil ?_
  refine vseq ?_
  refine vseq ?_
  refine vregion ?_
  refine vone rfl (vxq (vldn rfl rfl) rfl rfl ?_)
  refine vone rfl (vxq (vcp rfl rfl rfl (c_ref_Check r)) rfl rfl ?_)
  refine vone rfl (vxq (vas rfl) rfl rfl ?_)
  refine vnil ?_
  refine vseq ?_
  refine vregion ?_
  refine vone rfl (vxq (vmv rfl) rfl rfl ?_)
  refine vone rfl (vxq (vneq rfl rfl) rfl rfl ?_)
  refine vnil ?_
  refine vcondd rfl (fun h12 => ?_) (fun h12 => ?_)
  · skip
    refine vseq ?_
    refine vregion ?_
    refine vone rfl (vxq (vbd rfl rfl) rfl rfl ?_)
    refine vone rfl (vxq (vmv rfl) rfl rfl ?_)
    refine vone rfl (vxs (vstn rfl rfl rfl rfl rfl) rfl ?_)
    refine vone rfl (vxq (vas rfl) rfl rfl ?_)
    refine vnil ?_
    refine vret (vr2 (H' := H) Try.func36 rfl (.celln rfl rfl) (.tmp rfl) (by repeat first | exact .refl _ | refine .cons_cons _ ?_ | refine .cons _ ?_ | exact sl0 _ | refine slA ?_) ?_)
    first | (rw [distE_nz (p := p) (show fst2 (chkR r) (chkP p) ≠ 0 by unfold fst2; rw [if_pos h12]; exact h12), show fst2 (chkR r) (chkP p) = chkR r from if_pos h12]; exact ⟨rfl, rfl⟩) | (rw [show distE r p = (zB, 10) by rw [distE, if_pos (ok_c h12), if_neg h17]]; exact ⟨rfl, rfl⟩) | (rw [distE_4 (ok_c h12) (nn2 h17) h26]; exact ⟨rfl, rfl⟩) | (rw [distE_0 (ok_c h12) (nn2 h17) h26]; exact ⟨rfl, rfl⟩)
  · skip
    refine vskip ?_
    refine vseq ?_
    refine vseq ?_
    refine vregion ?_
    refine vone rfl (vxq (vldn rfl rfl) rfl rfl ?_)
    refine vone rfl (vxq (vcp rfl rfl rfl (c_place p)) rfl rfl ?_)
    refine vone rfl (vxq (vnotd rfl) rfl rfl ?_)
    refine vnil ?_
    refine vcondd rfl (fun h17 => ?_) (fun h17 => ?_)
    · skip
      refine vseq ?_
      refine vregion ?_
      refine vone rfl (vxq (vbd rfl rfl) rfl rfl ?_)
      refine vone rfl (vxs (vstn rfl rfl rfl rfl rfl) rfl ?_)
      refine vone rfl (vxq (vas rfl) rfl rfl ?_)
      refine vnil ?_
      refine vret (vr2 (H' := H) Try.func36 rfl (.celln rfl rfl) (.tmp rfl) (by repeat first | exact .refl _ | refine .cons_cons _ ?_ | refine .cons _ ?_ | exact sl0 _ | refine slA ?_) ?_)
      first | (rw [distE_nz (p := p) (show fst2 (chkR r) (chkP p) ≠ 0 by unfold fst2; rw [if_pos h12]; exact h12), show fst2 (chkR r) (chkP p) = chkR r from if_pos h12]; exact ⟨rfl, rfl⟩) | (rw [show distE r p = (zB, 10) by rw [distE, if_pos (ok_c h12), if_neg h17]]; exact ⟨rfl, rfl⟩) | (rw [distE_4 (ok_c h12) (nn2 h17) h26]; exact ⟨rfl, rfl⟩) | (rw [distE_0 (ok_c h12) (nn2 h17) h26]; exact ⟨rfl, rfl⟩)
    · skip
      refine vskip ?_
      refine vseq ?_
      refine vregion ?_
      refine vone rfl (vxq (vldn rfl rfl) rfl rfl ?_)
      refine vone rfl (vxq (vldn rfl rfl) rfl rfl ?_)
      refine vone rfl (vxq (vcp rfl rfl rfl (c_lengths r p ((ok_c h12).sm.mono (by decide)) ((nn2 h17).sm.mono (by decide)))) rfl rfl ?_)
      refine vone rfl (vxq (vmv rfl) rfl rfl ?_)
      refine vone rfl (vxq (vex rfl rfl) rfl rfl ?_)
      refine vone rfl (vxq (vex rfl rfl) rfl rfl ?_)
      refine vone rfl (vxa valloc rfl rfl (fun b4 => ?_))
      refine vone rfl (vxs (vstn rfl rfl rfl rfl rfl) rfl ?_)
      refine vone rfl (vxq (vas rfl) rfl rfl ?_)
      refine vnil ?_
      refine vseq ?_
      refine vseq ?_
      refine vregion ?_
      refine vone rfl (vxq (vmv rfl) rfl rfl ?_)
      refine vone rfl (vxq (vnot rfl) rfl rfl ?_)
      refine vnil ?_
      refine vcond rfl (fun h26 => ?_) (fun h26 => ?_)
      · skip
        refine vseq ?_
        refine vregion ?_
        refine vone rfl (vxq (vbd rfl rfl) rfl rfl ?_)
        refine vone rfl (vxs (vstn rfl rfl rfl rfl rfl) rfl ?_)
        refine vone rfl (vxq (vas rfl) rfl rfl ?_)
        refine vnil ?_
        refine vret (vr2 (H' := H) Try.func36 rfl (.celln rfl rfl) (.tmp rfl) (by repeat first | exact .refl _ | refine .cons_cons _ ?_ | refine .cons _ ?_ | exact sl0 _ | refine slA ?_) ?_)
        first | (rw [distE_nz (p := p) (show fst2 (chkR r) (chkP p) ≠ 0 by unfold fst2; rw [if_pos h12]; exact h12), show fst2 (chkR r) (chkP p) = chkR r from if_pos h12]; exact ⟨rfl, rfl⟩) | (rw [show distE r p = (zB, 10) by rw [distE, if_pos (ok_c h12), if_neg h17]]; exact ⟨rfl, rfl⟩) | (rw [distE_4 (ok_c h12) (nn2 h17) h26]; exact ⟨rfl, rfl⟩) | (rw [distE_0 (ok_c h12) (nn2 h17) h26]; exact ⟨rfl, rfl⟩)
      · skip
        refine vskip ?_
        refine vseq ?_
        refine vregion ?_
        refine vone rfl (vxq (vldn rfl rfl) rfl rfl ?_)
        refine vone rfl (vxs (vstn rfl rfl rfl rfl rfl) rfl ?_)
        refine vone rfl (vxq (vas rfl) rfl rfl ?_)
        refine vnil ?_
        refine vret (vr2 (H' := H) Try.func36 rfl (.celln rfl rfl) (.tmp rfl) (by repeat first | exact .refl _ | refine .cons_cons _ ?_ | refine .cons _ ?_ | exact sl0 _ | refine slA ?_) ?_)
        first | (rw [distE_nz (p := p) (show fst2 (chkR r) (chkP p) ≠ 0 by unfold fst2; rw [if_pos h12]; exact h12), show fst2 (chkR r) (chkP p) = chkR r from if_pos h12]; exact ⟨rfl, rfl⟩) | (rw [show distE r p = (zB, 10) by rw [distE, if_pos (ok_c h12), if_neg h17]]; exact ⟨rfl, rfl⟩) | (rw [distE_4 (ok_c h12) (nn2 h17) h26]; exact ⟨rfl, rfl⟩) | (rw [distE_0 (ok_c h12) (nn2 h17) h26]; exact ⟨rfl, rfl⟩)
/-- paravane/paravaneref01.Gap -/
theorem c_ref_Gap (a b : Rg) : VPure Try.prog 58 [vR a, vR b] (tup [vB (gapE a b).1, I (gapE a b).2]) := by
  intro H
  refine vcall_of_vrun Try.func58 rfl (N := 32) rfl rfl ?_
  refine vseq ?_
  refine vregion ?_
  refine vone rfl (vxa (vbox rfl rfl) rfl rfl (fun b1 => ?_))
  refine vone rfl (vxa (vbox rfl rfl) rfl rfl (fun b2 => ?_))
  refine vone rfl (vxa valloc rfl rfl (fun b3 => ?_))
  refine vone rfl (vxq (vas rfl) rfl rfl ?_)
  refine vnil ?_
  refine vseq ?_
  refine vregion ?_
  refine vone rfl (vxq (vldn rfl rfl) rfl rfl ?_)
  refine vone rfl (vxq (vldn rfl rfl) rfl rfl ?_)
  refine vone rfl (vxq (vcp rfl rfl rfl (c_tights a b)) rfl rfl ?_)
  refine vone rfl (vxq (vmv rfl) rfl rfl ?_)
  refine vone rfl (vxq (vex rfl rfl) rfl rfl ?_)
  refine vone rfl (vxq (vex rfl rfl) rfl rfl ?_)
  refine vone rfl (vxq (vex rfl rfl) rfl rfl ?_)
  refine vone rfl (vxa valloc rfl rfl (fun b4 => ?_))
  refine vone rfl (vxa valloc rfl rfl (fun b5 => ?_))
  refine vone rfl (vxs (vstn rfl rfl rfl rfl rfl) rfl ?_)
  refine vone rfl (vxs (vstn rfl rfl rfl rfl rfl) rfl ?_)
  refine vone rfl (vxq (vas rfl) rfl rfl ?_)
  refine vnil ?_
  refine vseq ?_
  refine vseq ?_
  refine vregion ?_
  refine vone rfl (vxq (vmv rfl) rfl rfl ?_)
  refine vone rfl (vxq (vneq rfl rfl) rfl rfl ?_)
  refine vnil ?_
  refine vcondd rfl (fun h19 => ?_) (fun h19 => ?_)
  · skip
    refine vseq ?_
    refine vregion ?_
    refine vone rfl (vxq (vbd rfl rfl) rfl rfl ?_)
    refine vone rfl (vxq (vmv rfl) rfl rfl ?_)
    refine vone rfl (vxs (vstn rfl rfl rfl rfl rfl) rfl ?_)
    refine vone rfl (vxq (vas rfl) rfl rfl ?_)
    refine vnil ?_
    refine vret (vr2 (H' := H) Try.func58 rfl (.celln rfl rfl) (.tmp rfl) (by repeat first | exact .refl _ | refine .cons_cons _ ?_ | refine .cons _ ?_ | exact sl0 _ | refine slA ?_) ?_)
    first | (rw [show gapE a b = (zB, (twoE a b).2.2) from if_neg h19]; exact ⟨rfl, rfl⟩) | (rw [show gapE a b = ((sqP ((twoE a b).1.map2 Bd.minus (twoE a b).2.1) zP).getD zB, 0) from if_pos (nn h19)]; exact ⟨rfl, rfl⟩)
  · skip
    refine vskip ?_
    refine vseq ?_
    refine vdraw [(.q, 0), (.q, 1), (.q, 2), (.q, 3), (.q, 4), (.q, 5), (.q, 6), (.q, 7), (.q, 8), (.a (blk [.int .i64 0, .int .i64 0] 23), 9), (.s, 10), (.q, 11)] Try.mixed (by kernel_rfl) ⟨⟨_, _, _, _, _, rfl, _, inferInstance, rfl⟩, True.intro⟩ ?_
    refine vdq (mone rfl) (vldn rfl rfl) rfl rfl ?_
    refine vdq (mone rfl) (vldn rfl rfl) rfl rfl ?_
    refine vdq (mone rfl) (vcp rfl rfl rfl (c_opposite (twoE a b).2.1 ((twoE_sm a b).2.mono (by decide)))) rfl rfl ?_
    refine vdq (mone rfl) (vcp rfl rfl rfl ((c_added (twoE a b).1 (twoE a b).2.1.opp ((twoE_sm a b).1.mono (by decide)) (opp_sm ((twoE_sm a b).2.mono (by decide)))).cong (by rw [plus_opp]))) rfl rfl ?_
    refine vdq (mone rfl) (vbd rfl rfl) rfl rfl ?_
    refine vdq (mone rfl) (vcp rfl rfl rfl (c_lengths ((twoE a b).1.map2 Bd.minus (twoE a b).2.1) zP (gap_sm a b) zP_sm)) rfl rfl ?_
    refine vdq (mone rfl) (vmv rfl) rfl rfl ?_
    refine vdq (mone rfl) (vex rfl rfl) rfl rfl ?_
    refine vdq (mone rfl) (vex rfl rfl) rfl rfl ?_
    refine vda rfl rfl (fun b6 => ?_)
    refine vds (mone rfl) (vstn rfl rfl rfl rfl rfl) rfl ?_
    refine vdq (mone rfl) (vas rfl) rfl rfl ?_
    refine vdend rfl ?_
    refine vseq ?_
    refine vregion ?_
    refine vone rfl (vxq (vldn rfl rfl) rfl rfl ?_)
    refine vone rfl (vxs (vstn rfl rfl rfl rfl rfl) rfl ?_)
    refine vone rfl (vxq (vas rfl) rfl rfl ?_)
    refine vnil ?_
    refine vret (vr2 (H' := H) Try.func58 rfl (.celln rfl rfl) (.tmp rfl) (by repeat first | exact .refl _ | refine .cons_cons _ ?_ | refine .cons _ ?_ | exact sl0 _ | refine slA ?_) ?_)
    first | (rw [show gapE a b = (zB, (twoE a b).2.2) from if_neg h19]; exact ⟨rfl, rfl⟩) | (rw [show gapE a b = ((sqP ((twoE a b).1.map2 Bd.minus (twoE a b).2.1) zP).getD zB, 0) from if_pos (nn h19)]; exact ⟨rfl, rfl⟩)
end Go.Proofs.Ytffpfcomikcimaa
