/-
  The walk of the reference's Extreme.
-/
import Derived.Test.YtffpfcomikcimaaWk
namespace Go.Proofs.Ytffpfcomikcimaa
open Go
set_option maxRecDepth 100000

attribute [local irreducible] tightP hullP rootP farP rows endsOf sqL sqP twoE
def dupW (v : Pt) (w : Rw) : List Vd := [val v ⟨w.x, w.a⟩, val v ⟨w.x, w.b⟩]
def dupX (r : Rg) (v : Pt) (x : Int) : List Vd := (rowsN r (x - r.x.lo).toNat).flatMap (dupW v)
def clK (l : List Vd) : List Value := [I ((pickL lessV l).getD zV).n, I ((pickL moreV l).getD zV).n, I ((pickL lessV l).getD zV).p.x, I ((pickL lessV l).getD zV).p.y, I ((pickL moreV l).getD zV).p.x, I ((pickL moreV l).getD zV).p.y]
theorem best_twice {better : Vd → Vd → Bool} (hb : ∀ z, better z z = false) (b : Option Vd) (z : Vd) : bestS better (bestS better b z) z = bestS better b z := by
  cases b with
  | none => simp [bestS, hb]
  | some y => by_cases h : better z y = true <;> simp [bestS, h, hb]
theorem dup_fold {better : Vd → Vd → Bool} (hb : ∀ z, better z z = false) (v : Pt) : ∀ (l : List Rw) (b : Option Vd), (l.flatMap (dupW v)).foldl (bestS better) b = ((l.flatMap endL).map (val v)).foldl (bestS better) b
  | [], b => rfl
  | w :: l, b => by
    simp only [List.flatMap_cons, List.map_append, List.foldl_append]
    have : (dupW v w).foldl (bestS better) b = ((endL w).map (val v)).foldl (bestS better) b := by
      unfold endL dupW; split
      · rename_i e; simp only [List.foldl_cons, List.foldl_nil, List.map_cons, List.map_nil, e]; exact best_twice hb _ _
      · rfl
    rw [this]; exact dup_fold hb v l _
theorem dup_end {better : Vd → Vd → Bool} (hb : ∀ z, better z z = false) {r : Rg} {v : Pt} {x : Int} (h1 : r.x.lo ≤ x) (h2 : x = r.x.lo ∨ x ≤ r.x.hi + 1) (h3 : ¬ x ≤ r.x.hi) : pickL better (dupX r v x) = pickL better (vals r v) := by
  unfold dupX vals endsOf pickL
  rw [rowsN_end h1 h2 h3]; exact dup_fold hb v _ _
theorem less_irr (z : Vd) : lessV z z = false := by simp [lessV]
theorem more_irr (z : Vd) : moreV z z = false := by simp [moreV]
theorem dupX_0 (r : Rg) (v : Pt) : dupX r v r.x.lo = [] := by unfold dupX; rw [Int.sub_self]; rfl
theorem dupX_no {r : Rg} {v : Pt} {x : Int} (hx : r.x.lo ≤ x) (h : ¬ (rowOf r x).a ≤ (rowOf r x).b) : dupX r v (x + 1) = dupX r v x := by unfold dupX; rw [rowsN_nil hx h]
theorem dupX_yes {r : Rg} {v : Pt} {x : Int} (hx : r.x.lo ≤ x) (h : (rowOf r x).a ≤ (rowOf r x).b) : dupX r v (x + 1) = dupX r v x ++ [val v ⟨x, (rowOf r x).a⟩] ++ [val v ⟨x, (rowOf r x).b⟩] := by
  unfold dupX; rw [rowsN_one hx h, List.flatMap_append]; simp [dupW, rowOf]
theorem pick_iso {p q : Vd → Vd → Bool} {l : List Vd} : (pickL p l).isSome = (pickL q l).isSome := by
  cases l with
  | nil => rfl
  | cons x l =>
    have h : ∀ (b : Vd → Vd → Bool), (pickL b (x :: l)).isSome = true := fun b => by
      cases e : pickL b (x :: l) with
      | some y => rfl
      | none => rw [pick_none] at e; cases e
    rw [h p, h q]
theorem k_n {l : List Vd} {z : Vd} (h : (!(pickL lessV l).isSome) = true) : clK (l ++ [z]) = [I z.n, I z.n, I z.p.x, I z.p.y, I z.p.x, I z.p.y] := by
  unfold clK; rw [pick_n h, pick_n (better := moreV) (by rw [pick_iso (q := lessV)]; exact h)]; rfl
theorem k_yy {l : List Vd} {z : Vd} (h : (!(pickL lessV l).isSome) = false) (h1 : z.n < ((pickL lessV l).getD zV).n) (h2 : z.n > ((pickL moreV l).getD zV).n) : clK (l ++ [z]) = [I z.n, I z.n, I z.p.x, I z.p.y, I z.p.x, I z.p.y] := by
  unfold clK; rw [pick_y (z := zV) h (decide_eq_true h1), pick_y (better := moreV) (z := zV) (by rw [pick_iso (q := lessV)]; exact h) (decide_eq_true h2)]; rfl
theorem k_yn {l : List Vd} {z : Vd} (h : (!(pickL lessV l).isSome) = false) (h1 : z.n < ((pickL lessV l).getD zV).n) (h2 : ¬ z.n > ((pickL moreV l).getD zV).n) : clK (l ++ [z]) = [I z.n, I ((pickL moreV l).getD zV).n, I z.p.x, I z.p.y, I ((pickL moreV l).getD zV).p.x, I ((pickL moreV l).getD zV).p.y] := by
  unfold clK; rw [pick_y (z := zV) h (decide_eq_true h1), pick_k (better := moreV) (z := zV) (by rw [pick_iso (q := lessV)]; exact h) (decide_eq_false h2)]; rfl
theorem k_ny {l : List Vd} {z : Vd} (h : (!(pickL lessV l).isSome) = false) (h1 : ¬ z.n < ((pickL lessV l).getD zV).n) (h2 : z.n > ((pickL moreV l).getD zV).n) : clK (l ++ [z]) = [I ((pickL lessV l).getD zV).n, I z.n, I ((pickL lessV l).getD zV).p.x, I ((pickL lessV l).getD zV).p.y, I z.p.x, I z.p.y] := by
  unfold clK; rw [pick_k (z := zV) h (decide_eq_false h1), pick_y (better := moreV) (z := zV) (by rw [pick_iso (q := lessV)]; exact h) (decide_eq_true h2)]; rfl
theorem k_nn {l : List Vd} {z : Vd} (h : (!(pickL lessV l).isSome) = false) (h1 : ¬ z.n < ((pickL lessV l).getD zV).n) (h2 : ¬ z.n > ((pickL moreV l).getD zV).n) : clK (l ++ [z]) = clK l := by
  unfold clK; rw [pick_k (z := zV) h (decide_eq_false h1), pick_k (better := moreV) (z := zV) (by rw [pick_iso (q := lessV)]; exact h) (decide_eq_false h2)]
theorem is_snoc (l : List Vd) (z : Vd) : (pickL lessV (l ++ [z])).isSome = true := by
  cases e : pickL lessV (l ++ [z]) with
  | some y => rfl
  | none => rw [pick_none] at e; simp at e
theorem not_snoc (l : List Vd) (z : Vd) : (!(pickL lessV (l ++ [z])).isSome) = false := by rw [is_snoc]; rfl
theorem clK_nil : clK [] = [I 0, I 0, I 0, I 0, I 0, I 0] := rfl
abbrev clK6 (a b c d e f : Int) : List Value := [I a, I b, I c, I d, I e, I f]
theorem clK_open (l : List Vd) : clK l = [I ((pickL lessV l).getD zV).n, I ((pickL moreV l).getD zV).n, I ((pickL lessV l).getD zV).p.x, I ((pickL lessV l).getD zV).p.y, I ((pickL moreV l).getD zV).p.x, I ((pickL moreV l).getD zV).p.y] := rfl
theorem pl_nil : pickL lessV [] = none := rfl
attribute [local irreducible] pickL

/-- paravane/paravaneref01.Extreme -/
theorem c_ref_Extreme (r : Rg) (v : Pt) : VPure Try.prog 34 [vR r, vP v] (tup [vK (extE r v).1, I (extE r v).2]) := by
  intro H
  refine vcall_of_vrun Try.func34 rfl (N := 99) rfl rfl ?_
  refine vseq ?_
  refine vregion ?_
  refine vone rfl (vxa (vbox rfl rfl) rfl rfl (fun b1 => ?_))
  refine vone rfl (vxa (vbox rfl rfl) rfl rfl (fun b2 => ?_))
  refine vone rfl (vxa valloc rfl rfl (fun b3 => ?_))
  refine vone rfl (vxq (vas rfl) rfl rfl ?_)
  refine vnil ?_
  refine vseq ?_
  refine vseq ?_
  refine vregion ?_
  refine vone rfl (vxq (vldn rfl rfl) rfl rfl ?_)
  refine vone rfl (vxq (vcp rfl rfl rfl (c_ref_Check r)) rfl rfl ?_)
  refine vone rfl (vxq (vas rfl) rfl rfl ?_)
  refine vnil ?_
  refine vseq ?_
  refine vregion ?_
  refine vone rfl (vxq (vmv rfl) rfl rfl ?_)
  refine vone rfl (vxq (vneq rfl rfl) rfl rfl ?_)
  refine vnil ?_
  refine vcondd rfl (fun h18 => ?_) (fun h18 => ?_)
  · skip
    refine vseq ?_
    refine vregion ?_
    refine vone rfl (vxq (vbd rfl rfl) rfl rfl ?_)
    refine vone rfl (vxq (vmv rfl) rfl rfl ?_)
    refine vone rfl (vxs (vstn rfl rfl rfl rfl rfl) rfl ?_)
    refine vone rfl (vxq (vas rfl) rfl rfl ?_)
    refine vnil ?_
    refine vret (vr2 (H' := H) Try.func34 rfl (.celln rfl rfl) (.tmp rfl) (by repeat first | exact .refl _ | refine .cons_cons _ ?_ | refine .cons _ ?_ | exact sl0 _ | refine slA ?_) ?_)
    first | (rw [extE_11 h18]; exact ⟨rfl, rfl⟩) | (rw [extE_7 h18 (by unfold Pt.okS; omega)]; exact ⟨rfl, rfl⟩) | (have hle := dup_end less_irr (v := v) hx1 hx2 h39; have hme := dup_end more_irr (v := v) hx1 hx2 h39; rw [hle] at h96; first | (rw [extE_4 h18 (by unfold Pt.okS; omega) h96]; exact ⟨rfl, rfl⟩) | (rw [extE_0 h18 (by unfold Pt.okS; omega) h96, ← hle, ← hme]; exact ⟨rfl, rfl⟩))
  · skip
    refine vskip ?_
    refine vseq ?_
    refine vseq ?_
    refine vregion ?_
    refine vone rfl (vxq (vfa rfl) rfl rfl ?_)
    refine vone rfl (vxq (vld1 rfl rfl) rfl rfl ?_)
    refine vone rfl (vxq (vcp rfl rfl rfl (c_ref00_Between _ _ _)) rfl rfl ?_)
    refine vone rfl (vxq (vnotd rfl) rfl rfl ?_)
    refine vone rfl (vxq (vmv rfl) rfl rfl ?_)
    refine vsplitd (d := 25) rfl (fun h25 => ?_) (fun h25 => ?_)
    · skip
      refine vno rfl rfl rfl rfl rfl ?_
      refine vno rfl rfl rfl rfl rfl ?_
      refine vno rfl rfl rfl rfl rfl ?_
      refine vno rfl rfl rfl rfl rfl ?_
      refine vone rfl (vxq (vpkt rfl rfl) rfl rfl ?_)
      refine vnil ?_
      refine vcondt rfl ?_
      refine vseq ?_
      refine vregion ?_
      refine vone rfl (vxq (vbd rfl rfl) rfl rfl ?_)
      refine vone rfl (vxs (vstn rfl rfl rfl rfl rfl) rfl ?_)
      refine vone rfl (vxq (vas rfl) rfl rfl ?_)
      refine vnil ?_
      refine vret (vr2 (H' := H) Try.func34 rfl (.celln rfl rfl) (.tmp rfl) (by repeat first | exact .refl _ | refine .cons_cons _ ?_ | refine .cons _ ?_ | exact sl0 _ | refine slA ?_) ?_)
      first | (rw [extE_11 h18]; exact ⟨rfl, rfl⟩) | (rw [extE_7 h18 (by unfold Pt.okS; omega)]; exact ⟨rfl, rfl⟩) | (have hle := dup_end less_irr (v := v) hx1 hx2 h39; have hme := dup_end more_irr (v := v) hx1 hx2 h39; rw [hle] at h96; first | (rw [extE_4 h18 (by unfold Pt.okS; omega) h96]; exact ⟨rfl, rfl⟩) | (rw [extE_0 h18 (by unfold Pt.okS; omega) h96, ← hle, ← hme]; exact ⟨rfl, rfl⟩))
    · skip
      refine vyes rfl rfl rfl (vxq (vfa rfl) rfl rfl ?_)
      refine vyes rfl rfl rfl (vxq (vld1 rfl rfl) rfl rfl ?_)
      refine vyes rfl rfl rfl (vxq (vcp rfl rfl rfl (c_ref00_Between _ _ _)) rfl rfl ?_)
      refine vyes rfl rfl rfl (vxq (vnotd rfl) rfl rfl ?_)
      refine vone rfl (vxq (vpkf rfl rfl) rfl rfl ?_)
      refine vnil ?_
      refine vcondd rfl (fun h30 => ?_) (fun h30 => ?_)
      · skip
        refine vseq ?_
        refine vregion ?_
        refine vone rfl (vxq (vbd rfl rfl) rfl rfl ?_)
        refine vone rfl (vxs (vstn rfl rfl rfl rfl rfl) rfl ?_)
        refine vone rfl (vxq (vas rfl) rfl rfl ?_)
        refine vnil ?_
        refine vret (vr2 (H' := H) Try.func34 rfl (.celln rfl rfl) (.tmp rfl) (by repeat first | exact .refl _ | refine .cons_cons _ ?_ | refine .cons _ ?_ | exact sl0 _ | refine slA ?_) ?_)
        first | (rw [extE_11 h18]; exact ⟨rfl, rfl⟩) | (rw [extE_7 h18 (by unfold Pt.okS; omega)]; exact ⟨rfl, rfl⟩) | (have hle := dup_end less_irr (v := v) hx1 hx2 h39; have hme := dup_end more_irr (v := v) hx1 hx2 h39; rw [hle] at h96; first | (rw [extE_4 h18 (by unfold Pt.okS; omega) h96]; exact ⟨rfl, rfl⟩) | (rw [extE_0 h18 (by unfold Pt.okS; omega) h96, ← hle, ← hme]; exact ⟨rfl, rfl⟩))
      · skip
        refine vskip ?_
        refine vseq ?_
        refine vregion ?_
        refine vone rfl (vxa valloc rfl rfl (fun b4 => ?_))
        refine vnil ?_
        refine vseq ?_
        refine vregion ?_
        refine vone rfl (vxq (vas rfl) rfl rfl ?_)
        refine vnil ?_
        refine vseq ?_
        refine vseq ?_
        refine vregion ?_
        refine vone rfl (vxq (vfa rfl) rfl rfl ?_)
        refine vone rfl (vxq (vfa rfl) rfl rfl ?_)
        refine vone rfl (vxq (vld1 rfl rfl) rfl rfl ?_)
        refine vone rfl (vxq (vas rfl) rfl rfl ?_)
        refine vnil ?_
        refine vblock ?_
        refine vwhile (σ := Int) (fun x => (r.x.hi + 1 - x).toNat) (fun x => [(2, ptr b1), (3, ptr b2), (4, ptr b3), (5, I 0), (7, ptr b4), (8, .bool (pickL lessV (dupX r v x)).isSome), (9, I x)]) (fun x => (b4, blk (clK (dupX r v x)) 44) :: (b3, blk [I 0, I 0, I 0, I 0, I 0, I 0] 44) :: (b2, blk [I v.x, I v.y] 36) :: (b1, blk (clR r) 25) :: H) (fun x => r.x.lo ≤ x ∧ (x = r.x.lo ∨ x ≤ r.x.hi + 1)) r.x.lo ⟨by omega, .inl rfl⟩ ⟨rfl, rfl, rfl, rfl, rfl, by rw [dupX_0, pl_nil]; rfl, rfl, True.intro⟩ (by show List.Sublist ((b4, blk (clK (dupX r v r.x.lo)) 44) :: _) _; rw [dupX_0, clK_nil]; exact (by repeat first | exact .refl _ | refine .cons_cons _ ?_ | refine .cons _ ?_ | exact sl0 _ | refine slA ?_)) ?_
        rintro x ⟨hx1, hx2⟩ IH
        change VRun _ _ _ _ _ [(2, ptr b1), (3, ptr b2), (4, ptr b3), (5, I 0), (7, ptr b4), (8, .bool (pickL lessV (dupX r v x)).isSome), (9, I x)] _ ((b4, blk (clK (dupX r v x)) 44) :: (b3, blk [I 0, I 0, I 0, I 0, I 0, I 0] 44) :: (b2, blk [I v.x, I v.y] 36) :: (b1, blk (clR r) 25) :: H) _
        have hok := (ok_c h18).sm
        unfold Rg.sm Bd.sm at hok
        refine vseq ?_
        refine vseq ?_
        refine vregion ?_
        refine vone rfl (vxq (vmv rfl) rfl rfl ?_)
        refine vone rfl (vxq (vfa rfl) rfl rfl ?_)
        refine vone rfl (vxq (vfa rfl) rfl rfl ?_)
        refine vone rfl (vxq (vld1 rfl rfl) rfl rfl ?_)
        refine vone rfl (vxq (vleq rfl rfl) rfl rfl ?_)
        refine vnil ?_
        refine vcondd rfl (fun h39 => ?_) (fun h39 => ?_)
        · skip
          refine vskip ?_
          refine vseq ?_
          refine vblock ?_
          refine vseq ?_
          refine vregion ?_
          refine vone rfl (vxq (vldn rfl rfl) rfl rfl ?_)
          refine vone rfl (vxq (vmv rfl) rfl rfl ?_)
          refine vone rfl (vxq (vcp rfl rfl rfl (c_row r x ((ok_c h18).sm.mono (by decide)) (by omega))) rfl rfl ?_)
          refine vone rfl (vxa valloc rfl rfl (fun b5 => ?_))
          refine vone rfl (vxs (vstn rfl rfl rfl rfl rfl) rfl ?_)
          refine vnil ?_
          refine vseq ?_
          refine vseq ?_
          refine vregion ?_
          refine vone rfl (vxq (vfa rfl) rfl rfl ?_)
          refine vone rfl (vxq (vld1 rfl rfl) rfl rfl ?_)
          refine vone rfl (vxq (vfa rfl) rfl rfl ?_)
          refine vone rfl (vxq (vld1 rfl rfl) rfl rfl ?_)
          refine vone rfl (vxq (vgtr rfl rfl) rfl rfl ?_)
          refine vnil ?_
          refine vcondd rfl (fun h49 => ?_) (fun h49 => ?_)
          · skip
            refine vexit (k' := _) rfl ?_
            refine vregion ?_
            refine vone rfl (vxq (vmv rfl) rfl rfl ?_)
            refine vone rfl (vxq (vadd rfl rfl (by unfold InR; omega)) rfl rfl ?_)
            refine vone rfl (vxq (vas rfl) rfl rfl ?_)
            refine vnil ?_
            first
              | (have he : dupX r v (x + 1) = dupX r v x := dupX_no hx1 (by omega)
                 exact vback (IH (x + 1) ⟨by omega, by omega⟩ (by show (_ : Int).toNat < (_ : Int).toNat; omega)) ⟨rfl, rfl, rfl, rfl, rfl, by rw [he]; rfl, rfl, True.intro⟩ (by rw [he]; exact (by repeat first | exact .refl _ | refine .cons_cons _ ?_ | refine .cons _ ?_ | exact sl0 _ | refine slA ?_)))
              | (have he : dupX r v (x + 1) = _ := dupX_yes hx1 (by omega)
                 exact vback (IH (x + 1) ⟨by omega, by omega⟩ (by show (_ : Int).toNat < (_ : Int).toNat; omega)) ⟨rfl, rfl, rfl, rfl, rfl, by rw [he]; exact congrArg some (congrArg Value.bool (is_snoc _ _).symm), rfl, True.intro⟩ (by rw [he]; exact (by repeat first | exact .refl _ | refine .cons_cons _ ?_ | refine .cons _ ?_ | exact sl0 _ | refine slA ?_)))
          · skip
            have hrs := rowOf_sm (ok_c h18).sm ⟨hx1, h39⟩ (by omega)
            have hv : v.okS := by unfold Pt.okS; omega
            have hm0 := abs_mul_bd (b := x) (k := 65536) hv.1 (by omega)
            have hm1 := abs_mul_bd (b := (rowOf r x).a) (k := 65536) hv.2 (by have := hrs.1; unfold Pt.sm at this; simp only at this; omega)
            have hm2 := abs_mul_bd (b := (rowOf r x).b) (k := 65536) hv.2 (by have := hrs.2; unfold Pt.sm at this; simp only at this; omega)
            refine vskip ?_
            refine vseq ?_
            refine vregion ?_
            refine vone rfl (vxq (vfa rfl) rfl rfl ?_)
            refine vone rfl (vxq (vld1 rfl rfl) rfl rfl ?_)
            refine vone rfl (vxq (vfa rfl) rfl rfl ?_)
            refine vone rfl (vxq (vld1 rfl rfl) rfl rfl ?_)
            refine vone rfl (vxq (vbd rfl rfl) rfl rfl ?_)
            refine vone rfl (vxq (vmv rfl) rfl rfl ?_)
            refine vnil ?_
            refine vblock ?_
            refine vloop1 ?_
            refine vseq ?_
            refine vregion ?_
            refine vone rfl (vxq (vlss rfl rfl) rfl rfl ?_)
            refine vnil ?_
            refine vseq ?_
            refine vcondt rfl ?_
            refine vskip ?_
            refine vseq ?_
            refine vblock ?_
            refine vseq ?_
            refine vregion ?_
            refine vone rfl (vxq (vixa1 rfl rfl (by omega) rfl) rfl rfl ?_)
            refine vone rfl (vxq (vas rfl) rfl rfl ?_)
            refine vnil ?_
            refine vseq ?_
            refine vregion ?_
            refine vone rfl (vxq (vfa rfl) rfl rfl ?_)
            refine vone rfl (vxq (vld1 rfl rfl) rfl rfl ?_)
            refine vone rfl (vxq (vmv rfl) rfl rfl ?_)
            refine vone rfl (vxq (vmul rfl rfl (by unfold InR; omega)) rfl rfl ?_)
            refine vone rfl (vxq (vfa rfl) rfl rfl ?_)
            refine vone rfl (vxq (vld1 rfl rfl) rfl rfl ?_)
            refine vone rfl (vxq (vmv rfl) rfl rfl ?_)
            refine vone rfl (vxq (vmul rfl rfl (by unfold InR; omega)) rfl rfl ?_)
            refine vone rfl (vxq (vadd rfl rfl (by unfold InR; omega)) rfl rfl ?_)
            refine vone rfl (vxq (vmv rfl) rfl rfl ?_)
            refine vone rfl (vxq (vmv rfl) rfl rfl ?_)
            refine vone rfl (vxq (vbd rfl rfl) rfl rfl ?_)
            refine vone rfl (vxa valloc rfl rfl (fun b6 => ?_))
            refine vone rfl (vxq (vas rfl) rfl rfl ?_)
            refine vone rfl (vxs (vstn rfl rfl rfl rfl rfl) rfl ?_)
            refine vnil ?_
            refine vseq ?_
            refine vseq ?_
            refine vregion ?_
            refine vone rfl (vxq (vmv rfl) rfl rfl ?_)
            refine vone rfl (vxq (vnot rfl) rfl rfl ?_)
            refine vone rfl (vxq (vmv rfl) rfl rfl ?_)
            refine vsplit (d := 72) rfl (fun h72 => ?_) (fun h72 => ?_)
            · skip
              refine vno rfl rfl rfl rfl rfl ?_
              refine vno rfl rfl rfl rfl rfl ?_
              refine vno rfl rfl rfl rfl rfl ?_
              refine vno rfl rfl rfl rfl rfl ?_
              refine vone rfl (vxq (vpkt rfl rfl) rfl rfl ?_)
              refine vnil ?_
              refine vcondt rfl ?_
              refine vdraw1 (d := 7) rfl [(.q, 0), (.q, 1), (.q, 2), (.s, 3), (.q, 4), (.s, 5)] Try.mixed (by kernel_rfl) (allocOk_of _ (by kernel_rfl)) ?_
              refine vdq (mone rfl) (vmv rfl) rfl rfl ?_
              refine vdq (mone rfl) (vldn rfl rfl) rfl rfl ?_
              refine vdq (mone rfl) (vfa rfl) rfl rfl ?_
              refine vds (mone rfl) (vst1 rfl rfl rfl rfl) rfl ?_
              refine vdq (mone rfl) (vfa rfl) rfl rfl ?_
              refine vds (mone rfl) (vstn rfl rfl rfl rfl rfl) rfl ?_
              refine vdend rfl ?_
              refine vseq ?_
              refine vseq ?_
              refine vregion ?_
              refine vone rfl (vxq (vmv rfl) rfl rfl ?_)
              refine vone rfl (vxq (vnot rfl) rfl rfl ?_)
              refine vone rfl (vxq (vmv rfl) rfl rfl ?_)
              refine vknow (d := 84) (b' := true) rfl h72 ?_
              refine vno rfl rfl rfl rfl rfl ?_
              refine vno rfl rfl rfl rfl rfl ?_
              refine vno rfl rfl rfl rfl rfl ?_
              refine vno rfl rfl rfl rfl rfl ?_
              refine vone rfl (vxq (vpkt rfl rfl) rfl rfl ?_)
              refine vnil ?_
              refine vcondt rfl ?_
              refine vdraw1 (d := 7) rfl [(.q, 0), (.q, 1), (.q, 2), (.s, 3), (.q, 4), (.s, 5)] Try.mixed (by kernel_rfl) (allocOk_of _ (by kernel_rfl)) ?_
              refine vdq (mone rfl) (vmv rfl) rfl rfl ?_
              refine vdq (mone rfl) (vldn rfl rfl) rfl rfl ?_
              refine vdq (mone rfl) (vfa rfl) rfl rfl ?_
              refine vds (mone rfl) (vst1 rfl rfl rfl rfl) rfl ?_
              refine vdq (mone rfl) (vfa rfl) rfl rfl ?_
              refine vds (mone rfl) (vstn rfl rfl rfl rfl rfl) rfl ?_
              refine vdend rfl ?_
              refine vregion ?_
              refine vone rfl (vxq (vas rfl) rfl rfl ?_)
              refine vnil ?_
              refine vinblock ?_
              refine vregion ?_
              refine vone rfl (vxq (vadd rfl rfl (by unfold InR; omega)) rfl rfl ?_)
              refine vone rfl (vxq (vmv rfl) rfl rfl ?_)
              refine vnil ?_
              first
                | refine VRun.sub (H' := (b4, blk (clK (dupX r v x ++ [(val v ⟨x, (rowOf r x).a⟩)])) 44) :: (b3, blk [I 0, I 0, I 0, I 0, I 0, I 0] 44) :: (b2, blk [I v.x, I v.y] 36) :: (b1, blk (clR r) 25) :: H) (by rw [k_n (l := (dupX r v x)) (z := (val v ⟨x, (rowOf r x).a⟩)) h72]; exact (by repeat first | exact .refl _ | refine .cons_cons _ ?_ | refine .cons _ ?_ | exact sl0 _ | refine slA ?_)) ?_
                | refine VRun.sub (H' := (b4, blk (clK (dupX r v x ++ [(val v ⟨x, (rowOf r x).a⟩)])) 44) :: (b3, blk [I 0, I 0, I 0, I 0, I 0, I 0] 44) :: (b2, blk [I v.x, I v.y] 36) :: (b1, blk (clR r) 25) :: H) (by rw [k_yy (l := (dupX r v x)) (z := (val v ⟨x, (rowOf r x).a⟩)) h72 h77 h89]; exact (by repeat first | exact .refl _ | refine .cons_cons _ ?_ | refine .cons _ ?_ | exact sl0 _ | refine slA ?_)) ?_
                | refine VRun.sub (H' := (b4, blk (clK (dupX r v x ++ [(val v ⟨x, (rowOf r x).a⟩)])) 44) :: (b3, blk [I 0, I 0, I 0, I 0, I 0, I 0] 44) :: (b2, blk [I v.x, I v.y] 36) :: (b1, blk (clR r) 25) :: H) (by rw [k_yn (l := (dupX r v x)) (z := (val v ⟨x, (rowOf r x).a⟩)) h72 h77 h89]; exact (by repeat first | exact .refl _ | refine .cons_cons _ ?_ | refine .cons _ ?_ | exact sl0 _ | refine slA ?_)) ?_
                | refine VRun.sub (H' := (b4, blk (clK (dupX r v x ++ [(val v ⟨x, (rowOf r x).a⟩)])) 44) :: (b3, blk [I 0, I 0, I 0, I 0, I 0, I 0] 44) :: (b2, blk [I v.x, I v.y] 36) :: (b1, blk (clR r) 25) :: H) (by rw [k_ny (l := (dupX r v x)) (z := (val v ⟨x, (rowOf r x).a⟩)) h72 h77 h89]; exact (by repeat first | exact .refl _ | refine .cons_cons _ ?_ | refine .cons _ ?_ | exact sl0 _ | refine slA ?_)) ?_
                | refine VRun.sub (H' := (b4, blk (clK (dupX r v x ++ [(val v ⟨x, (rowOf r x).a⟩)])) 44) :: (b3, blk [I 0, I 0, I 0, I 0, I 0, I 0] 44) :: (b2, blk [I v.x, I v.y] 36) :: (b1, blk (clR r) 25) :: H) (by rw [k_nn (l := (dupX r v x)) (z := (val v ⟨x, (rowOf r x).a⟩)) h72 h77 h89]; exact (by repeat first | exact .refl _ | refine .cons_cons _ ?_ | refine .cons _ ?_ | exact sl0 _ | refine slA ?_)) ?_
              refine vinloop1 ?_
              refine vseq ?_
              refine vregion ?_
              refine vone rfl (vxq (vlss rfl rfl) rfl rfl ?_)
              refine vnil ?_
              refine vseq ?_
              refine vcondt rfl ?_
              refine vskip ?_
              refine vseq ?_
              refine vblock ?_
              refine vseq ?_
              refine vregion ?_
              refine vone rfl (vxq (vixa1 rfl rfl (by omega) rfl) rfl rfl ?_)
              refine vone rfl (vxq (vas rfl) rfl rfl ?_)
              refine vnil ?_
              refine vseq ?_
              refine vregion ?_
              refine vone rfl (vxq (vfa rfl) rfl rfl ?_)
              refine vone rfl (vxq (vld1 rfl rfl) rfl rfl ?_)
              refine vone rfl (vxq (vmv rfl) rfl rfl ?_)
              refine vone rfl (vxq (vmul rfl rfl (by unfold InR; omega)) rfl rfl ?_)
              refine vone rfl (vxq (vfa rfl) rfl rfl ?_)
              refine vone rfl (vxq (vld1 rfl rfl) rfl rfl ?_)
              refine vone rfl (vxq (vmv rfl) rfl rfl ?_)
              refine vone rfl (vxq (vmul rfl rfl (by unfold InR; omega)) rfl rfl ?_)
              refine vone rfl (vxq (vadd rfl rfl (by unfold InR; omega)) rfl rfl ?_)
              refine vone rfl (vxq (vmv rfl) rfl rfl ?_)
              refine vone rfl (vxq (vmv rfl) rfl rfl ?_)
              refine vone rfl (vxq (vbd rfl rfl) rfl rfl ?_)
              refine vone rfl (vxa valloc rfl rfl (fun b7 => ?_))
              refine vone rfl (vxq (vas rfl) rfl rfl ?_)
              refine vone rfl (vxs (vstn rfl rfl rfl rfl rfl) rfl ?_)
              refine vnil ?_
              refine vseq ?_
              refine vseq ?_
              refine vregion ?_
              refine vone rfl (vxq (vmv rfl) rfl rfl ?_)
              refine vone rfl (vxq (vnot rfl) rfl rfl ?_)
              refine vone rfl (vxq (vmv rfl) rfl rfl ?_)
              refine vyes rfl rfl rfl (vxq (vmv rfl) rfl rfl ?_)
              refine vyes rfl rfl rfl (vxq (vfa rfl) rfl rfl ?_)
              refine vyes rfl rfl rfl (vxq (vld1 rfl rfl) rfl rfl ?_)
              refine vyes rfl rfl rfl (vxq (vlss rfl rfl) rfl rfl ?_)
              refine vone rfl (vxq (vpkf rfl rfl) rfl rfl ?_)
              refine vnil ?_
              refine vcondd rfl (fun h77 => ?_) (fun h77 => ?_)
              · skip
                refine vdraw1 (d := 7) rfl [(.q, 0), (.q, 1), (.q, 2), (.s, 3), (.q, 4), (.s, 5)] Try.mixed (by kernel_rfl) (allocOk_of _ (by kernel_rfl)) ?_
                refine vdq (mone rfl) (vmv rfl) rfl rfl ?_
                refine vdq (mone rfl) (vldn rfl rfl) rfl rfl ?_
                refine vdq (mone rfl) (vfa rfl) rfl rfl ?_
                refine vds (mone rfl) (vst1 rfl rfl rfl rfl) rfl ?_
                refine vdq (mone rfl) (vfa rfl) rfl rfl ?_
                refine vds (mone rfl) (vstn rfl rfl rfl rfl rfl) rfl ?_
                refine vdend rfl ?_
                refine vseq ?_
                refine vseq ?_
                refine vregion ?_
                refine vone rfl (vxq (vmv rfl) rfl rfl ?_)
                refine vone rfl (vxq (vnot rfl) rfl rfl ?_)
                refine vone rfl (vxq (vmv rfl) rfl rfl ?_)
                refine vyes rfl rfl rfl (vxq (vmv rfl) rfl rfl ?_)
                refine vyes rfl rfl rfl (vxq (vfa rfl) rfl rfl ?_)
                refine vyes rfl rfl rfl (vxq (vld1 rfl rfl) rfl rfl ?_)
                refine vyes rfl rfl rfl (vxq (vgtr rfl rfl) rfl rfl ?_)
                refine vone rfl (vxq (vpkf rfl rfl) rfl rfl ?_)
                refine vnil ?_
                refine vcondd rfl (fun h89 => ?_) (fun h89 => ?_)
                · skip
                  refine vdraw1 (d := 7) rfl [(.q, 0), (.q, 1), (.q, 2), (.s, 3), (.q, 4), (.s, 5)] Try.mixed (by kernel_rfl) (allocOk_of _ (by kernel_rfl)) ?_
                  refine vdq (mone rfl) (vmv rfl) rfl rfl ?_
                  refine vdq (mone rfl) (vldn rfl rfl) rfl rfl ?_
                  refine vdq (mone rfl) (vfa rfl) rfl rfl ?_
                  refine vds (mone rfl) (vst1 rfl rfl rfl rfl) rfl ?_
                  refine vdq (mone rfl) (vfa rfl) rfl rfl ?_
                  refine vds (mone rfl) (vstn rfl rfl rfl rfl rfl) rfl ?_
                  refine vdend rfl ?_
                  refine vregion ?_
                  refine vone rfl (vxq (vas rfl) rfl rfl ?_)
                  refine vnil ?_
                  refine vinblock ?_
                  refine vregion ?_
                  refine vone rfl (vxq (vadd rfl rfl (by unfold InR; omega)) rfl rfl ?_)
                  refine vone rfl (vxq (vmv rfl) rfl rfl ?_)
                  refine vnil ?_
                  first
                    | refine VRun.sub (H' := (b4, blk (clK (dupX r v x ++ [(val v ⟨x, (rowOf r x).a⟩)] ++ [(val v ⟨x, (rowOf r x).b⟩)])) 44) :: (b3, blk [I 0, I 0, I 0, I 0, I 0, I 0] 44) :: (b2, blk [I v.x, I v.y] 36) :: (b1, blk (clR r) 25) :: H) (by rw [k_yy (l := (dupX r v x ++ [(val v ⟨x, (rowOf r x).a⟩)])) (z := (val v ⟨x, (rowOf r x).b⟩)) (not_snoc _ _) h77 h89]; exact (by repeat first | exact .refl _ | refine .cons_cons _ ?_ | refine .cons _ ?_ | exact sl0 _ | refine slA ?_)) ?_
                    | refine VRun.sub (H' := (b4, blk (clK (dupX r v x ++ [(val v ⟨x, (rowOf r x).a⟩)] ++ [(val v ⟨x, (rowOf r x).b⟩)])) 44) :: (b3, blk [I 0, I 0, I 0, I 0, I 0, I 0] 44) :: (b2, blk [I v.x, I v.y] 36) :: (b1, blk (clR r) 25) :: H) (by rw [k_yn (l := (dupX r v x ++ [(val v ⟨x, (rowOf r x).a⟩)])) (z := (val v ⟨x, (rowOf r x).b⟩)) (not_snoc _ _) h77 h89]; exact (by repeat first | exact .refl _ | refine .cons_cons _ ?_ | refine .cons _ ?_ | exact sl0 _ | refine slA ?_)) ?_
                    | refine VRun.sub (H' := (b4, blk (clK (dupX r v x ++ [(val v ⟨x, (rowOf r x).a⟩)] ++ [(val v ⟨x, (rowOf r x).b⟩)])) 44) :: (b3, blk [I 0, I 0, I 0, I 0, I 0, I 0] 44) :: (b2, blk [I v.x, I v.y] 36) :: (b1, blk (clR r) 25) :: H) (by rw [k_ny (l := (dupX r v x ++ [(val v ⟨x, (rowOf r x).a⟩)])) (z := (val v ⟨x, (rowOf r x).b⟩)) (not_snoc _ _) h77 h89]; exact (by repeat first | exact .refl _ | refine .cons_cons _ ?_ | refine .cons _ ?_ | exact sl0 _ | refine slA ?_)) ?_
                    | refine VRun.sub (H' := (b4, blk (clK (dupX r v x ++ [(val v ⟨x, (rowOf r x).a⟩)] ++ [(val v ⟨x, (rowOf r x).b⟩)])) 44) :: (b3, blk [I 0, I 0, I 0, I 0, I 0, I 0] 44) :: (b2, blk [I v.x, I v.y] 36) :: (b1, blk (clR r) 25) :: H) (by rw [k_nn (l := (dupX r v x ++ [(val v ⟨x, (rowOf r x).a⟩)])) (z := (val v ⟨x, (rowOf r x).b⟩)) (not_snoc _ _) h77 h89]; exact (by repeat first | exact .refl _ | refine .cons_cons _ ?_ | refine .cons _ ?_ | exact sl0 _ | refine slA ?_)) ?_
                  refine vinloop1 ?_
                  refine vseq ?_
                  refine vregion ?_
                  refine vone rfl (vxq (vlss rfl rfl) rfl rfl ?_)
                  refine vnil ?_
                  refine vseq ?_
                  refine vcondf rfl ?_
                  refine vexit (k' := _) rfl ?_
                  refine vinblock ?_
                  refine vregion ?_
                  refine vone rfl (vxq (vmv rfl) rfl rfl ?_)
                  refine vone rfl (vxq (vadd rfl rfl (by unfold InR; omega)) rfl rfl ?_)
                  refine vone rfl (vxq (vas rfl) rfl rfl ?_)
                  refine vnil ?_
                  first
                    | (have he : dupX r v (x + 1) = dupX r v x := dupX_no hx1 (by omega)
                       exact vback (IH (x + 1) ⟨by omega, by omega⟩ (by show (_ : Int).toNat < (_ : Int).toNat; omega)) ⟨rfl, rfl, rfl, rfl, rfl, by rw [he]; rfl, rfl, True.intro⟩ (by rw [he]; exact (by repeat first | exact .refl _ | refine .cons_cons _ ?_ | refine .cons _ ?_ | exact sl0 _ | refine slA ?_)))
                    | (have he : dupX r v (x + 1) = _ := dupX_yes hx1 (by omega)
                       exact vback (IH (x + 1) ⟨by omega, by omega⟩ (by show (_ : Int).toNat < (_ : Int).toNat; omega)) ⟨rfl, rfl, rfl, rfl, rfl, by rw [he]; exact congrArg some (congrArg Value.bool (is_snoc _ _).symm), rfl, True.intro⟩ (by rw [he]; exact (by repeat first | exact .refl _ | refine .cons_cons _ ?_ | refine .cons _ ?_ | exact sl0 _ | refine slA ?_)))
                · skip
                  refine vskip ?_
                  refine vregion ?_
                  refine vone rfl (vxq (vas rfl) rfl rfl ?_)
                  refine vnil ?_
                  refine vinblock ?_
                  refine vregion ?_
                  refine vone rfl (vxq (vadd rfl rfl (by unfold InR; omega)) rfl rfl ?_)
                  refine vone rfl (vxq (vmv rfl) rfl rfl ?_)
                  refine vnil ?_
                  first
                    | refine VRun.sub (H' := (b4, blk (clK (dupX r v x ++ [(val v ⟨x, (rowOf r x).a⟩)] ++ [(val v ⟨x, (rowOf r x).b⟩)])) 44) :: (b3, blk [I 0, I 0, I 0, I 0, I 0, I 0] 44) :: (b2, blk [I v.x, I v.y] 36) :: (b1, blk (clR r) 25) :: H) (by rw [k_yy (l := (dupX r v x ++ [(val v ⟨x, (rowOf r x).a⟩)])) (z := (val v ⟨x, (rowOf r x).b⟩)) (not_snoc _ _) h77 h89]; exact (by repeat first | exact .refl _ | refine .cons_cons _ ?_ | refine .cons _ ?_ | exact sl0 _ | refine slA ?_)) ?_
                    | refine VRun.sub (H' := (b4, blk (clK (dupX r v x ++ [(val v ⟨x, (rowOf r x).a⟩)] ++ [(val v ⟨x, (rowOf r x).b⟩)])) 44) :: (b3, blk [I 0, I 0, I 0, I 0, I 0, I 0] 44) :: (b2, blk [I v.x, I v.y] 36) :: (b1, blk (clR r) 25) :: H) (by rw [k_yn (l := (dupX r v x ++ [(val v ⟨x, (rowOf r x).a⟩)])) (z := (val v ⟨x, (rowOf r x).b⟩)) (not_snoc _ _) h77 h89]; exact (by repeat first | exact .refl _ | refine .cons_cons _ ?_ | refine .cons _ ?_ | exact sl0 _ | refine slA ?_)) ?_
                    | refine VRun.sub (H' := (b4, blk (clK (dupX r v x ++ [(val v ⟨x, (rowOf r x).a⟩)] ++ [(val v ⟨x, (rowOf r x).b⟩)])) 44) :: (b3, blk [I 0, I 0, I 0, I 0, I 0, I 0] 44) :: (b2, blk [I v.x, I v.y] 36) :: (b1, blk (clR r) 25) :: H) (by rw [k_ny (l := (dupX r v x ++ [(val v ⟨x, (rowOf r x).a⟩)])) (z := (val v ⟨x, (rowOf r x).b⟩)) (not_snoc _ _) h77 h89]; exact (by repeat first | exact .refl _ | refine .cons_cons _ ?_ | refine .cons _ ?_ | exact sl0 _ | refine slA ?_)) ?_
                    | refine VRun.sub (H' := (b4, blk (clK (dupX r v x ++ [(val v ⟨x, (rowOf r x).a⟩)] ++ [(val v ⟨x, (rowOf r x).b⟩)])) 44) :: (b3, blk [I 0, I 0, I 0, I 0, I 0, I 0] 44) :: (b2, blk [I v.x, I v.y] 36) :: (b1, blk (clR r) 25) :: H) (by rw [k_nn (l := (dupX r v x ++ [(val v ⟨x, (rowOf r x).a⟩)])) (z := (val v ⟨x, (rowOf r x).b⟩)) (not_snoc _ _) h77 h89]; exact (by repeat first | exact .refl _ | refine .cons_cons _ ?_ | refine .cons _ ?_ | exact sl0 _ | refine slA ?_)) ?_
                  refine vinloop1 ?_
                  refine vseq ?_
                  refine vregion ?_
                  refine vone rfl (vxq (vlss rfl rfl) rfl rfl ?_)
                  refine vnil ?_
                  refine vseq ?_
                  refine vcondf rfl ?_
                  refine vexit (k' := _) rfl ?_
                  refine vinblock ?_
                  refine vregion ?_
                  refine vone rfl (vxq (vmv rfl) rfl rfl ?_)
                  refine vone rfl (vxq (vadd rfl rfl (by unfold InR; omega)) rfl rfl ?_)
                  refine vone rfl (vxq (vas rfl) rfl rfl ?_)
                  refine vnil ?_
                  first
                    | (have he : dupX r v (x + 1) = dupX r v x := dupX_no hx1 (by omega)
                       exact vback (IH (x + 1) ⟨by omega, by omega⟩ (by show (_ : Int).toNat < (_ : Int).toNat; omega)) ⟨rfl, rfl, rfl, rfl, rfl, by rw [he]; rfl, rfl, True.intro⟩ (by rw [he]; exact (by repeat first | exact .refl _ | refine .cons_cons _ ?_ | refine .cons _ ?_ | exact sl0 _ | refine slA ?_)))
                    | (have he : dupX r v (x + 1) = _ := dupX_yes hx1 (by omega)
                       exact vback (IH (x + 1) ⟨by omega, by omega⟩ (by show (_ : Int).toNat < (_ : Int).toNat; omega)) ⟨rfl, rfl, rfl, rfl, rfl, by rw [he]; exact congrArg some (congrArg Value.bool (is_snoc _ _).symm), rfl, True.intro⟩ (by rw [he]; exact (by repeat first | exact .refl _ | refine .cons_cons _ ?_ | refine .cons _ ?_ | exact sl0 _ | refine slA ?_)))
              · skip
                refine vskip ?_
                refine vseq ?_
                refine vseq ?_
                refine vregion ?_
                refine vone rfl (vxq (vmv rfl) rfl rfl ?_)
                refine vone rfl (vxq (vnot rfl) rfl rfl ?_)
                refine vone rfl (vxq (vmv rfl) rfl rfl ?_)
                refine vyes rfl rfl rfl (vxq (vmv rfl) rfl rfl ?_)
                refine vyes rfl rfl rfl (vxq (vfa rfl) rfl rfl ?_)
                refine vyes rfl rfl rfl (vxq (vld1 rfl rfl) rfl rfl ?_)
                refine vyes rfl rfl rfl (vxq (vgtr rfl rfl) rfl rfl ?_)
                refine vone rfl (vxq (vpkf rfl rfl) rfl rfl ?_)
                refine vnil ?_
                refine vcondd rfl (fun h89 => ?_) (fun h89 => ?_)
                · skip
                  refine vdraw1 (d := 7) rfl [(.q, 0), (.q, 1), (.q, 2), (.s, 3), (.q, 4), (.s, 5)] Try.mixed (by kernel_rfl) (allocOk_of _ (by kernel_rfl)) ?_
                  refine vdq (mone rfl) (vmv rfl) rfl rfl ?_
                  refine vdq (mone rfl) (vldn rfl rfl) rfl rfl ?_
                  refine vdq (mone rfl) (vfa rfl) rfl rfl ?_
                  refine vds (mone rfl) (vst1 rfl rfl rfl rfl) rfl ?_
                  refine vdq (mone rfl) (vfa rfl) rfl rfl ?_
                  refine vds (mone rfl) (vstn rfl rfl rfl rfl rfl) rfl ?_
                  refine vdend rfl ?_
                  refine vregion ?_
                  refine vone rfl (vxq (vas rfl) rfl rfl ?_)
                  refine vnil ?_
                  refine vinblock ?_
                  refine vregion ?_
                  refine vone rfl (vxq (vadd rfl rfl (by unfold InR; omega)) rfl rfl ?_)
                  refine vone rfl (vxq (vmv rfl) rfl rfl ?_)
                  refine vnil ?_
                  first
                    | refine VRun.sub (H' := (b4, blk (clK (dupX r v x ++ [(val v ⟨x, (rowOf r x).a⟩)] ++ [(val v ⟨x, (rowOf r x).b⟩)])) 44) :: (b3, blk [I 0, I 0, I 0, I 0, I 0, I 0] 44) :: (b2, blk [I v.x, I v.y] 36) :: (b1, blk (clR r) 25) :: H) (by rw [k_yy (l := (dupX r v x ++ [(val v ⟨x, (rowOf r x).a⟩)])) (z := (val v ⟨x, (rowOf r x).b⟩)) (not_snoc _ _) h77 h89]; exact (by repeat first | exact .refl _ | refine .cons_cons _ ?_ | refine .cons _ ?_ | exact sl0 _ | refine slA ?_)) ?_
                    | refine VRun.sub (H' := (b4, blk (clK (dupX r v x ++ [(val v ⟨x, (rowOf r x).a⟩)] ++ [(val v ⟨x, (rowOf r x).b⟩)])) 44) :: (b3, blk [I 0, I 0, I 0, I 0, I 0, I 0] 44) :: (b2, blk [I v.x, I v.y] 36) :: (b1, blk (clR r) 25) :: H) (by rw [k_yn (l := (dupX r v x ++ [(val v ⟨x, (rowOf r x).a⟩)])) (z := (val v ⟨x, (rowOf r x).b⟩)) (not_snoc _ _) h77 h89]; exact (by repeat first | exact .refl _ | refine .cons_cons _ ?_ | refine .cons _ ?_ | exact sl0 _ | refine slA ?_)) ?_
                    | refine VRun.sub (H' := (b4, blk (clK (dupX r v x ++ [(val v ⟨x, (rowOf r x).a⟩)] ++ [(val v ⟨x, (rowOf r x).b⟩)])) 44) :: (b3, blk [I 0, I 0, I 0, I 0, I 0, I 0] 44) :: (b2, blk [I v.x, I v.y] 36) :: (b1, blk (clR r) 25) :: H) (by rw [k_ny (l := (dupX r v x ++ [(val v ⟨x, (rowOf r x).a⟩)])) (z := (val v ⟨x, (rowOf r x).b⟩)) (not_snoc _ _) h77 h89]; exact (by repeat first | exact .refl _ | refine .cons_cons _ ?_ | refine .cons _ ?_ | exact sl0 _ | refine slA ?_)) ?_
                    | refine VRun.sub (H' := (b4, blk (clK (dupX r v x ++ [(val v ⟨x, (rowOf r x).a⟩)] ++ [(val v ⟨x, (rowOf r x).b⟩)])) 44) :: (b3, blk [I 0, I 0, I 0, I 0, I 0, I 0] 44) :: (b2, blk [I v.x, I v.y] 36) :: (b1, blk (clR r) 25) :: H) (by rw [k_nn (l := (dupX r v x ++ [(val v ⟨x, (rowOf r x).a⟩)])) (z := (val v ⟨x, (rowOf r x).b⟩)) (not_snoc _ _) h77 h89]; exact (by repeat first | exact .refl _ | refine .cons_cons _ ?_ | refine .cons _ ?_ | exact sl0 _ | refine slA ?_)) ?_
                  refine vinloop1 ?_
                  refine vseq ?_
                  refine vregion ?_
                  refine vone rfl (vxq (vlss rfl rfl) rfl rfl ?_)
                  refine vnil ?_
                  refine vseq ?_
                  refine vcondf rfl ?_
                  refine vexit (k' := _) rfl ?_
                  refine vinblock ?_
                  refine vregion ?_
                  refine vone rfl (vxq (vmv rfl) rfl rfl ?_)
                  refine vone rfl (vxq (vadd rfl rfl (by unfold InR; omega)) rfl rfl ?_)
                  refine vone rfl (vxq (vas rfl) rfl rfl ?_)
                  refine vnil ?_
                  first
                    | (have he : dupX r v (x + 1) = dupX r v x := dupX_no hx1 (by omega)
                       exact vback (IH (x + 1) ⟨by omega, by omega⟩ (by show (_ : Int).toNat < (_ : Int).toNat; omega)) ⟨rfl, rfl, rfl, rfl, rfl, by rw [he]; rfl, rfl, True.intro⟩ (by rw [he]; exact (by repeat first | exact .refl _ | refine .cons_cons _ ?_ | refine .cons _ ?_ | exact sl0 _ | refine slA ?_)))
                    | (have he : dupX r v (x + 1) = _ := dupX_yes hx1 (by omega)
                       exact vback (IH (x + 1) ⟨by omega, by omega⟩ (by show (_ : Int).toNat < (_ : Int).toNat; omega)) ⟨rfl, rfl, rfl, rfl, rfl, by rw [he]; exact congrArg some (congrArg Value.bool (is_snoc _ _).symm), rfl, True.intro⟩ (by rw [he]; exact (by repeat first | exact .refl _ | refine .cons_cons _ ?_ | refine .cons _ ?_ | exact sl0 _ | refine slA ?_)))
                · skip
                  refine vskip ?_
                  refine vregion ?_
                  refine vone rfl (vxq (vas rfl) rfl rfl ?_)
                  refine vnil ?_
                  refine vinblock ?_
                  refine vregion ?_
                  refine vone rfl (vxq (vadd rfl rfl (by unfold InR; omega)) rfl rfl ?_)
                  refine vone rfl (vxq (vmv rfl) rfl rfl ?_)
                  refine vnil ?_
                  first
                    | refine VRun.sub (H' := (b4, blk (clK (dupX r v x ++ [(val v ⟨x, (rowOf r x).a⟩)] ++ [(val v ⟨x, (rowOf r x).b⟩)])) 44) :: (b3, blk [I 0, I 0, I 0, I 0, I 0, I 0] 44) :: (b2, blk [I v.x, I v.y] 36) :: (b1, blk (clR r) 25) :: H) (by rw [k_yy (l := (dupX r v x ++ [(val v ⟨x, (rowOf r x).a⟩)])) (z := (val v ⟨x, (rowOf r x).b⟩)) (not_snoc _ _) h77 h89]; exact (by repeat first | exact .refl _ | refine .cons_cons _ ?_ | refine .cons _ ?_ | exact sl0 _ | refine slA ?_)) ?_
                    | refine VRun.sub (H' := (b4, blk (clK (dupX r v x ++ [(val v ⟨x, (rowOf r x).a⟩)] ++ [(val v ⟨x, (rowOf r x).b⟩)])) 44) :: (b3, blk [I 0, I 0, I 0, I 0, I 0, I 0] 44) :: (b2, blk [I v.x, I v.y] 36) :: (b1, blk (clR r) 25) :: H) (by rw [k_yn (l := (dupX r v x ++ [(val v ⟨x, (rowOf r x).a⟩)])) (z := (val v ⟨x, (rowOf r x).b⟩)) (not_snoc _ _) h77 h89]; exact (by repeat first | exact .refl _ | refine .cons_cons _ ?_ | refine .cons _ ?_ | exact sl0 _ | refine slA ?_)) ?_
                    | refine VRun.sub (H' := (b4, blk (clK (dupX r v x ++ [(val v ⟨x, (rowOf r x).a⟩)] ++ [(val v ⟨x, (rowOf r x).b⟩)])) 44) :: (b3, blk [I 0, I 0, I 0, I 0, I 0, I 0] 44) :: (b2, blk [I v.x, I v.y] 36) :: (b1, blk (clR r) 25) :: H) (by rw [k_ny (l := (dupX r v x ++ [(val v ⟨x, (rowOf r x).a⟩)])) (z := (val v ⟨x, (rowOf r x).b⟩)) (not_snoc _ _) h77 h89]; exact (by repeat first | exact .refl _ | refine .cons_cons _ ?_ | refine .cons _ ?_ | exact sl0 _ | refine slA ?_)) ?_
                    | refine VRun.sub (H' := (b4, blk (clK (dupX r v x ++ [(val v ⟨x, (rowOf r x).a⟩)] ++ [(val v ⟨x, (rowOf r x).b⟩)])) 44) :: (b3, blk [I 0, I 0, I 0, I 0, I 0, I 0] 44) :: (b2, blk [I v.x, I v.y] 36) :: (b1, blk (clR r) 25) :: H) (by rw [k_nn (l := (dupX r v x ++ [(val v ⟨x, (rowOf r x).a⟩)])) (z := (val v ⟨x, (rowOf r x).b⟩)) (not_snoc _ _) h77 h89]; exact (by repeat first | exact .refl _ | refine .cons_cons _ ?_ | refine .cons _ ?_ | exact sl0 _ | refine slA ?_)) ?_
                  refine vinloop1 ?_
                  refine vseq ?_
                  refine vregion ?_
                  refine vone rfl (vxq (vlss rfl rfl) rfl rfl ?_)
                  refine vnil ?_
                  refine vseq ?_
                  refine vcondf rfl ?_
                  refine vexit (k' := _) rfl ?_
                  refine vinblock ?_
                  refine vregion ?_
                  refine vone rfl (vxq (vmv rfl) rfl rfl ?_)
                  refine vone rfl (vxq (vadd rfl rfl (by unfold InR; omega)) rfl rfl ?_)
                  refine vone rfl (vxq (vas rfl) rfl rfl ?_)
                  refine vnil ?_
                  first
                    | (have he : dupX r v (x + 1) = dupX r v x := dupX_no hx1 (by omega)
                       exact vback (IH (x + 1) ⟨by omega, by omega⟩ (by show (_ : Int).toNat < (_ : Int).toNat; omega)) ⟨rfl, rfl, rfl, rfl, rfl, by rw [he]; rfl, rfl, True.intro⟩ (by rw [he]; exact (by repeat first | exact .refl _ | refine .cons_cons _ ?_ | refine .cons _ ?_ | exact sl0 _ | refine slA ?_)))
                    | (have he : dupX r v (x + 1) = _ := dupX_yes hx1 (by omega)
                       exact vback (IH (x + 1) ⟨by omega, by omega⟩ (by show (_ : Int).toNat < (_ : Int).toNat; omega)) ⟨rfl, rfl, rfl, rfl, rfl, by rw [he]; exact congrArg some (congrArg Value.bool (is_snoc _ _).symm), rfl, True.intro⟩ (by rw [he]; exact (by repeat first | exact .refl _ | refine .cons_cons _ ?_ | refine .cons _ ?_ | exact sl0 _ | refine slA ?_)))
            · skip
              refine vyes rfl rfl rfl (vxq (vmv rfl) rfl rfl ?_)
              refine vyes rfl rfl rfl (vxq (vfa rfl) rfl rfl ?_)
              refine vyes rfl rfl rfl (vxq (vld1 rfl rfl) rfl rfl ?_)
              refine vyes rfl rfl rfl (vxq (vlss rfl rfl) rfl rfl ?_)
              refine vone rfl (vxq (vpkf rfl rfl) rfl rfl ?_)
              refine vnil ?_
              refine vcondd rfl (fun h77 => ?_) (fun h77 => ?_)
              · skip
                refine vdraw1 (d := 7) rfl [(.q, 0), (.q, 1), (.q, 2), (.s, 3), (.q, 4), (.s, 5)] Try.mixed (by kernel_rfl) (allocOk_of _ (by kernel_rfl)) ?_
                refine vdq (mone rfl) (vmv rfl) rfl rfl ?_
                refine vdq (mone rfl) (vldn rfl rfl) rfl rfl ?_
                refine vdq (mone rfl) (vfa rfl) rfl rfl ?_
                refine vds (mone rfl) (vst1 rfl rfl rfl rfl) rfl ?_
                refine vdq (mone rfl) (vfa rfl) rfl rfl ?_
                refine vds (mone rfl) (vstn rfl rfl rfl rfl rfl) rfl ?_
                refine vdend rfl ?_
                refine vseq ?_
                refine vseq ?_
                refine vregion ?_
                refine vone rfl (vxq (vmv rfl) rfl rfl ?_)
                refine vone rfl (vxq (vnot rfl) rfl rfl ?_)
                refine vone rfl (vxq (vmv rfl) rfl rfl ?_)
                refine vknow (d := 84) (b' := false) rfl h72 ?_
                refine vyes rfl rfl rfl (vxq (vmv rfl) rfl rfl ?_)
                refine vyes rfl rfl rfl (vxq (vfa rfl) rfl rfl ?_)
                refine vyes rfl rfl rfl (vxq (vld1 rfl rfl) rfl rfl ?_)
                refine vyes rfl rfl rfl (vxq (vgtr rfl rfl) rfl rfl ?_)
                refine vone rfl (vxq (vpkf rfl rfl) rfl rfl ?_)
                refine vnil ?_
                refine vcondd rfl (fun h89 => ?_) (fun h89 => ?_)
                · skip
                  refine vdraw1 (d := 7) rfl [(.q, 0), (.q, 1), (.q, 2), (.s, 3), (.q, 4), (.s, 5)] Try.mixed (by kernel_rfl) (allocOk_of _ (by kernel_rfl)) ?_
                  refine vdq (mone rfl) (vmv rfl) rfl rfl ?_
                  refine vdq (mone rfl) (vldn rfl rfl) rfl rfl ?_
                  refine vdq (mone rfl) (vfa rfl) rfl rfl ?_
                  refine vds (mone rfl) (vst1 rfl rfl rfl rfl) rfl ?_
                  refine vdq (mone rfl) (vfa rfl) rfl rfl ?_
                  refine vds (mone rfl) (vstn rfl rfl rfl rfl rfl) rfl ?_
                  refine vdend rfl ?_
                  refine vregion ?_
                  refine vone rfl (vxq (vas rfl) rfl rfl ?_)
                  refine vnil ?_
                  refine vinblock ?_
                  refine vregion ?_
                  refine vone rfl (vxq (vadd rfl rfl (by unfold InR; omega)) rfl rfl ?_)
                  refine vone rfl (vxq (vmv rfl) rfl rfl ?_)
                  refine vnil ?_
                  first
                    | refine VRun.sub (H' := (b4, blk (clK (dupX r v x ++ [(val v ⟨x, (rowOf r x).a⟩)])) 44) :: (b3, blk [I 0, I 0, I 0, I 0, I 0, I 0] 44) :: (b2, blk [I v.x, I v.y] 36) :: (b1, blk (clR r) 25) :: H) (by rw [k_n (l := (dupX r v x)) (z := (val v ⟨x, (rowOf r x).a⟩)) h72]; exact (by repeat first | exact .refl _ | refine .cons_cons _ ?_ | refine .cons _ ?_ | exact sl0 _ | refine slA ?_)) ?_
                    | refine VRun.sub (H' := (b4, blk (clK (dupX r v x ++ [(val v ⟨x, (rowOf r x).a⟩)])) 44) :: (b3, blk [I 0, I 0, I 0, I 0, I 0, I 0] 44) :: (b2, blk [I v.x, I v.y] 36) :: (b1, blk (clR r) 25) :: H) (by rw [k_yy (l := (dupX r v x)) (z := (val v ⟨x, (rowOf r x).a⟩)) h72 h77 h89]; exact (by repeat first | exact .refl _ | refine .cons_cons _ ?_ | refine .cons _ ?_ | exact sl0 _ | refine slA ?_)) ?_
                    | refine VRun.sub (H' := (b4, blk (clK (dupX r v x ++ [(val v ⟨x, (rowOf r x).a⟩)])) 44) :: (b3, blk [I 0, I 0, I 0, I 0, I 0, I 0] 44) :: (b2, blk [I v.x, I v.y] 36) :: (b1, blk (clR r) 25) :: H) (by rw [k_yn (l := (dupX r v x)) (z := (val v ⟨x, (rowOf r x).a⟩)) h72 h77 h89]; exact (by repeat first | exact .refl _ | refine .cons_cons _ ?_ | refine .cons _ ?_ | exact sl0 _ | refine slA ?_)) ?_
                    | refine VRun.sub (H' := (b4, blk (clK (dupX r v x ++ [(val v ⟨x, (rowOf r x).a⟩)])) 44) :: (b3, blk [I 0, I 0, I 0, I 0, I 0, I 0] 44) :: (b2, blk [I v.x, I v.y] 36) :: (b1, blk (clR r) 25) :: H) (by rw [k_ny (l := (dupX r v x)) (z := (val v ⟨x, (rowOf r x).a⟩)) h72 h77 h89]; exact (by repeat first | exact .refl _ | refine .cons_cons _ ?_ | refine .cons _ ?_ | exact sl0 _ | refine slA ?_)) ?_
                    | refine VRun.sub (H' := (b4, blk (clK (dupX r v x ++ [(val v ⟨x, (rowOf r x).a⟩)])) 44) :: (b3, blk [I 0, I 0, I 0, I 0, I 0, I 0] 44) :: (b2, blk [I v.x, I v.y] 36) :: (b1, blk (clR r) 25) :: H) (by rw [k_nn (l := (dupX r v x)) (z := (val v ⟨x, (rowOf r x).a⟩)) h72 h77 h89]; exact (by repeat first | exact .refl _ | refine .cons_cons _ ?_ | refine .cons _ ?_ | exact sl0 _ | refine slA ?_)) ?_
                  refine vinloop1 ?_
                  refine vseq ?_
                  refine vregion ?_
                  refine vone rfl (vxq (vlss rfl rfl) rfl rfl ?_)
                  refine vnil ?_
                  refine vseq ?_
                  refine vcondt rfl ?_
                  refine vskip ?_
                  refine vseq ?_
                  refine vblock ?_
                  refine vseq ?_
                  refine vregion ?_
                  refine vone rfl (vxq (vixa1 rfl rfl (by omega) rfl) rfl rfl ?_)
                  refine vone rfl (vxq (vas rfl) rfl rfl ?_)
                  refine vnil ?_
                  refine vseq ?_
                  refine vregion ?_
                  refine vone rfl (vxq (vfa rfl) rfl rfl ?_)
                  refine vone rfl (vxq (vld1 rfl rfl) rfl rfl ?_)
                  refine vone rfl (vxq (vmv rfl) rfl rfl ?_)
                  refine vone rfl (vxq (vmul rfl rfl (by unfold InR; omega)) rfl rfl ?_)
                  refine vone rfl (vxq (vfa rfl) rfl rfl ?_)
                  refine vone rfl (vxq (vld1 rfl rfl) rfl rfl ?_)
                  refine vone rfl (vxq (vmv rfl) rfl rfl ?_)
                  refine vone rfl (vxq (vmul rfl rfl (by unfold InR; omega)) rfl rfl ?_)
                  refine vone rfl (vxq (vadd rfl rfl (by unfold InR; omega)) rfl rfl ?_)
                  refine vone rfl (vxq (vmv rfl) rfl rfl ?_)
                  refine vone rfl (vxq (vmv rfl) rfl rfl ?_)
                  refine vone rfl (vxq (vbd rfl rfl) rfl rfl ?_)
                  refine vone rfl (vxa valloc rfl rfl (fun b8 => ?_))
                  refine vone rfl (vxq (vas rfl) rfl rfl ?_)
                  refine vone rfl (vxs (vstn rfl rfl rfl rfl rfl) rfl ?_)
                  refine vnil ?_
                  refine vseq ?_
                  refine vseq ?_
                  refine vregion ?_
                  refine vone rfl (vxq (vmv rfl) rfl rfl ?_)
                  refine vone rfl (vxq (vnot rfl) rfl rfl ?_)
                  refine vone rfl (vxq (vmv rfl) rfl rfl ?_)
                  refine vyes rfl rfl rfl (vxq (vmv rfl) rfl rfl ?_)
                  refine vyes rfl rfl rfl (vxq (vfa rfl) rfl rfl ?_)
                  refine vyes rfl rfl rfl (vxq (vld1 rfl rfl) rfl rfl ?_)
                  refine vyes rfl rfl rfl (vxq (vlss rfl rfl) rfl rfl ?_)
                  refine vone rfl (vxq (vpkf rfl rfl) rfl rfl ?_)
                  refine vnil ?_
                  refine vcondd rfl (fun h77 => ?_) (fun h77 => ?_)
                  · skip
                    refine vdraw1 (d := 7) rfl [(.q, 0), (.q, 1), (.q, 2), (.s, 3), (.q, 4), (.s, 5)] Try.mixed (by kernel_rfl) (allocOk_of _ (by kernel_rfl)) ?_
                    refine vdq (mone rfl) (vmv rfl) rfl rfl ?_
                    refine vdq (mone rfl) (vldn rfl rfl) rfl rfl ?_
                    refine vdq (mone rfl) (vfa rfl) rfl rfl ?_
                    refine vds (mone rfl) (vst1 rfl rfl rfl rfl) rfl ?_
                    refine vdq (mone rfl) (vfa rfl) rfl rfl ?_
                    refine vds (mone rfl) (vstn rfl rfl rfl rfl rfl) rfl ?_
                    refine vdend rfl ?_
                    refine vseq ?_
                    refine vseq ?_
                    refine vregion ?_
                    refine vone rfl (vxq (vmv rfl) rfl rfl ?_)
                    refine vone rfl (vxq (vnot rfl) rfl rfl ?_)
                    refine vone rfl (vxq (vmv rfl) rfl rfl ?_)
                    refine vyes rfl rfl rfl (vxq (vmv rfl) rfl rfl ?_)
                    refine vyes rfl rfl rfl (vxq (vfa rfl) rfl rfl ?_)
                    refine vyes rfl rfl rfl (vxq (vld1 rfl rfl) rfl rfl ?_)
                    refine vyes rfl rfl rfl (vxq (vgtr rfl rfl) rfl rfl ?_)
                    refine vone rfl (vxq (vpkf rfl rfl) rfl rfl ?_)
                    refine vnil ?_
                    refine vcondd rfl (fun h89 => ?_) (fun h89 => ?_)
                    · skip
                      refine vdraw1 (d := 7) rfl [(.q, 0), (.q, 1), (.q, 2), (.s, 3), (.q, 4), (.s, 5)] Try.mixed (by kernel_rfl) (allocOk_of _ (by kernel_rfl)) ?_
                      refine vdq (mone rfl) (vmv rfl) rfl rfl ?_
                      refine vdq (mone rfl) (vldn rfl rfl) rfl rfl ?_
                      refine vdq (mone rfl) (vfa rfl) rfl rfl ?_
                      refine vds (mone rfl) (vst1 rfl rfl rfl rfl) rfl ?_
                      refine vdq (mone rfl) (vfa rfl) rfl rfl ?_
                      refine vds (mone rfl) (vstn rfl rfl rfl rfl rfl) rfl ?_
                      refine vdend rfl ?_
                      refine vregion ?_
                      refine vone rfl (vxq (vas rfl) rfl rfl ?_)
                      refine vnil ?_
                      refine vinblock ?_
                      refine vregion ?_
                      refine vone rfl (vxq (vadd rfl rfl (by unfold InR; omega)) rfl rfl ?_)
                      refine vone rfl (vxq (vmv rfl) rfl rfl ?_)
                      refine vnil ?_
                      first
                        | refine VRun.sub (H' := (b4, blk (clK (dupX r v x ++ [(val v ⟨x, (rowOf r x).a⟩)] ++ [(val v ⟨x, (rowOf r x).b⟩)])) 44) :: (b3, blk [I 0, I 0, I 0, I 0, I 0, I 0] 44) :: (b2, blk [I v.x, I v.y] 36) :: (b1, blk (clR r) 25) :: H) (by rw [k_yy (l := (dupX r v x ++ [(val v ⟨x, (rowOf r x).a⟩)])) (z := (val v ⟨x, (rowOf r x).b⟩)) (not_snoc _ _) h77 h89]; exact (by repeat first | exact .refl _ | refine .cons_cons _ ?_ | refine .cons _ ?_ | exact sl0 _ | refine slA ?_)) ?_
                        | refine VRun.sub (H' := (b4, blk (clK (dupX r v x ++ [(val v ⟨x, (rowOf r x).a⟩)] ++ [(val v ⟨x, (rowOf r x).b⟩)])) 44) :: (b3, blk [I 0, I 0, I 0, I 0, I 0, I 0] 44) :: (b2, blk [I v.x, I v.y] 36) :: (b1, blk (clR r) 25) :: H) (by rw [k_yn (l := (dupX r v x ++ [(val v ⟨x, (rowOf r x).a⟩)])) (z := (val v ⟨x, (rowOf r x).b⟩)) (not_snoc _ _) h77 h89]; exact (by repeat first | exact .refl _ | refine .cons_cons _ ?_ | refine .cons _ ?_ | exact sl0 _ | refine slA ?_)) ?_
                        | refine VRun.sub (H' := (b4, blk (clK (dupX r v x ++ [(val v ⟨x, (rowOf r x).a⟩)] ++ [(val v ⟨x, (rowOf r x).b⟩)])) 44) :: (b3, blk [I 0, I 0, I 0, I 0, I 0, I 0] 44) :: (b2, blk [I v.x, I v.y] 36) :: (b1, blk (clR r) 25) :: H) (by rw [k_ny (l := (dupX r v x ++ [(val v ⟨x, (rowOf r x).a⟩)])) (z := (val v ⟨x, (rowOf r x).b⟩)) (not_snoc _ _) h77 h89]; exact (by repeat first | exact .refl _ | refine .cons_cons _ ?_ | refine .cons _ ?_ | exact sl0 _ | refine slA ?_)) ?_
                        | refine VRun.sub (H' := (b4, blk (clK (dupX r v x ++ [(val v ⟨x, (rowOf r x).a⟩)] ++ [(val v ⟨x, (rowOf r x).b⟩)])) 44) :: (b3, blk [I 0, I 0, I 0, I 0, I 0, I 0] 44) :: (b2, blk [I v.x, I v.y] 36) :: (b1, blk (clR r) 25) :: H) (by rw [k_nn (l := (dupX r v x ++ [(val v ⟨x, (rowOf r x).a⟩)])) (z := (val v ⟨x, (rowOf r x).b⟩)) (not_snoc _ _) h77 h89]; exact (by repeat first | exact .refl _ | refine .cons_cons _ ?_ | refine .cons _ ?_ | exact sl0 _ | refine slA ?_)) ?_
                      refine vinloop1 ?_
                      refine vseq ?_
                      refine vregion ?_
                      refine vone rfl (vxq (vlss rfl rfl) rfl rfl ?_)
                      refine vnil ?_
                      refine vseq ?_
                      refine vcondf rfl ?_
                      refine vexit (k' := _) rfl ?_
                      refine vinblock ?_
                      refine vregion ?_
                      refine vone rfl (vxq (vmv rfl) rfl rfl ?_)
                      refine vone rfl (vxq (vadd rfl rfl (by unfold InR; omega)) rfl rfl ?_)
                      refine vone rfl (vxq (vas rfl) rfl rfl ?_)
                      refine vnil ?_
                      first
                        | (have he : dupX r v (x + 1) = dupX r v x := dupX_no hx1 (by omega)
                           exact vback (IH (x + 1) ⟨by omega, by omega⟩ (by show (_ : Int).toNat < (_ : Int).toNat; omega)) ⟨rfl, rfl, rfl, rfl, rfl, by rw [he]; rfl, rfl, True.intro⟩ (by rw [he]; exact (by repeat first | exact .refl _ | refine .cons_cons _ ?_ | refine .cons _ ?_ | exact sl0 _ | refine slA ?_)))
                        | (have he : dupX r v (x + 1) = _ := dupX_yes hx1 (by omega)
                           exact vback (IH (x + 1) ⟨by omega, by omega⟩ (by show (_ : Int).toNat < (_ : Int).toNat; omega)) ⟨rfl, rfl, rfl, rfl, rfl, by rw [he]; exact congrArg some (congrArg Value.bool (is_snoc _ _).symm), rfl, True.intro⟩ (by rw [he]; exact (by repeat first | exact .refl _ | refine .cons_cons _ ?_ | refine .cons _ ?_ | exact sl0 _ | refine slA ?_)))
                    · skip
                      refine vskip ?_
                      refine vregion ?_
                      refine vone rfl (vxq (vas rfl) rfl rfl ?_)
                      refine vnil ?_
                      refine vinblock ?_
                      refine vregion ?_
                      refine vone rfl (vxq (vadd rfl rfl (by unfold InR; omega)) rfl rfl ?_)
                      refine vone rfl (vxq (vmv rfl) rfl rfl ?_)
                      refine vnil ?_
                      first
                        | refine VRun.sub (H' := (b4, blk (clK (dupX r v x ++ [(val v ⟨x, (rowOf r x).a⟩)] ++ [(val v ⟨x, (rowOf r x).b⟩)])) 44) :: (b3, blk [I 0, I 0, I 0, I 0, I 0, I 0] 44) :: (b2, blk [I v.x, I v.y] 36) :: (b1, blk (clR r) 25) :: H) (by rw [k_yy (l := (dupX r v x ++ [(val v ⟨x, (rowOf r x).a⟩)])) (z := (val v ⟨x, (rowOf r x).b⟩)) (not_snoc _ _) h77 h89]; exact (by repeat first | exact .refl _ | refine .cons_cons _ ?_ | refine .cons _ ?_ | exact sl0 _ | refine slA ?_)) ?_
                        | refine VRun.sub (H' := (b4, blk (clK (dupX r v x ++ [(val v ⟨x, (rowOf r x).a⟩)] ++ [(val v ⟨x, (rowOf r x).b⟩)])) 44) :: (b3, blk [I 0, I 0, I 0, I 0, I 0, I 0] 44) :: (b2, blk [I v.x, I v.y] 36) :: (b1, blk (clR r) 25) :: H) (by rw [k_yn (l := (dupX r v x ++ [(val v ⟨x, (rowOf r x).a⟩)])) (z := (val v ⟨x, (rowOf r x).b⟩)) (not_snoc _ _) h77 h89]; exact (by repeat first | exact .refl _ | refine .cons_cons _ ?_ | refine .cons _ ?_ | exact sl0 _ | refine slA ?_)) ?_
                        | refine VRun.sub (H' := (b4, blk (clK (dupX r v x ++ [(val v ⟨x, (rowOf r x).a⟩)] ++ [(val v ⟨x, (rowOf r x).b⟩)])) 44) :: (b3, blk [I 0, I 0, I 0, I 0, I 0, I 0] 44) :: (b2, blk [I v.x, I v.y] 36) :: (b1, blk (clR r) 25) :: H) (by rw [k_ny (l := (dupX r v x ++ [(val v ⟨x, (rowOf r x).a⟩)])) (z := (val v ⟨x, (rowOf r x).b⟩)) (not_snoc _ _) h77 h89]; exact (by repeat first | exact .refl _ | refine .cons_cons _ ?_ | refine .cons _ ?_ | exact sl0 _ | refine slA ?_)) ?_
                        | refine VRun.sub (H' := (b4, blk (clK (dupX r v x ++ [(val v ⟨x, (rowOf r x).a⟩)] ++ [(val v ⟨x, (rowOf r x).b⟩)])) 44) :: (b3, blk [I 0, I 0, I 0, I 0, I 0, I 0] 44) :: (b2, blk [I v.x, I v.y] 36) :: (b1, blk (clR r) 25) :: H) (by rw [k_nn (l := (dupX r v x ++ [(val v ⟨x, (rowOf r x).a⟩)])) (z := (val v ⟨x, (rowOf r x).b⟩)) (not_snoc _ _) h77 h89]; exact (by repeat first | exact .refl _ | refine .cons_cons _ ?_ | refine .cons _ ?_ | exact sl0 _ | refine slA ?_)) ?_
                      refine vinloop1 ?_
                      refine vseq ?_
                      refine vregion ?_
                      refine vone rfl (vxq (vlss rfl rfl) rfl rfl ?_)
                      refine vnil ?_
                      refine vseq ?_
                      refine vcondf rfl ?_
                      refine vexit (k' := _) rfl ?_
                      refine vinblock ?_
                      refine vregion ?_
                      refine vone rfl (vxq (vmv rfl) rfl rfl ?_)
                      refine vone rfl (vxq (vadd rfl rfl (by unfold InR; omega)) rfl rfl ?_)
                      refine vone rfl (vxq (vas rfl) rfl rfl ?_)
                      refine vnil ?_
                      first
                        | (have he : dupX r v (x + 1) = dupX r v x := dupX_no hx1 (by omega)
                           exact vback (IH (x + 1) ⟨by omega, by omega⟩ (by show (_ : Int).toNat < (_ : Int).toNat; omega)) ⟨rfl, rfl, rfl, rfl, rfl, by rw [he]; rfl, rfl, True.intro⟩ (by rw [he]; exact (by repeat first | exact .refl _ | refine .cons_cons _ ?_ | refine .cons _ ?_ | exact sl0 _ | refine slA ?_)))
                        | (have he : dupX r v (x + 1) = _ := dupX_yes hx1 (by omega)
                           exact vback (IH (x + 1) ⟨by omega, by omega⟩ (by show (_ : Int).toNat < (_ : Int).toNat; omega)) ⟨rfl, rfl, rfl, rfl, rfl, by rw [he]; exact congrArg some (congrArg Value.bool (is_snoc _ _).symm), rfl, True.intro⟩ (by rw [he]; exact (by repeat first | exact .refl _ | refine .cons_cons _ ?_ | refine .cons _ ?_ | exact sl0 _ | refine slA ?_)))
                  · skip
                    refine vskip ?_
                    refine vseq ?_
                    refine vseq ?_
                    refine vregion ?_
                    refine vone rfl (vxq (vmv rfl) rfl rfl ?_)
                    refine vone rfl (vxq (vnot rfl) rfl rfl ?_)
                    refine vone rfl (vxq (vmv rfl) rfl rfl ?_)
                    refine vyes rfl rfl rfl (vxq (vmv rfl) rfl rfl ?_)
                    refine vyes rfl rfl rfl (vxq (vfa rfl) rfl rfl ?_)
                    refine vyes rfl rfl rfl (vxq (vld1 rfl rfl) rfl rfl ?_)
                    refine vyes rfl rfl rfl (vxq (vgtr rfl rfl) rfl rfl ?_)
                    refine vone rfl (vxq (vpkf rfl rfl) rfl rfl ?_)
                    refine vnil ?_
                    refine vcondd rfl (fun h89 => ?_) (fun h89 => ?_)
                    · skip
                      refine vdraw1 (d := 7) rfl [(.q, 0), (.q, 1), (.q, 2), (.s, 3), (.q, 4), (.s, 5)] Try.mixed (by kernel_rfl) (allocOk_of _ (by kernel_rfl)) ?_
                      refine vdq (mone rfl) (vmv rfl) rfl rfl ?_
                      refine vdq (mone rfl) (vldn rfl rfl) rfl rfl ?_
                      refine vdq (mone rfl) (vfa rfl) rfl rfl ?_
                      refine vds (mone rfl) (vst1 rfl rfl rfl rfl) rfl ?_
                      refine vdq (mone rfl) (vfa rfl) rfl rfl ?_
                      refine vds (mone rfl) (vstn rfl rfl rfl rfl rfl) rfl ?_
                      refine vdend rfl ?_
                      refine vregion ?_
                      refine vone rfl (vxq (vas rfl) rfl rfl ?_)
                      refine vnil ?_
                      refine vinblock ?_
                      refine vregion ?_
                      refine vone rfl (vxq (vadd rfl rfl (by unfold InR; omega)) rfl rfl ?_)
                      refine vone rfl (vxq (vmv rfl) rfl rfl ?_)
                      refine vnil ?_
                      first
                        | refine VRun.sub (H' := (b4, blk (clK (dupX r v x ++ [(val v ⟨x, (rowOf r x).a⟩)] ++ [(val v ⟨x, (rowOf r x).b⟩)])) 44) :: (b3, blk [I 0, I 0, I 0, I 0, I 0, I 0] 44) :: (b2, blk [I v.x, I v.y] 36) :: (b1, blk (clR r) 25) :: H) (by rw [k_yy (l := (dupX r v x ++ [(val v ⟨x, (rowOf r x).a⟩)])) (z := (val v ⟨x, (rowOf r x).b⟩)) (not_snoc _ _) h77 h89]; exact (by repeat first | exact .refl _ | refine .cons_cons _ ?_ | refine .cons _ ?_ | exact sl0 _ | refine slA ?_)) ?_
                        | refine VRun.sub (H' := (b4, blk (clK (dupX r v x ++ [(val v ⟨x, (rowOf r x).a⟩)] ++ [(val v ⟨x, (rowOf r x).b⟩)])) 44) :: (b3, blk [I 0, I 0, I 0, I 0, I 0, I 0] 44) :: (b2, blk [I v.x, I v.y] 36) :: (b1, blk (clR r) 25) :: H) (by rw [k_yn (l := (dupX r v x ++ [(val v ⟨x, (rowOf r x).a⟩)])) (z := (val v ⟨x, (rowOf r x).b⟩)) (not_snoc _ _) h77 h89]; exact (by repeat first | exact .refl _ | refine .cons_cons _ ?_ | refine .cons _ ?_ | exact sl0 _ | refine slA ?_)) ?_
                        | refine VRun.sub (H' := (b4, blk (clK (dupX r v x ++ [(val v ⟨x, (rowOf r x).a⟩)] ++ [(val v ⟨x, (rowOf r x).b⟩)])) 44) :: (b3, blk [I 0, I 0, I 0, I 0, I 0, I 0] 44) :: (b2, blk [I v.x, I v.y] 36) :: (b1, blk (clR r) 25) :: H) (by rw [k_ny (l := (dupX r v x ++ [(val v ⟨x, (rowOf r x).a⟩)])) (z := (val v ⟨x, (rowOf r x).b⟩)) (not_snoc _ _) h77 h89]; exact (by repeat first | exact .refl _ | refine .cons_cons _ ?_ | refine .cons _ ?_ | exact sl0 _ | refine slA ?_)) ?_
                        | refine VRun.sub (H' := (b4, blk (clK (dupX r v x ++ [(val v ⟨x, (rowOf r x).a⟩)] ++ [(val v ⟨x, (rowOf r x).b⟩)])) 44) :: (b3, blk [I 0, I 0, I 0, I 0, I 0, I 0] 44) :: (b2, blk [I v.x, I v.y] 36) :: (b1, blk (clR r) 25) :: H) (by rw [k_nn (l := (dupX r v x ++ [(val v ⟨x, (rowOf r x).a⟩)])) (z := (val v ⟨x, (rowOf r x).b⟩)) (not_snoc _ _) h77 h89]; exact (by repeat first | exact .refl _ | refine .cons_cons _ ?_ | refine .cons _ ?_ | exact sl0 _ | refine slA ?_)) ?_
                      refine vinloop1 ?_
                      refine vseq ?_
                      refine vregion ?_
                      refine vone rfl (vxq (vlss rfl rfl) rfl rfl ?_)
                      refine vnil ?_
                      refine vseq ?_
                      refine vcondf rfl ?_
                      refine vexit (k' := _) rfl ?_
                      refine vinblock ?_
                      refine vregion ?_
                      refine vone rfl (vxq (vmv rfl) rfl rfl ?_)
                      refine vone rfl (vxq (vadd rfl rfl (by unfold InR; omega)) rfl rfl ?_)
                      refine vone rfl (vxq (vas rfl) rfl rfl ?_)
                      refine vnil ?_
                      first
                        | (have he : dupX r v (x + 1) = dupX r v x := dupX_no hx1 (by omega)
                           exact vback (IH (x + 1) ⟨by omega, by omega⟩ (by show (_ : Int).toNat < (_ : Int).toNat; omega)) ⟨rfl, rfl, rfl, rfl, rfl, by rw [he]; rfl, rfl, True.intro⟩ (by rw [he]; exact (by repeat first | exact .refl _ | refine .cons_cons _ ?_ | refine .cons _ ?_ | exact sl0 _ | refine slA ?_)))
                        | (have he : dupX r v (x + 1) = _ := dupX_yes hx1 (by omega)
                           exact vback (IH (x + 1) ⟨by omega, by omega⟩ (by show (_ : Int).toNat < (_ : Int).toNat; omega)) ⟨rfl, rfl, rfl, rfl, rfl, by rw [he]; exact congrArg some (congrArg Value.bool (is_snoc _ _).symm), rfl, True.intro⟩ (by rw [he]; exact (by repeat first | exact .refl _ | refine .cons_cons _ ?_ | refine .cons _ ?_ | exact sl0 _ | refine slA ?_)))
                    · skip
                      refine vskip ?_
                      refine vregion ?_
                      refine vone rfl (vxq (vas rfl) rfl rfl ?_)
                      refine vnil ?_
                      refine vinblock ?_
                      refine vregion ?_
                      refine vone rfl (vxq (vadd rfl rfl (by unfold InR; omega)) rfl rfl ?_)
                      refine vone rfl (vxq (vmv rfl) rfl rfl ?_)
                      refine vnil ?_
                      first
                        | refine VRun.sub (H' := (b4, blk (clK (dupX r v x ++ [(val v ⟨x, (rowOf r x).a⟩)] ++ [(val v ⟨x, (rowOf r x).b⟩)])) 44) :: (b3, blk [I 0, I 0, I 0, I 0, I 0, I 0] 44) :: (b2, blk [I v.x, I v.y] 36) :: (b1, blk (clR r) 25) :: H) (by rw [k_yy (l := (dupX r v x ++ [(val v ⟨x, (rowOf r x).a⟩)])) (z := (val v ⟨x, (rowOf r x).b⟩)) (not_snoc _ _) h77 h89]; exact (by repeat first | exact .refl _ | refine .cons_cons _ ?_ | refine .cons _ ?_ | exact sl0 _ | refine slA ?_)) ?_
                        | refine VRun.sub (H' := (b4, blk (clK (dupX r v x ++ [(val v ⟨x, (rowOf r x).a⟩)] ++ [(val v ⟨x, (rowOf r x).b⟩)])) 44) :: (b3, blk [I 0, I 0, I 0, I 0, I 0, I 0] 44) :: (b2, blk [I v.x, I v.y] 36) :: (b1, blk (clR r) 25) :: H) (by rw [k_yn (l := (dupX r v x ++ [(val v ⟨x, (rowOf r x).a⟩)])) (z := (val v ⟨x, (rowOf r x).b⟩)) (not_snoc _ _) h77 h89]; exact (by repeat first | exact .refl _ | refine .cons_cons _ ?_ | refine .cons _ ?_ | exact sl0 _ | refine slA ?_)) ?_
                        | refine VRun.sub (H' := (b4, blk (clK (dupX r v x ++ [(val v ⟨x, (rowOf r x).a⟩)] ++ [(val v ⟨x, (rowOf r x).b⟩)])) 44) :: (b3, blk [I 0, I 0, I 0, I 0, I 0, I 0] 44) :: (b2, blk [I v.x, I v.y] 36) :: (b1, blk (clR r) 25) :: H) (by rw [k_ny (l := (dupX r v x ++ [(val v ⟨x, (rowOf r x).a⟩)])) (z := (val v ⟨x, (rowOf r x).b⟩)) (not_snoc _ _) h77 h89]; exact (by repeat first | exact .refl _ | refine .cons_cons _ ?_ | refine .cons _ ?_ | exact sl0 _ | refine slA ?_)) ?_
                        | refine VRun.sub (H' := (b4, blk (clK (dupX r v x ++ [(val v ⟨x, (rowOf r x).a⟩)] ++ [(val v ⟨x, (rowOf r x).b⟩)])) 44) :: (b3, blk [I 0, I 0, I 0, I 0, I 0, I 0] 44) :: (b2, blk [I v.x, I v.y] 36) :: (b1, blk (clR r) 25) :: H) (by rw [k_nn (l := (dupX r v x ++ [(val v ⟨x, (rowOf r x).a⟩)])) (z := (val v ⟨x, (rowOf r x).b⟩)) (not_snoc _ _) h77 h89]; exact (by repeat first | exact .refl _ | refine .cons_cons _ ?_ | refine .cons _ ?_ | exact sl0 _ | refine slA ?_)) ?_
                      refine vinloop1 ?_
                      refine vseq ?_
                      refine vregion ?_
                      refine vone rfl (vxq (vlss rfl rfl) rfl rfl ?_)
                      refine vnil ?_
                      refine vseq ?_
                      refine vcondf rfl ?_
                      refine vexit (k' := _) rfl ?_
                      refine vinblock ?_
                      refine vregion ?_
                      refine vone rfl (vxq (vmv rfl) rfl rfl ?_)
                      refine vone rfl (vxq (vadd rfl rfl (by unfold InR; omega)) rfl rfl ?_)
                      refine vone rfl (vxq (vas rfl) rfl rfl ?_)
                      refine vnil ?_
                      first
                        | (have he : dupX r v (x + 1) = dupX r v x := dupX_no hx1 (by omega)
                           exact vback (IH (x + 1) ⟨by omega, by omega⟩ (by show (_ : Int).toNat < (_ : Int).toNat; omega)) ⟨rfl, rfl, rfl, rfl, rfl, by rw [he]; rfl, rfl, True.intro⟩ (by rw [he]; exact (by repeat first | exact .refl _ | refine .cons_cons _ ?_ | refine .cons _ ?_ | exact sl0 _ | refine slA ?_)))
                        | (have he : dupX r v (x + 1) = _ := dupX_yes hx1 (by omega)
                           exact vback (IH (x + 1) ⟨by omega, by omega⟩ (by show (_ : Int).toNat < (_ : Int).toNat; omega)) ⟨rfl, rfl, rfl, rfl, rfl, by rw [he]; exact congrArg some (congrArg Value.bool (is_snoc _ _).symm), rfl, True.intro⟩ (by rw [he]; exact (by repeat first | exact .refl _ | refine .cons_cons _ ?_ | refine .cons _ ?_ | exact sl0 _ | refine slA ?_)))
                · skip
                  refine vskip ?_
                  refine vregion ?_
                  refine vone rfl (vxq (vas rfl) rfl rfl ?_)
                  refine vnil ?_
                  refine vinblock ?_
                  refine vregion ?_
                  refine vone rfl (vxq (vadd rfl rfl (by unfold InR; omega)) rfl rfl ?_)
                  refine vone rfl (vxq (vmv rfl) rfl rfl ?_)
                  refine vnil ?_
                  first
                    | refine VRun.sub (H' := (b4, blk (clK (dupX r v x ++ [(val v ⟨x, (rowOf r x).a⟩)])) 44) :: (b3, blk [I 0, I 0, I 0, I 0, I 0, I 0] 44) :: (b2, blk [I v.x, I v.y] 36) :: (b1, blk (clR r) 25) :: H) (by rw [k_n (l := (dupX r v x)) (z := (val v ⟨x, (rowOf r x).a⟩)) h72]; exact (by repeat first | exact .refl _ | refine .cons_cons _ ?_ | refine .cons _ ?_ | exact sl0 _ | refine slA ?_)) ?_
                    | refine VRun.sub (H' := (b4, blk (clK (dupX r v x ++ [(val v ⟨x, (rowOf r x).a⟩)])) 44) :: (b3, blk [I 0, I 0, I 0, I 0, I 0, I 0] 44) :: (b2, blk [I v.x, I v.y] 36) :: (b1, blk (clR r) 25) :: H) (by rw [k_yy (l := (dupX r v x)) (z := (val v ⟨x, (rowOf r x).a⟩)) h72 h77 h89]; exact (by repeat first | exact .refl _ | refine .cons_cons _ ?_ | refine .cons _ ?_ | exact sl0 _ | refine slA ?_)) ?_
                    | refine VRun.sub (H' := (b4, blk (clK (dupX r v x ++ [(val v ⟨x, (rowOf r x).a⟩)])) 44) :: (b3, blk [I 0, I 0, I 0, I 0, I 0, I 0] 44) :: (b2, blk [I v.x, I v.y] 36) :: (b1, blk (clR r) 25) :: H) (by rw [k_yn (l := (dupX r v x)) (z := (val v ⟨x, (rowOf r x).a⟩)) h72 h77 h89]; exact (by repeat first | exact .refl _ | refine .cons_cons _ ?_ | refine .cons _ ?_ | exact sl0 _ | refine slA ?_)) ?_
                    | refine VRun.sub (H' := (b4, blk (clK (dupX r v x ++ [(val v ⟨x, (rowOf r x).a⟩)])) 44) :: (b3, blk [I 0, I 0, I 0, I 0, I 0, I 0] 44) :: (b2, blk [I v.x, I v.y] 36) :: (b1, blk (clR r) 25) :: H) (by rw [k_ny (l := (dupX r v x)) (z := (val v ⟨x, (rowOf r x).a⟩)) h72 h77 h89]; exact (by repeat first | exact .refl _ | refine .cons_cons _ ?_ | refine .cons _ ?_ | exact sl0 _ | refine slA ?_)) ?_
                    | refine VRun.sub (H' := (b4, blk (clK (dupX r v x ++ [(val v ⟨x, (rowOf r x).a⟩)])) 44) :: (b3, blk [I 0, I 0, I 0, I 0, I 0, I 0] 44) :: (b2, blk [I v.x, I v.y] 36) :: (b1, blk (clR r) 25) :: H) (by rw [k_nn (l := (dupX r v x)) (z := (val v ⟨x, (rowOf r x).a⟩)) h72 h77 h89]; exact (by repeat first | exact .refl _ | refine .cons_cons _ ?_ | refine .cons _ ?_ | exact sl0 _ | refine slA ?_)) ?_
                  refine vinloop1 ?_
                  refine vseq ?_
                  refine vregion ?_
                  refine vone rfl (vxq (vlss rfl rfl) rfl rfl ?_)
                  refine vnil ?_
                  refine vseq ?_
                  refine vcondt rfl ?_
                  refine vskip ?_
                  refine vseq ?_
                  refine vblock ?_
                  refine vseq ?_
                  refine vregion ?_
                  refine vone rfl (vxq (vixa1 rfl rfl (by omega) rfl) rfl rfl ?_)
                  refine vone rfl (vxq (vas rfl) rfl rfl ?_)
                  refine vnil ?_
                  refine vseq ?_
                  refine vregion ?_
                  refine vone rfl (vxq (vfa rfl) rfl rfl ?_)
                  refine vone rfl (vxq (vld1 rfl rfl) rfl rfl ?_)
                  refine vone rfl (vxq (vmv rfl) rfl rfl ?_)
                  refine vone rfl (vxq (vmul rfl rfl (by unfold InR; omega)) rfl rfl ?_)
                  refine vone rfl (vxq (vfa rfl) rfl rfl ?_)
                  refine vone rfl (vxq (vld1 rfl rfl) rfl rfl ?_)
                  refine vone rfl (vxq (vmv rfl) rfl rfl ?_)
                  refine vone rfl (vxq (vmul rfl rfl (by unfold InR; omega)) rfl rfl ?_)
                  refine vone rfl (vxq (vadd rfl rfl (by unfold InR; omega)) rfl rfl ?_)
                  refine vone rfl (vxq (vmv rfl) rfl rfl ?_)
                  refine vone rfl (vxq (vmv rfl) rfl rfl ?_)
                  refine vone rfl (vxq (vbd rfl rfl) rfl rfl ?_)
                  refine vone rfl (vxa valloc rfl rfl (fun b9 => ?_))
                  refine vone rfl (vxq (vas rfl) rfl rfl ?_)
                  refine vone rfl (vxs (vstn rfl rfl rfl rfl rfl) rfl ?_)
                  refine vnil ?_
                  refine vseq ?_
                  refine vseq ?_
                  refine vregion ?_
                  refine vone rfl (vxq (vmv rfl) rfl rfl ?_)
                  refine vone rfl (vxq (vnot rfl) rfl rfl ?_)
                  refine vone rfl (vxq (vmv rfl) rfl rfl ?_)
                  refine vyes rfl rfl rfl (vxq (vmv rfl) rfl rfl ?_)
                  refine vyes rfl rfl rfl (vxq (vfa rfl) rfl rfl ?_)
                  refine vyes rfl rfl rfl (vxq (vld1 rfl rfl) rfl rfl ?_)
                  refine vyes rfl rfl rfl (vxq (vlss rfl rfl) rfl rfl ?_)
                  refine vone rfl (vxq (vpkf rfl rfl) rfl rfl ?_)
                  refine vnil ?_
                  refine vcondd rfl (fun h77 => ?_) (fun h77 => ?_)
                  · skip
                    refine vdraw1 (d := 7) rfl [(.q, 0), (.q, 1), (.q, 2), (.s, 3), (.q, 4), (.s, 5)] Try.mixed (by kernel_rfl) (allocOk_of _ (by kernel_rfl)) ?_
                    refine vdq (mone rfl) (vmv rfl) rfl rfl ?_
                    refine vdq (mone rfl) (vldn rfl rfl) rfl rfl ?_
                    refine vdq (mone rfl) (vfa rfl) rfl rfl ?_
                    refine vds (mone rfl) (vst1 rfl rfl rfl rfl) rfl ?_
                    refine vdq (mone rfl) (vfa rfl) rfl rfl ?_
                    refine vds (mone rfl) (vstn rfl rfl rfl rfl rfl) rfl ?_
                    refine vdend rfl ?_
                    refine vseq ?_
                    refine vseq ?_
                    refine vregion ?_
                    refine vone rfl (vxq (vmv rfl) rfl rfl ?_)
                    refine vone rfl (vxq (vnot rfl) rfl rfl ?_)
                    refine vone rfl (vxq (vmv rfl) rfl rfl ?_)
                    refine vyes rfl rfl rfl (vxq (vmv rfl) rfl rfl ?_)
                    refine vyes rfl rfl rfl (vxq (vfa rfl) rfl rfl ?_)
                    refine vyes rfl rfl rfl (vxq (vld1 rfl rfl) rfl rfl ?_)
                    refine vyes rfl rfl rfl (vxq (vgtr rfl rfl) rfl rfl ?_)
                    refine vone rfl (vxq (vpkf rfl rfl) rfl rfl ?_)
                    refine vnil ?_
                    refine vcondd rfl (fun h89 => ?_) (fun h89 => ?_)
                    · skip
                      refine vdraw1 (d := 7) rfl [(.q, 0), (.q, 1), (.q, 2), (.s, 3), (.q, 4), (.s, 5)] Try.mixed (by kernel_rfl) (allocOk_of _ (by kernel_rfl)) ?_
                      refine vdq (mone rfl) (vmv rfl) rfl rfl ?_
                      refine vdq (mone rfl) (vldn rfl rfl) rfl rfl ?_
                      refine vdq (mone rfl) (vfa rfl) rfl rfl ?_
                      refine vds (mone rfl) (vst1 rfl rfl rfl rfl) rfl ?_
                      refine vdq (mone rfl) (vfa rfl) rfl rfl ?_
                      refine vds (mone rfl) (vstn rfl rfl rfl rfl rfl) rfl ?_
                      refine vdend rfl ?_
                      refine vregion ?_
                      refine vone rfl (vxq (vas rfl) rfl rfl ?_)
                      refine vnil ?_
                      refine vinblock ?_
                      refine vregion ?_
                      refine vone rfl (vxq (vadd rfl rfl (by unfold InR; omega)) rfl rfl ?_)
                      refine vone rfl (vxq (vmv rfl) rfl rfl ?_)
                      refine vnil ?_
                      first
                        | refine VRun.sub (H' := (b4, blk (clK (dupX r v x ++ [(val v ⟨x, (rowOf r x).a⟩)] ++ [(val v ⟨x, (rowOf r x).b⟩)])) 44) :: (b3, blk [I 0, I 0, I 0, I 0, I 0, I 0] 44) :: (b2, blk [I v.x, I v.y] 36) :: (b1, blk (clR r) 25) :: H) (by rw [k_yy (l := (dupX r v x ++ [(val v ⟨x, (rowOf r x).a⟩)])) (z := (val v ⟨x, (rowOf r x).b⟩)) (not_snoc _ _) h77 h89]; exact (by repeat first | exact .refl _ | refine .cons_cons _ ?_ | refine .cons _ ?_ | exact sl0 _ | refine slA ?_)) ?_
                        | refine VRun.sub (H' := (b4, blk (clK (dupX r v x ++ [(val v ⟨x, (rowOf r x).a⟩)] ++ [(val v ⟨x, (rowOf r x).b⟩)])) 44) :: (b3, blk [I 0, I 0, I 0, I 0, I 0, I 0] 44) :: (b2, blk [I v.x, I v.y] 36) :: (b1, blk (clR r) 25) :: H) (by rw [k_yn (l := (dupX r v x ++ [(val v ⟨x, (rowOf r x).a⟩)])) (z := (val v ⟨x, (rowOf r x).b⟩)) (not_snoc _ _) h77 h89]; exact (by repeat first | exact .refl _ | refine .cons_cons _ ?_ | refine .cons _ ?_ | exact sl0 _ | refine slA ?_)) ?_
                        | refine VRun.sub (H' := (b4, blk (clK (dupX r v x ++ [(val v ⟨x, (rowOf r x).a⟩)] ++ [(val v ⟨x, (rowOf r x).b⟩)])) 44) :: (b3, blk [I 0, I 0, I 0, I 0, I 0, I 0] 44) :: (b2, blk [I v.x, I v.y] 36) :: (b1, blk (clR r) 25) :: H) (by rw [k_ny (l := (dupX r v x ++ [(val v ⟨x, (rowOf r x).a⟩)])) (z := (val v ⟨x, (rowOf r x).b⟩)) (not_snoc _ _) h77 h89]; exact (by repeat first | exact .refl _ | refine .cons_cons _ ?_ | refine .cons _ ?_ | exact sl0 _ | refine slA ?_)) ?_
                        | refine VRun.sub (H' := (b4, blk (clK (dupX r v x ++ [(val v ⟨x, (rowOf r x).a⟩)] ++ [(val v ⟨x, (rowOf r x).b⟩)])) 44) :: (b3, blk [I 0, I 0, I 0, I 0, I 0, I 0] 44) :: (b2, blk [I v.x, I v.y] 36) :: (b1, blk (clR r) 25) :: H) (by rw [k_nn (l := (dupX r v x ++ [(val v ⟨x, (rowOf r x).a⟩)])) (z := (val v ⟨x, (rowOf r x).b⟩)) (not_snoc _ _) h77 h89]; exact (by repeat first | exact .refl _ | refine .cons_cons _ ?_ | refine .cons _ ?_ | exact sl0 _ | refine slA ?_)) ?_
                      refine vinloop1 ?_
                      refine vseq ?_
                      refine vregion ?_
                      refine vone rfl (vxq (vlss rfl rfl) rfl rfl ?_)
                      refine vnil ?_
                      refine vseq ?_
                      refine vcondf rfl ?_
                      refine vexit (k' := _) rfl ?_
                      refine vinblock ?_
                      refine vregion ?_
                      refine vone rfl (vxq (vmv rfl) rfl rfl ?_)
                      refine vone rfl (vxq (vadd rfl rfl (by unfold InR; omega)) rfl rfl ?_)
                      refine vone rfl (vxq (vas rfl) rfl rfl ?_)
                      refine vnil ?_
                      first
                        | (have he : dupX r v (x + 1) = dupX r v x := dupX_no hx1 (by omega)
                           exact vback (IH (x + 1) ⟨by omega, by omega⟩ (by show (_ : Int).toNat < (_ : Int).toNat; omega)) ⟨rfl, rfl, rfl, rfl, rfl, by rw [he]; rfl, rfl, True.intro⟩ (by rw [he]; exact (by repeat first | exact .refl _ | refine .cons_cons _ ?_ | refine .cons _ ?_ | exact sl0 _ | refine slA ?_)))
                        | (have he : dupX r v (x + 1) = _ := dupX_yes hx1 (by omega)
                           exact vback (IH (x + 1) ⟨by omega, by omega⟩ (by show (_ : Int).toNat < (_ : Int).toNat; omega)) ⟨rfl, rfl, rfl, rfl, rfl, by rw [he]; exact congrArg some (congrArg Value.bool (is_snoc _ _).symm), rfl, True.intro⟩ (by rw [he]; exact (by repeat first | exact .refl _ | refine .cons_cons _ ?_ | refine .cons _ ?_ | exact sl0 _ | refine slA ?_)))
                    · skip
                      refine vskip ?_
                      refine vregion ?_
                      refine vone rfl (vxq (vas rfl) rfl rfl ?_)
                      refine vnil ?_
                      refine vinblock ?_
                      refine vregion ?_
                      refine vone rfl (vxq (vadd rfl rfl (by unfold InR; omega)) rfl rfl ?_)
                      refine vone rfl (vxq (vmv rfl) rfl rfl ?_)
                      refine vnil ?_
                      first
                        | refine VRun.sub (H' := (b4, blk (clK (dupX r v x ++ [(val v ⟨x, (rowOf r x).a⟩)] ++ [(val v ⟨x, (rowOf r x).b⟩)])) 44) :: (b3, blk [I 0, I 0, I 0, I 0, I 0, I 0] 44) :: (b2, blk [I v.x, I v.y] 36) :: (b1, blk (clR r) 25) :: H) (by rw [k_yy (l := (dupX r v x ++ [(val v ⟨x, (rowOf r x).a⟩)])) (z := (val v ⟨x, (rowOf r x).b⟩)) (not_snoc _ _) h77 h89]; exact (by repeat first | exact .refl _ | refine .cons_cons _ ?_ | refine .cons _ ?_ | exact sl0 _ | refine slA ?_)) ?_
                        | refine VRun.sub (H' := (b4, blk (clK (dupX r v x ++ [(val v ⟨x, (rowOf r x).a⟩)] ++ [(val v ⟨x, (rowOf r x).b⟩)])) 44) :: (b3, blk [I 0, I 0, I 0, I 0, I 0, I 0] 44) :: (b2, blk [I v.x, I v.y] 36) :: (b1, blk (clR r) 25) :: H) (by rw [k_yn (l := (dupX r v x ++ [(val v ⟨x, (rowOf r x).a⟩)])) (z := (val v ⟨x, (rowOf r x).b⟩)) (not_snoc _ _) h77 h89]; exact (by repeat first | exact .refl _ | refine .cons_cons _ ?_ | refine .cons _ ?_ | exact sl0 _ | refine slA ?_)) ?_
                        | refine VRun.sub (H' := (b4, blk (clK (dupX r v x ++ [(val v ⟨x, (rowOf r x).a⟩)] ++ [(val v ⟨x, (rowOf r x).b⟩)])) 44) :: (b3, blk [I 0, I 0, I 0, I 0, I 0, I 0] 44) :: (b2, blk [I v.x, I v.y] 36) :: (b1, blk (clR r) 25) :: H) (by rw [k_ny (l := (dupX r v x ++ [(val v ⟨x, (rowOf r x).a⟩)])) (z := (val v ⟨x, (rowOf r x).b⟩)) (not_snoc _ _) h77 h89]; exact (by repeat first | exact .refl _ | refine .cons_cons _ ?_ | refine .cons _ ?_ | exact sl0 _ | refine slA ?_)) ?_
                        | refine VRun.sub (H' := (b4, blk (clK (dupX r v x ++ [(val v ⟨x, (rowOf r x).a⟩)] ++ [(val v ⟨x, (rowOf r x).b⟩)])) 44) :: (b3, blk [I 0, I 0, I 0, I 0, I 0, I 0] 44) :: (b2, blk [I v.x, I v.y] 36) :: (b1, blk (clR r) 25) :: H) (by rw [k_nn (l := (dupX r v x ++ [(val v ⟨x, (rowOf r x).a⟩)])) (z := (val v ⟨x, (rowOf r x).b⟩)) (not_snoc _ _) h77 h89]; exact (by repeat first | exact .refl _ | refine .cons_cons _ ?_ | refine .cons _ ?_ | exact sl0 _ | refine slA ?_)) ?_
                      refine vinloop1 ?_
                      refine vseq ?_
                      refine vregion ?_
                      refine vone rfl (vxq (vlss rfl rfl) rfl rfl ?_)
                      refine vnil ?_
                      refine vseq ?_
                      refine vcondf rfl ?_
                      refine vexit (k' := _) rfl ?_
                      refine vinblock ?_
                      refine vregion ?_
                      refine vone rfl (vxq (vmv rfl) rfl rfl ?_)
                      refine vone rfl (vxq (vadd rfl rfl (by unfold InR; omega)) rfl rfl ?_)
                      refine vone rfl (vxq (vas rfl) rfl rfl ?_)
                      refine vnil ?_
                      first
                        | (have he : dupX r v (x + 1) = dupX r v x := dupX_no hx1 (by omega)
                           exact vback (IH (x + 1) ⟨by omega, by omega⟩ (by show (_ : Int).toNat < (_ : Int).toNat; omega)) ⟨rfl, rfl, rfl, rfl, rfl, by rw [he]; rfl, rfl, True.intro⟩ (by rw [he]; exact (by repeat first | exact .refl _ | refine .cons_cons _ ?_ | refine .cons _ ?_ | exact sl0 _ | refine slA ?_)))
                        | (have he : dupX r v (x + 1) = _ := dupX_yes hx1 (by omega)
                           exact vback (IH (x + 1) ⟨by omega, by omega⟩ (by show (_ : Int).toNat < (_ : Int).toNat; omega)) ⟨rfl, rfl, rfl, rfl, rfl, by rw [he]; exact congrArg some (congrArg Value.bool (is_snoc _ _).symm), rfl, True.intro⟩ (by rw [he]; exact (by repeat first | exact .refl _ | refine .cons_cons _ ?_ | refine .cons _ ?_ | exact sl0 _ | refine slA ?_)))
                  · skip
                    refine vskip ?_
                    refine vseq ?_
                    refine vseq ?_
                    refine vregion ?_
                    refine vone rfl (vxq (vmv rfl) rfl rfl ?_)
                    refine vone rfl (vxq (vnot rfl) rfl rfl ?_)
                    refine vone rfl (vxq (vmv rfl) rfl rfl ?_)
                    refine vyes rfl rfl rfl (vxq (vmv rfl) rfl rfl ?_)
                    refine vyes rfl rfl rfl (vxq (vfa rfl) rfl rfl ?_)
                    refine vyes rfl rfl rfl (vxq (vld1 rfl rfl) rfl rfl ?_)
                    refine vyes rfl rfl rfl (vxq (vgtr rfl rfl) rfl rfl ?_)
                    refine vone rfl (vxq (vpkf rfl rfl) rfl rfl ?_)
                    refine vnil ?_
                    refine vcondd rfl (fun h89 => ?_) (fun h89 => ?_)
                    · skip
                      refine vdraw1 (d := 7) rfl [(.q, 0), (.q, 1), (.q, 2), (.s, 3), (.q, 4), (.s, 5)] Try.mixed (by kernel_rfl) (allocOk_of _ (by kernel_rfl)) ?_
                      refine vdq (mone rfl) (vmv rfl) rfl rfl ?_
                      refine vdq (mone rfl) (vldn rfl rfl) rfl rfl ?_
                      refine vdq (mone rfl) (vfa rfl) rfl rfl ?_
                      refine vds (mone rfl) (vst1 rfl rfl rfl rfl) rfl ?_
                      refine vdq (mone rfl) (vfa rfl) rfl rfl ?_
                      refine vds (mone rfl) (vstn rfl rfl rfl rfl rfl) rfl ?_
                      refine vdend rfl ?_
                      refine vregion ?_
                      refine vone rfl (vxq (vas rfl) rfl rfl ?_)
                      refine vnil ?_
                      refine vinblock ?_
                      refine vregion ?_
                      refine vone rfl (vxq (vadd rfl rfl (by unfold InR; omega)) rfl rfl ?_)
                      refine vone rfl (vxq (vmv rfl) rfl rfl ?_)
                      refine vnil ?_
                      first
                        | refine VRun.sub (H' := (b4, blk (clK (dupX r v x ++ [(val v ⟨x, (rowOf r x).a⟩)] ++ [(val v ⟨x, (rowOf r x).b⟩)])) 44) :: (b3, blk [I 0, I 0, I 0, I 0, I 0, I 0] 44) :: (b2, blk [I v.x, I v.y] 36) :: (b1, blk (clR r) 25) :: H) (by rw [k_yy (l := (dupX r v x ++ [(val v ⟨x, (rowOf r x).a⟩)])) (z := (val v ⟨x, (rowOf r x).b⟩)) (not_snoc _ _) h77 h89]; exact (by repeat first | exact .refl _ | refine .cons_cons _ ?_ | refine .cons _ ?_ | exact sl0 _ | refine slA ?_)) ?_
                        | refine VRun.sub (H' := (b4, blk (clK (dupX r v x ++ [(val v ⟨x, (rowOf r x).a⟩)] ++ [(val v ⟨x, (rowOf r x).b⟩)])) 44) :: (b3, blk [I 0, I 0, I 0, I 0, I 0, I 0] 44) :: (b2, blk [I v.x, I v.y] 36) :: (b1, blk (clR r) 25) :: H) (by rw [k_yn (l := (dupX r v x ++ [(val v ⟨x, (rowOf r x).a⟩)])) (z := (val v ⟨x, (rowOf r x).b⟩)) (not_snoc _ _) h77 h89]; exact (by repeat first | exact .refl _ | refine .cons_cons _ ?_ | refine .cons _ ?_ | exact sl0 _ | refine slA ?_)) ?_
                        | refine VRun.sub (H' := (b4, blk (clK (dupX r v x ++ [(val v ⟨x, (rowOf r x).a⟩)] ++ [(val v ⟨x, (rowOf r x).b⟩)])) 44) :: (b3, blk [I 0, I 0, I 0, I 0, I 0, I 0] 44) :: (b2, blk [I v.x, I v.y] 36) :: (b1, blk (clR r) 25) :: H) (by rw [k_ny (l := (dupX r v x ++ [(val v ⟨x, (rowOf r x).a⟩)])) (z := (val v ⟨x, (rowOf r x).b⟩)) (not_snoc _ _) h77 h89]; exact (by repeat first | exact .refl _ | refine .cons_cons _ ?_ | refine .cons _ ?_ | exact sl0 _ | refine slA ?_)) ?_
                        | refine VRun.sub (H' := (b4, blk (clK (dupX r v x ++ [(val v ⟨x, (rowOf r x).a⟩)] ++ [(val v ⟨x, (rowOf r x).b⟩)])) 44) :: (b3, blk [I 0, I 0, I 0, I 0, I 0, I 0] 44) :: (b2, blk [I v.x, I v.y] 36) :: (b1, blk (clR r) 25) :: H) (by rw [k_nn (l := (dupX r v x ++ [(val v ⟨x, (rowOf r x).a⟩)])) (z := (val v ⟨x, (rowOf r x).b⟩)) (not_snoc _ _) h77 h89]; exact (by repeat first | exact .refl _ | refine .cons_cons _ ?_ | refine .cons _ ?_ | exact sl0 _ | refine slA ?_)) ?_
                      refine vinloop1 ?_
                      refine vseq ?_
                      refine vregion ?_
                      refine vone rfl (vxq (vlss rfl rfl) rfl rfl ?_)
                      refine vnil ?_
                      refine vseq ?_
                      refine vcondf rfl ?_
                      refine vexit (k' := _) rfl ?_
                      refine vinblock ?_
                      refine vregion ?_
                      refine vone rfl (vxq (vmv rfl) rfl rfl ?_)
                      refine vone rfl (vxq (vadd rfl rfl (by unfold InR; omega)) rfl rfl ?_)
                      refine vone rfl (vxq (vas rfl) rfl rfl ?_)
                      refine vnil ?_
                      first
                        | (have he : dupX r v (x + 1) = dupX r v x := dupX_no hx1 (by omega)
                           exact vback (IH (x + 1) ⟨by omega, by omega⟩ (by show (_ : Int).toNat < (_ : Int).toNat; omega)) ⟨rfl, rfl, rfl, rfl, rfl, by rw [he]; rfl, rfl, True.intro⟩ (by rw [he]; exact (by repeat first | exact .refl _ | refine .cons_cons _ ?_ | refine .cons _ ?_ | exact sl0 _ | refine slA ?_)))
                        | (have he : dupX r v (x + 1) = _ := dupX_yes hx1 (by omega)
                           exact vback (IH (x + 1) ⟨by omega, by omega⟩ (by show (_ : Int).toNat < (_ : Int).toNat; omega)) ⟨rfl, rfl, rfl, rfl, rfl, by rw [he]; exact congrArg some (congrArg Value.bool (is_snoc _ _).symm), rfl, True.intro⟩ (by rw [he]; exact (by repeat first | exact .refl _ | refine .cons_cons _ ?_ | refine .cons _ ?_ | exact sl0 _ | refine slA ?_)))
                    · skip
                      refine vskip ?_
                      refine vregion ?_
                      refine vone rfl (vxq (vas rfl) rfl rfl ?_)
                      refine vnil ?_
                      refine vinblock ?_
                      refine vregion ?_
                      refine vone rfl (vxq (vadd rfl rfl (by unfold InR; omega)) rfl rfl ?_)
                      refine vone rfl (vxq (vmv rfl) rfl rfl ?_)
                      refine vnil ?_
                      first
                        | refine VRun.sub (H' := (b4, blk (clK (dupX r v x ++ [(val v ⟨x, (rowOf r x).a⟩)] ++ [(val v ⟨x, (rowOf r x).b⟩)])) 44) :: (b3, blk [I 0, I 0, I 0, I 0, I 0, I 0] 44) :: (b2, blk [I v.x, I v.y] 36) :: (b1, blk (clR r) 25) :: H) (by rw [k_yy (l := (dupX r v x ++ [(val v ⟨x, (rowOf r x).a⟩)])) (z := (val v ⟨x, (rowOf r x).b⟩)) (not_snoc _ _) h77 h89]; exact (by repeat first | exact .refl _ | refine .cons_cons _ ?_ | refine .cons _ ?_ | exact sl0 _ | refine slA ?_)) ?_
                        | refine VRun.sub (H' := (b4, blk (clK (dupX r v x ++ [(val v ⟨x, (rowOf r x).a⟩)] ++ [(val v ⟨x, (rowOf r x).b⟩)])) 44) :: (b3, blk [I 0, I 0, I 0, I 0, I 0, I 0] 44) :: (b2, blk [I v.x, I v.y] 36) :: (b1, blk (clR r) 25) :: H) (by rw [k_yn (l := (dupX r v x ++ [(val v ⟨x, (rowOf r x).a⟩)])) (z := (val v ⟨x, (rowOf r x).b⟩)) (not_snoc _ _) h77 h89]; exact (by repeat first | exact .refl _ | refine .cons_cons _ ?_ | refine .cons _ ?_ | exact sl0 _ | refine slA ?_)) ?_
                        | refine VRun.sub (H' := (b4, blk (clK (dupX r v x ++ [(val v ⟨x, (rowOf r x).a⟩)] ++ [(val v ⟨x, (rowOf r x).b⟩)])) 44) :: (b3, blk [I 0, I 0, I 0, I 0, I 0, I 0] 44) :: (b2, blk [I v.x, I v.y] 36) :: (b1, blk (clR r) 25) :: H) (by rw [k_ny (l := (dupX r v x ++ [(val v ⟨x, (rowOf r x).a⟩)])) (z := (val v ⟨x, (rowOf r x).b⟩)) (not_snoc _ _) h77 h89]; exact (by repeat first | exact .refl _ | refine .cons_cons _ ?_ | refine .cons _ ?_ | exact sl0 _ | refine slA ?_)) ?_
                        | refine VRun.sub (H' := (b4, blk (clK (dupX r v x ++ [(val v ⟨x, (rowOf r x).a⟩)] ++ [(val v ⟨x, (rowOf r x).b⟩)])) 44) :: (b3, blk [I 0, I 0, I 0, I 0, I 0, I 0] 44) :: (b2, blk [I v.x, I v.y] 36) :: (b1, blk (clR r) 25) :: H) (by rw [k_nn (l := (dupX r v x ++ [(val v ⟨x, (rowOf r x).a⟩)])) (z := (val v ⟨x, (rowOf r x).b⟩)) (not_snoc _ _) h77 h89]; exact (by repeat first | exact .refl _ | refine .cons_cons _ ?_ | refine .cons _ ?_ | exact sl0 _ | refine slA ?_)) ?_
                      refine vinloop1 ?_
                      refine vseq ?_
                      refine vregion ?_
                      refine vone rfl (vxq (vlss rfl rfl) rfl rfl ?_)
                      refine vnil ?_
                      refine vseq ?_
                      refine vcondf rfl ?_
                      refine vexit (k' := _) rfl ?_
                      refine vinblock ?_
                      refine vregion ?_
                      refine vone rfl (vxq (vmv rfl) rfl rfl ?_)
                      refine vone rfl (vxq (vadd rfl rfl (by unfold InR; omega)) rfl rfl ?_)
                      refine vone rfl (vxq (vas rfl) rfl rfl ?_)
                      refine vnil ?_
                      first
                        | (have he : dupX r v (x + 1) = dupX r v x := dupX_no hx1 (by omega)
                           exact vback (IH (x + 1) ⟨by omega, by omega⟩ (by show (_ : Int).toNat < (_ : Int).toNat; omega)) ⟨rfl, rfl, rfl, rfl, rfl, by rw [he]; rfl, rfl, True.intro⟩ (by rw [he]; exact (by repeat first | exact .refl _ | refine .cons_cons _ ?_ | refine .cons _ ?_ | exact sl0 _ | refine slA ?_)))
                        | (have he : dupX r v (x + 1) = _ := dupX_yes hx1 (by omega)
                           exact vback (IH (x + 1) ⟨by omega, by omega⟩ (by show (_ : Int).toNat < (_ : Int).toNat; omega)) ⟨rfl, rfl, rfl, rfl, rfl, by rw [he]; exact congrArg some (congrArg Value.bool (is_snoc _ _).symm), rfl, True.intro⟩ (by rw [he]; exact (by repeat first | exact .refl _ | refine .cons_cons _ ?_ | refine .cons _ ?_ | exact sl0 _ | refine slA ?_)))
              · skip
                refine vskip ?_
                refine vseq ?_
                refine vseq ?_
                refine vregion ?_
                refine vone rfl (vxq (vmv rfl) rfl rfl ?_)
                refine vone rfl (vxq (vnot rfl) rfl rfl ?_)
                refine vone rfl (vxq (vmv rfl) rfl rfl ?_)
                refine vknow (d := 84) (b' := false) rfl h72 ?_
                refine vyes rfl rfl rfl (vxq (vmv rfl) rfl rfl ?_)
                refine vyes rfl rfl rfl (vxq (vfa rfl) rfl rfl ?_)
                refine vyes rfl rfl rfl (vxq (vld1 rfl rfl) rfl rfl ?_)
                refine vyes rfl rfl rfl (vxq (vgtr rfl rfl) rfl rfl ?_)
                refine vone rfl (vxq (vpkf rfl rfl) rfl rfl ?_)
                refine vnil ?_
                refine vcondd rfl (fun h89 => ?_) (fun h89 => ?_)
                · skip
                  refine vdraw1 (d := 7) rfl [(.q, 0), (.q, 1), (.q, 2), (.s, 3), (.q, 4), (.s, 5)] Try.mixed (by kernel_rfl) (allocOk_of _ (by kernel_rfl)) ?_
                  refine vdq (mone rfl) (vmv rfl) rfl rfl ?_
                  refine vdq (mone rfl) (vldn rfl rfl) rfl rfl ?_
                  refine vdq (mone rfl) (vfa rfl) rfl rfl ?_
                  refine vds (mone rfl) (vst1 rfl rfl rfl rfl) rfl ?_
                  refine vdq (mone rfl) (vfa rfl) rfl rfl ?_
                  refine vds (mone rfl) (vstn rfl rfl rfl rfl rfl) rfl ?_
                  refine vdend rfl ?_
                  refine vregion ?_
                  refine vone rfl (vxq (vas rfl) rfl rfl ?_)
                  refine vnil ?_
                  refine vinblock ?_
                  refine vregion ?_
                  refine vone rfl (vxq (vadd rfl rfl (by unfold InR; omega)) rfl rfl ?_)
                  refine vone rfl (vxq (vmv rfl) rfl rfl ?_)
                  refine vnil ?_
                  first
                    | refine VRun.sub (H' := (b4, blk (clK (dupX r v x ++ [(val v ⟨x, (rowOf r x).a⟩)])) 44) :: (b3, blk [I 0, I 0, I 0, I 0, I 0, I 0] 44) :: (b2, blk [I v.x, I v.y] 36) :: (b1, blk (clR r) 25) :: H) (by rw [k_n (l := (dupX r v x)) (z := (val v ⟨x, (rowOf r x).a⟩)) h72]; exact (by repeat first | exact .refl _ | refine .cons_cons _ ?_ | refine .cons _ ?_ | exact sl0 _ | refine slA ?_)) ?_
                    | refine VRun.sub (H' := (b4, blk (clK (dupX r v x ++ [(val v ⟨x, (rowOf r x).a⟩)])) 44) :: (b3, blk [I 0, I 0, I 0, I 0, I 0, I 0] 44) :: (b2, blk [I v.x, I v.y] 36) :: (b1, blk (clR r) 25) :: H) (by rw [k_yy (l := (dupX r v x)) (z := (val v ⟨x, (rowOf r x).a⟩)) h72 h77 h89]; exact (by repeat first | exact .refl _ | refine .cons_cons _ ?_ | refine .cons _ ?_ | exact sl0 _ | refine slA ?_)) ?_
                    | refine VRun.sub (H' := (b4, blk (clK (dupX r v x ++ [(val v ⟨x, (rowOf r x).a⟩)])) 44) :: (b3, blk [I 0, I 0, I 0, I 0, I 0, I 0] 44) :: (b2, blk [I v.x, I v.y] 36) :: (b1, blk (clR r) 25) :: H) (by rw [k_yn (l := (dupX r v x)) (z := (val v ⟨x, (rowOf r x).a⟩)) h72 h77 h89]; exact (by repeat first | exact .refl _ | refine .cons_cons _ ?_ | refine .cons _ ?_ | exact sl0 _ | refine slA ?_)) ?_
                    | refine VRun.sub (H' := (b4, blk (clK (dupX r v x ++ [(val v ⟨x, (rowOf r x).a⟩)])) 44) :: (b3, blk [I 0, I 0, I 0, I 0, I 0, I 0] 44) :: (b2, blk [I v.x, I v.y] 36) :: (b1, blk (clR r) 25) :: H) (by rw [k_ny (l := (dupX r v x)) (z := (val v ⟨x, (rowOf r x).a⟩)) h72 h77 h89]; exact (by repeat first | exact .refl _ | refine .cons_cons _ ?_ | refine .cons _ ?_ | exact sl0 _ | refine slA ?_)) ?_
                    | refine VRun.sub (H' := (b4, blk (clK (dupX r v x ++ [(val v ⟨x, (rowOf r x).a⟩)])) 44) :: (b3, blk [I 0, I 0, I 0, I 0, I 0, I 0] 44) :: (b2, blk [I v.x, I v.y] 36) :: (b1, blk (clR r) 25) :: H) (by rw [k_nn (l := (dupX r v x)) (z := (val v ⟨x, (rowOf r x).a⟩)) h72 h77 h89]; exact (by repeat first | exact .refl _ | refine .cons_cons _ ?_ | refine .cons _ ?_ | exact sl0 _ | refine slA ?_)) ?_
                  refine vinloop1 ?_
                  refine vseq ?_
                  refine vregion ?_
                  refine vone rfl (vxq (vlss rfl rfl) rfl rfl ?_)
                  refine vnil ?_
                  refine vseq ?_
                  refine vcondt rfl ?_
                  refine vskip ?_
                  refine vseq ?_
                  refine vblock ?_
                  refine vseq ?_
                  refine vregion ?_
                  refine vone rfl (vxq (vixa1 rfl rfl (by omega) rfl) rfl rfl ?_)
                  refine vone rfl (vxq (vas rfl) rfl rfl ?_)
                  refine vnil ?_
                  refine vseq ?_
                  refine vregion ?_
                  refine vone rfl (vxq (vfa rfl) rfl rfl ?_)
                  refine vone rfl (vxq (vld1 rfl rfl) rfl rfl ?_)
                  refine vone rfl (vxq (vmv rfl) rfl rfl ?_)
                  refine vone rfl (vxq (vmul rfl rfl (by unfold InR; omega)) rfl rfl ?_)
                  refine vone rfl (vxq (vfa rfl) rfl rfl ?_)
                  refine vone rfl (vxq (vld1 rfl rfl) rfl rfl ?_)
                  refine vone rfl (vxq (vmv rfl) rfl rfl ?_)
                  refine vone rfl (vxq (vmul rfl rfl (by unfold InR; omega)) rfl rfl ?_)
                  refine vone rfl (vxq (vadd rfl rfl (by unfold InR; omega)) rfl rfl ?_)
                  refine vone rfl (vxq (vmv rfl) rfl rfl ?_)
                  refine vone rfl (vxq (vmv rfl) rfl rfl ?_)
                  refine vone rfl (vxq (vbd rfl rfl) rfl rfl ?_)
                  refine vone rfl (vxa valloc rfl rfl (fun b10 => ?_))
                  refine vone rfl (vxq (vas rfl) rfl rfl ?_)
                  refine vone rfl (vxs (vstn rfl rfl rfl rfl rfl) rfl ?_)
                  refine vnil ?_
                  refine vseq ?_
                  refine vseq ?_
                  refine vregion ?_
                  refine vone rfl (vxq (vmv rfl) rfl rfl ?_)
                  refine vone rfl (vxq (vnot rfl) rfl rfl ?_)
                  refine vone rfl (vxq (vmv rfl) rfl rfl ?_)
                  refine vyes rfl rfl rfl (vxq (vmv rfl) rfl rfl ?_)
                  refine vyes rfl rfl rfl (vxq (vfa rfl) rfl rfl ?_)
                  refine vyes rfl rfl rfl (vxq (vld1 rfl rfl) rfl rfl ?_)
                  refine vyes rfl rfl rfl (vxq (vlss rfl rfl) rfl rfl ?_)
                  refine vone rfl (vxq (vpkf rfl rfl) rfl rfl ?_)
                  refine vnil ?_
                  refine vcondd rfl (fun h77 => ?_) (fun h77 => ?_)
                  · skip
                    refine vdraw1 (d := 7) rfl [(.q, 0), (.q, 1), (.q, 2), (.s, 3), (.q, 4), (.s, 5)] Try.mixed (by kernel_rfl) (allocOk_of _ (by kernel_rfl)) ?_
                    refine vdq (mone rfl) (vmv rfl) rfl rfl ?_
                    refine vdq (mone rfl) (vldn rfl rfl) rfl rfl ?_
                    refine vdq (mone rfl) (vfa rfl) rfl rfl ?_
                    refine vds (mone rfl) (vst1 rfl rfl rfl rfl) rfl ?_
                    refine vdq (mone rfl) (vfa rfl) rfl rfl ?_
                    refine vds (mone rfl) (vstn rfl rfl rfl rfl rfl) rfl ?_
                    refine vdend rfl ?_
                    refine vseq ?_
                    refine vseq ?_
                    refine vregion ?_
                    refine vone rfl (vxq (vmv rfl) rfl rfl ?_)
                    refine vone rfl (vxq (vnot rfl) rfl rfl ?_)
                    refine vone rfl (vxq (vmv rfl) rfl rfl ?_)
                    refine vyes rfl rfl rfl (vxq (vmv rfl) rfl rfl ?_)
                    refine vyes rfl rfl rfl (vxq (vfa rfl) rfl rfl ?_)
                    refine vyes rfl rfl rfl (vxq (vld1 rfl rfl) rfl rfl ?_)
                    refine vyes rfl rfl rfl (vxq (vgtr rfl rfl) rfl rfl ?_)
                    refine vone rfl (vxq (vpkf rfl rfl) rfl rfl ?_)
                    refine vnil ?_
                    refine vcondd rfl (fun h89 => ?_) (fun h89 => ?_)
                    · skip
                      refine vdraw1 (d := 7) rfl [(.q, 0), (.q, 1), (.q, 2), (.s, 3), (.q, 4), (.s, 5)] Try.mixed (by kernel_rfl) (allocOk_of _ (by kernel_rfl)) ?_
                      refine vdq (mone rfl) (vmv rfl) rfl rfl ?_
                      refine vdq (mone rfl) (vldn rfl rfl) rfl rfl ?_
                      refine vdq (mone rfl) (vfa rfl) rfl rfl ?_
                      refine vds (mone rfl) (vst1 rfl rfl rfl rfl) rfl ?_
                      refine vdq (mone rfl) (vfa rfl) rfl rfl ?_
                      refine vds (mone rfl) (vstn rfl rfl rfl rfl rfl) rfl ?_
                      refine vdend rfl ?_
                      refine vregion ?_
                      refine vone rfl (vxq (vas rfl) rfl rfl ?_)
                      refine vnil ?_
                      refine vinblock ?_
                      refine vregion ?_
                      refine vone rfl (vxq (vadd rfl rfl (by unfold InR; omega)) rfl rfl ?_)
                      refine vone rfl (vxq (vmv rfl) rfl rfl ?_)
                      refine vnil ?_
                      first
                        | refine VRun.sub (H' := (b4, blk (clK (dupX r v x ++ [(val v ⟨x, (rowOf r x).a⟩)] ++ [(val v ⟨x, (rowOf r x).b⟩)])) 44) :: (b3, blk [I 0, I 0, I 0, I 0, I 0, I 0] 44) :: (b2, blk [I v.x, I v.y] 36) :: (b1, blk (clR r) 25) :: H) (by rw [k_yy (l := (dupX r v x ++ [(val v ⟨x, (rowOf r x).a⟩)])) (z := (val v ⟨x, (rowOf r x).b⟩)) (not_snoc _ _) h77 h89]; exact (by repeat first | exact .refl _ | refine .cons_cons _ ?_ | refine .cons _ ?_ | exact sl0 _ | refine slA ?_)) ?_
                        | refine VRun.sub (H' := (b4, blk (clK (dupX r v x ++ [(val v ⟨x, (rowOf r x).a⟩)] ++ [(val v ⟨x, (rowOf r x).b⟩)])) 44) :: (b3, blk [I 0, I 0, I 0, I 0, I 0, I 0] 44) :: (b2, blk [I v.x, I v.y] 36) :: (b1, blk (clR r) 25) :: H) (by rw [k_yn (l := (dupX r v x ++ [(val v ⟨x, (rowOf r x).a⟩)])) (z := (val v ⟨x, (rowOf r x).b⟩)) (not_snoc _ _) h77 h89]; exact (by repeat first | exact .refl _ | refine .cons_cons _ ?_ | refine .cons _ ?_ | exact sl0 _ | refine slA ?_)) ?_
                        | refine VRun.sub (H' := (b4, blk (clK (dupX r v x ++ [(val v ⟨x, (rowOf r x).a⟩)] ++ [(val v ⟨x, (rowOf r x).b⟩)])) 44) :: (b3, blk [I 0, I 0, I 0, I 0, I 0, I 0] 44) :: (b2, blk [I v.x, I v.y] 36) :: (b1, blk (clR r) 25) :: H) (by rw [k_ny (l := (dupX r v x ++ [(val v ⟨x, (rowOf r x).a⟩)])) (z := (val v ⟨x, (rowOf r x).b⟩)) (not_snoc _ _) h77 h89]; exact (by repeat first | exact .refl _ | refine .cons_cons _ ?_ | refine .cons _ ?_ | exact sl0 _ | refine slA ?_)) ?_
                        | refine VRun.sub (H' := (b4, blk (clK (dupX r v x ++ [(val v ⟨x, (rowOf r x).a⟩)] ++ [(val v ⟨x, (rowOf r x).b⟩)])) 44) :: (b3, blk [I 0, I 0, I 0, I 0, I 0, I 0] 44) :: (b2, blk [I v.x, I v.y] 36) :: (b1, blk (clR r) 25) :: H) (by rw [k_nn (l := (dupX r v x ++ [(val v ⟨x, (rowOf r x).a⟩)])) (z := (val v ⟨x, (rowOf r x).b⟩)) (not_snoc _ _) h77 h89]; exact (by repeat first | exact .refl _ | refine .cons_cons _ ?_ | refine .cons _ ?_ | exact sl0 _ | refine slA ?_)) ?_
                      refine vinloop1 ?_
                      refine vseq ?_
                      refine vregion ?_
                      refine vone rfl (vxq (vlss rfl rfl) rfl rfl ?_)
                      refine vnil ?_
                      refine vseq ?_
                      refine vcondf rfl ?_
                      refine vexit (k' := _) rfl ?_
                      refine vinblock ?_
                      refine vregion ?_
                      refine vone rfl (vxq (vmv rfl) rfl rfl ?_)
                      refine vone rfl (vxq (vadd rfl rfl (by unfold InR; omega)) rfl rfl ?_)
                      refine vone rfl (vxq (vas rfl) rfl rfl ?_)
                      refine vnil ?_
                      first
                        | (have he : dupX r v (x + 1) = dupX r v x := dupX_no hx1 (by omega)
                           exact vback (IH (x + 1) ⟨by omega, by omega⟩ (by show (_ : Int).toNat < (_ : Int).toNat; omega)) ⟨rfl, rfl, rfl, rfl, rfl, by rw [he]; rfl, rfl, True.intro⟩ (by rw [he]; exact (by repeat first | exact .refl _ | refine .cons_cons _ ?_ | refine .cons _ ?_ | exact sl0 _ | refine slA ?_)))
                        | (have he : dupX r v (x + 1) = _ := dupX_yes hx1 (by omega)
                           exact vback (IH (x + 1) ⟨by omega, by omega⟩ (by show (_ : Int).toNat < (_ : Int).toNat; omega)) ⟨rfl, rfl, rfl, rfl, rfl, by rw [he]; exact congrArg some (congrArg Value.bool (is_snoc _ _).symm), rfl, True.intro⟩ (by rw [he]; exact (by repeat first | exact .refl _ | refine .cons_cons _ ?_ | refine .cons _ ?_ | exact sl0 _ | refine slA ?_)))
                    · skip
                      refine vskip ?_
                      refine vregion ?_
                      refine vone rfl (vxq (vas rfl) rfl rfl ?_)
                      refine vnil ?_
                      refine vinblock ?_
                      refine vregion ?_
                      refine vone rfl (vxq (vadd rfl rfl (by unfold InR; omega)) rfl rfl ?_)
                      refine vone rfl (vxq (vmv rfl) rfl rfl ?_)
                      refine vnil ?_
                      first
                        | refine VRun.sub (H' := (b4, blk (clK (dupX r v x ++ [(val v ⟨x, (rowOf r x).a⟩)] ++ [(val v ⟨x, (rowOf r x).b⟩)])) 44) :: (b3, blk [I 0, I 0, I 0, I 0, I 0, I 0] 44) :: (b2, blk [I v.x, I v.y] 36) :: (b1, blk (clR r) 25) :: H) (by rw [k_yy (l := (dupX r v x ++ [(val v ⟨x, (rowOf r x).a⟩)])) (z := (val v ⟨x, (rowOf r x).b⟩)) (not_snoc _ _) h77 h89]; exact (by repeat first | exact .refl _ | refine .cons_cons _ ?_ | refine .cons _ ?_ | exact sl0 _ | refine slA ?_)) ?_
                        | refine VRun.sub (H' := (b4, blk (clK (dupX r v x ++ [(val v ⟨x, (rowOf r x).a⟩)] ++ [(val v ⟨x, (rowOf r x).b⟩)])) 44) :: (b3, blk [I 0, I 0, I 0, I 0, I 0, I 0] 44) :: (b2, blk [I v.x, I v.y] 36) :: (b1, blk (clR r) 25) :: H) (by rw [k_yn (l := (dupX r v x ++ [(val v ⟨x, (rowOf r x).a⟩)])) (z := (val v ⟨x, (rowOf r x).b⟩)) (not_snoc _ _) h77 h89]; exact (by repeat first | exact .refl _ | refine .cons_cons _ ?_ | refine .cons _ ?_ | exact sl0 _ | refine slA ?_)) ?_
                        | refine VRun.sub (H' := (b4, blk (clK (dupX r v x ++ [(val v ⟨x, (rowOf r x).a⟩)] ++ [(val v ⟨x, (rowOf r x).b⟩)])) 44) :: (b3, blk [I 0, I 0, I 0, I 0, I 0, I 0] 44) :: (b2, blk [I v.x, I v.y] 36) :: (b1, blk (clR r) 25) :: H) (by rw [k_ny (l := (dupX r v x ++ [(val v ⟨x, (rowOf r x).a⟩)])) (z := (val v ⟨x, (rowOf r x).b⟩)) (not_snoc _ _) h77 h89]; exact (by repeat first | exact .refl _ | refine .cons_cons _ ?_ | refine .cons _ ?_ | exact sl0 _ | refine slA ?_)) ?_
                        | refine VRun.sub (H' := (b4, blk (clK (dupX r v x ++ [(val v ⟨x, (rowOf r x).a⟩)] ++ [(val v ⟨x, (rowOf r x).b⟩)])) 44) :: (b3, blk [I 0, I 0, I 0, I 0, I 0, I 0] 44) :: (b2, blk [I v.x, I v.y] 36) :: (b1, blk (clR r) 25) :: H) (by rw [k_nn (l := (dupX r v x ++ [(val v ⟨x, (rowOf r x).a⟩)])) (z := (val v ⟨x, (rowOf r x).b⟩)) (not_snoc _ _) h77 h89]; exact (by repeat first | exact .refl _ | refine .cons_cons _ ?_ | refine .cons _ ?_ | exact sl0 _ | refine slA ?_)) ?_
                      refine vinloop1 ?_
                      refine vseq ?_
                      refine vregion ?_
                      refine vone rfl (vxq (vlss rfl rfl) rfl rfl ?_)
                      refine vnil ?_
                      refine vseq ?_
                      refine vcondf rfl ?_
                      refine vexit (k' := _) rfl ?_
                      refine vinblock ?_
                      refine vregion ?_
                      refine vone rfl (vxq (vmv rfl) rfl rfl ?_)
                      refine vone rfl (vxq (vadd rfl rfl (by unfold InR; omega)) rfl rfl ?_)
                      refine vone rfl (vxq (vas rfl) rfl rfl ?_)
                      refine vnil ?_
                      first
                        | (have he : dupX r v (x + 1) = dupX r v x := dupX_no hx1 (by omega)
                           exact vback (IH (x + 1) ⟨by omega, by omega⟩ (by show (_ : Int).toNat < (_ : Int).toNat; omega)) ⟨rfl, rfl, rfl, rfl, rfl, by rw [he]; rfl, rfl, True.intro⟩ (by rw [he]; exact (by repeat first | exact .refl _ | refine .cons_cons _ ?_ | refine .cons _ ?_ | exact sl0 _ | refine slA ?_)))
                        | (have he : dupX r v (x + 1) = _ := dupX_yes hx1 (by omega)
                           exact vback (IH (x + 1) ⟨by omega, by omega⟩ (by show (_ : Int).toNat < (_ : Int).toNat; omega)) ⟨rfl, rfl, rfl, rfl, rfl, by rw [he]; exact congrArg some (congrArg Value.bool (is_snoc _ _).symm), rfl, True.intro⟩ (by rw [he]; exact (by repeat first | exact .refl _ | refine .cons_cons _ ?_ | refine .cons _ ?_ | exact sl0 _ | refine slA ?_)))
                  · skip
                    refine vskip ?_
                    refine vseq ?_
                    refine vseq ?_
                    refine vregion ?_
                    refine vone rfl (vxq (vmv rfl) rfl rfl ?_)
                    refine vone rfl (vxq (vnot rfl) rfl rfl ?_)
                    refine vone rfl (vxq (vmv rfl) rfl rfl ?_)
                    refine vyes rfl rfl rfl (vxq (vmv rfl) rfl rfl ?_)
                    refine vyes rfl rfl rfl (vxq (vfa rfl) rfl rfl ?_)
                    refine vyes rfl rfl rfl (vxq (vld1 rfl rfl) rfl rfl ?_)
                    refine vyes rfl rfl rfl (vxq (vgtr rfl rfl) rfl rfl ?_)
                    refine vone rfl (vxq (vpkf rfl rfl) rfl rfl ?_)
                    refine vnil ?_
                    refine vcondd rfl (fun h89 => ?_) (fun h89 => ?_)
                    · skip
                      refine vdraw1 (d := 7) rfl [(.q, 0), (.q, 1), (.q, 2), (.s, 3), (.q, 4), (.s, 5)] Try.mixed (by kernel_rfl) (allocOk_of _ (by kernel_rfl)) ?_
                      refine vdq (mone rfl) (vmv rfl) rfl rfl ?_
                      refine vdq (mone rfl) (vldn rfl rfl) rfl rfl ?_
                      refine vdq (mone rfl) (vfa rfl) rfl rfl ?_
                      refine vds (mone rfl) (vst1 rfl rfl rfl rfl) rfl ?_
                      refine vdq (mone rfl) (vfa rfl) rfl rfl ?_
                      refine vds (mone rfl) (vstn rfl rfl rfl rfl rfl) rfl ?_
                      refine vdend rfl ?_
                      refine vregion ?_
                      refine vone rfl (vxq (vas rfl) rfl rfl ?_)
                      refine vnil ?_
                      refine vinblock ?_
                      refine vregion ?_
                      refine vone rfl (vxq (vadd rfl rfl (by unfold InR; omega)) rfl rfl ?_)
                      refine vone rfl (vxq (vmv rfl) rfl rfl ?_)
                      refine vnil ?_
                      first
                        | refine VRun.sub (H' := (b4, blk (clK (dupX r v x ++ [(val v ⟨x, (rowOf r x).a⟩)] ++ [(val v ⟨x, (rowOf r x).b⟩)])) 44) :: (b3, blk [I 0, I 0, I 0, I 0, I 0, I 0] 44) :: (b2, blk [I v.x, I v.y] 36) :: (b1, blk (clR r) 25) :: H) (by rw [k_yy (l := (dupX r v x ++ [(val v ⟨x, (rowOf r x).a⟩)])) (z := (val v ⟨x, (rowOf r x).b⟩)) (not_snoc _ _) h77 h89]; exact (by repeat first | exact .refl _ | refine .cons_cons _ ?_ | refine .cons _ ?_ | exact sl0 _ | refine slA ?_)) ?_
                        | refine VRun.sub (H' := (b4, blk (clK (dupX r v x ++ [(val v ⟨x, (rowOf r x).a⟩)] ++ [(val v ⟨x, (rowOf r x).b⟩)])) 44) :: (b3, blk [I 0, I 0, I 0, I 0, I 0, I 0] 44) :: (b2, blk [I v.x, I v.y] 36) :: (b1, blk (clR r) 25) :: H) (by rw [k_yn (l := (dupX r v x ++ [(val v ⟨x, (rowOf r x).a⟩)])) (z := (val v ⟨x, (rowOf r x).b⟩)) (not_snoc _ _) h77 h89]; exact (by repeat first | exact .refl _ | refine .cons_cons _ ?_ | refine .cons _ ?_ | exact sl0 _ | refine slA ?_)) ?_
                        | refine VRun.sub (H' := (b4, blk (clK (dupX r v x ++ [(val v ⟨x, (rowOf r x).a⟩)] ++ [(val v ⟨x, (rowOf r x).b⟩)])) 44) :: (b3, blk [I 0, I 0, I 0, I 0, I 0, I 0] 44) :: (b2, blk [I v.x, I v.y] 36) :: (b1, blk (clR r) 25) :: H) (by rw [k_ny (l := (dupX r v x ++ [(val v ⟨x, (rowOf r x).a⟩)])) (z := (val v ⟨x, (rowOf r x).b⟩)) (not_snoc _ _) h77 h89]; exact (by repeat first | exact .refl _ | refine .cons_cons _ ?_ | refine .cons _ ?_ | exact sl0 _ | refine slA ?_)) ?_
                        | refine VRun.sub (H' := (b4, blk (clK (dupX r v x ++ [(val v ⟨x, (rowOf r x).a⟩)] ++ [(val v ⟨x, (rowOf r x).b⟩)])) 44) :: (b3, blk [I 0, I 0, I 0, I 0, I 0, I 0] 44) :: (b2, blk [I v.x, I v.y] 36) :: (b1, blk (clR r) 25) :: H) (by rw [k_nn (l := (dupX r v x ++ [(val v ⟨x, (rowOf r x).a⟩)])) (z := (val v ⟨x, (rowOf r x).b⟩)) (not_snoc _ _) h77 h89]; exact (by repeat first | exact .refl _ | refine .cons_cons _ ?_ | refine .cons _ ?_ | exact sl0 _ | refine slA ?_)) ?_
                      refine vinloop1 ?_
                      refine vseq ?_
                      refine vregion ?_
                      refine vone rfl (vxq (vlss rfl rfl) rfl rfl ?_)
                      refine vnil ?_
                      refine vseq ?_
                      refine vcondf rfl ?_
                      refine vexit (k' := _) rfl ?_
                      refine vinblock ?_
                      refine vregion ?_
                      refine vone rfl (vxq (vmv rfl) rfl rfl ?_)
                      refine vone rfl (vxq (vadd rfl rfl (by unfold InR; omega)) rfl rfl ?_)
                      refine vone rfl (vxq (vas rfl) rfl rfl ?_)
                      refine vnil ?_
                      first
                        | (have he : dupX r v (x + 1) = dupX r v x := dupX_no hx1 (by omega)
                           exact vback (IH (x + 1) ⟨by omega, by omega⟩ (by show (_ : Int).toNat < (_ : Int).toNat; omega)) ⟨rfl, rfl, rfl, rfl, rfl, by rw [he]; rfl, rfl, True.intro⟩ (by rw [he]; exact (by repeat first | exact .refl _ | refine .cons_cons _ ?_ | refine .cons _ ?_ | exact sl0 _ | refine slA ?_)))
                        | (have he : dupX r v (x + 1) = _ := dupX_yes hx1 (by omega)
                           exact vback (IH (x + 1) ⟨by omega, by omega⟩ (by show (_ : Int).toNat < (_ : Int).toNat; omega)) ⟨rfl, rfl, rfl, rfl, rfl, by rw [he]; exact congrArg some (congrArg Value.bool (is_snoc _ _).symm), rfl, True.intro⟩ (by rw [he]; exact (by repeat first | exact .refl _ | refine .cons_cons _ ?_ | refine .cons _ ?_ | exact sl0 _ | refine slA ?_)))
                    · skip
                      refine vskip ?_
                      refine vregion ?_
                      refine vone rfl (vxq (vas rfl) rfl rfl ?_)
                      refine vnil ?_
                      refine vinblock ?_
                      refine vregion ?_
                      refine vone rfl (vxq (vadd rfl rfl (by unfold InR; omega)) rfl rfl ?_)
                      refine vone rfl (vxq (vmv rfl) rfl rfl ?_)
                      refine vnil ?_
                      first
                        | refine VRun.sub (H' := (b4, blk (clK (dupX r v x ++ [(val v ⟨x, (rowOf r x).a⟩)] ++ [(val v ⟨x, (rowOf r x).b⟩)])) 44) :: (b3, blk [I 0, I 0, I 0, I 0, I 0, I 0] 44) :: (b2, blk [I v.x, I v.y] 36) :: (b1, blk (clR r) 25) :: H) (by rw [k_yy (l := (dupX r v x ++ [(val v ⟨x, (rowOf r x).a⟩)])) (z := (val v ⟨x, (rowOf r x).b⟩)) (not_snoc _ _) h77 h89]; exact (by repeat first | exact .refl _ | refine .cons_cons _ ?_ | refine .cons _ ?_ | exact sl0 _ | refine slA ?_)) ?_
                        | refine VRun.sub (H' := (b4, blk (clK (dupX r v x ++ [(val v ⟨x, (rowOf r x).a⟩)] ++ [(val v ⟨x, (rowOf r x).b⟩)])) 44) :: (b3, blk [I 0, I 0, I 0, I 0, I 0, I 0] 44) :: (b2, blk [I v.x, I v.y] 36) :: (b1, blk (clR r) 25) :: H) (by rw [k_yn (l := (dupX r v x ++ [(val v ⟨x, (rowOf r x).a⟩)])) (z := (val v ⟨x, (rowOf r x).b⟩)) (not_snoc _ _) h77 h89]; exact (by repeat first | exact .refl _ | refine .cons_cons _ ?_ | refine .cons _ ?_ | exact sl0 _ | refine slA ?_)) ?_
                        | refine VRun.sub (H' := (b4, blk (clK (dupX r v x ++ [(val v ⟨x, (rowOf r x).a⟩)] ++ [(val v ⟨x, (rowOf r x).b⟩)])) 44) :: (b3, blk [I 0, I 0, I 0, I 0, I 0, I 0] 44) :: (b2, blk [I v.x, I v.y] 36) :: (b1, blk (clR r) 25) :: H) (by rw [k_ny (l := (dupX r v x ++ [(val v ⟨x, (rowOf r x).a⟩)])) (z := (val v ⟨x, (rowOf r x).b⟩)) (not_snoc _ _) h77 h89]; exact (by repeat first | exact .refl _ | refine .cons_cons _ ?_ | refine .cons _ ?_ | exact sl0 _ | refine slA ?_)) ?_
                        | refine VRun.sub (H' := (b4, blk (clK (dupX r v x ++ [(val v ⟨x, (rowOf r x).a⟩)] ++ [(val v ⟨x, (rowOf r x).b⟩)])) 44) :: (b3, blk [I 0, I 0, I 0, I 0, I 0, I 0] 44) :: (b2, blk [I v.x, I v.y] 36) :: (b1, blk (clR r) 25) :: H) (by rw [k_nn (l := (dupX r v x ++ [(val v ⟨x, (rowOf r x).a⟩)])) (z := (val v ⟨x, (rowOf r x).b⟩)) (not_snoc _ _) h77 h89]; exact (by repeat first | exact .refl _ | refine .cons_cons _ ?_ | refine .cons _ ?_ | exact sl0 _ | refine slA ?_)) ?_
                      refine vinloop1 ?_
                      refine vseq ?_
                      refine vregion ?_
                      refine vone rfl (vxq (vlss rfl rfl) rfl rfl ?_)
                      refine vnil ?_
                      refine vseq ?_
                      refine vcondf rfl ?_
                      refine vexit (k' := _) rfl ?_
                      refine vinblock ?_
                      refine vregion ?_
                      refine vone rfl (vxq (vmv rfl) rfl rfl ?_)
                      refine vone rfl (vxq (vadd rfl rfl (by unfold InR; omega)) rfl rfl ?_)
                      refine vone rfl (vxq (vas rfl) rfl rfl ?_)
                      refine vnil ?_
                      first
                        | (have he : dupX r v (x + 1) = dupX r v x := dupX_no hx1 (by omega)
                           exact vback (IH (x + 1) ⟨by omega, by omega⟩ (by show (_ : Int).toNat < (_ : Int).toNat; omega)) ⟨rfl, rfl, rfl, rfl, rfl, by rw [he]; rfl, rfl, True.intro⟩ (by rw [he]; exact (by repeat first | exact .refl _ | refine .cons_cons _ ?_ | refine .cons _ ?_ | exact sl0 _ | refine slA ?_)))
                        | (have he : dupX r v (x + 1) = _ := dupX_yes hx1 (by omega)
                           exact vback (IH (x + 1) ⟨by omega, by omega⟩ (by show (_ : Int).toNat < (_ : Int).toNat; omega)) ⟨rfl, rfl, rfl, rfl, rfl, by rw [he]; exact congrArg some (congrArg Value.bool (is_snoc _ _).symm), rfl, True.intro⟩ (by rw [he]; exact (by repeat first | exact .refl _ | refine .cons_cons _ ?_ | refine .cons _ ?_ | exact sl0 _ | refine slA ?_)))
                · skip
                  refine vskip ?_
                  refine vregion ?_
                  refine vone rfl (vxq (vas rfl) rfl rfl ?_)
                  refine vnil ?_
                  refine vinblock ?_
                  refine vregion ?_
                  refine vone rfl (vxq (vadd rfl rfl (by unfold InR; omega)) rfl rfl ?_)
                  refine vone rfl (vxq (vmv rfl) rfl rfl ?_)
                  refine vnil ?_
                  first
                    | refine VRun.sub (H' := (b4, blk (clK (dupX r v x ++ [(val v ⟨x, (rowOf r x).a⟩)])) 44) :: (b3, blk [I 0, I 0, I 0, I 0, I 0, I 0] 44) :: (b2, blk [I v.x, I v.y] 36) :: (b1, blk (clR r) 25) :: H) (by rw [k_n (l := (dupX r v x)) (z := (val v ⟨x, (rowOf r x).a⟩)) h72]; exact (by repeat first | exact .refl _ | refine .cons_cons _ ?_ | refine .cons _ ?_ | exact sl0 _ | refine slA ?_)) ?_
                    | refine VRun.sub (H' := (b4, blk (clK (dupX r v x ++ [(val v ⟨x, (rowOf r x).a⟩)])) 44) :: (b3, blk [I 0, I 0, I 0, I 0, I 0, I 0] 44) :: (b2, blk [I v.x, I v.y] 36) :: (b1, blk (clR r) 25) :: H) (by rw [k_yy (l := (dupX r v x)) (z := (val v ⟨x, (rowOf r x).a⟩)) h72 h77 h89]; exact (by repeat first | exact .refl _ | refine .cons_cons _ ?_ | refine .cons _ ?_ | exact sl0 _ | refine slA ?_)) ?_
                    | refine VRun.sub (H' := (b4, blk (clK (dupX r v x ++ [(val v ⟨x, (rowOf r x).a⟩)])) 44) :: (b3, blk [I 0, I 0, I 0, I 0, I 0, I 0] 44) :: (b2, blk [I v.x, I v.y] 36) :: (b1, blk (clR r) 25) :: H) (by rw [k_yn (l := (dupX r v x)) (z := (val v ⟨x, (rowOf r x).a⟩)) h72 h77 h89]; exact (by repeat first | exact .refl _ | refine .cons_cons _ ?_ | refine .cons _ ?_ | exact sl0 _ | refine slA ?_)) ?_
                    | refine VRun.sub (H' := (b4, blk (clK (dupX r v x ++ [(val v ⟨x, (rowOf r x).a⟩)])) 44) :: (b3, blk [I 0, I 0, I 0, I 0, I 0, I 0] 44) :: (b2, blk [I v.x, I v.y] 36) :: (b1, blk (clR r) 25) :: H) (by rw [k_ny (l := (dupX r v x)) (z := (val v ⟨x, (rowOf r x).a⟩)) h72 h77 h89]; exact (by repeat first | exact .refl _ | refine .cons_cons _ ?_ | refine .cons _ ?_ | exact sl0 _ | refine slA ?_)) ?_
                    | refine VRun.sub (H' := (b4, blk (clK (dupX r v x ++ [(val v ⟨x, (rowOf r x).a⟩)])) 44) :: (b3, blk [I 0, I 0, I 0, I 0, I 0, I 0] 44) :: (b2, blk [I v.x, I v.y] 36) :: (b1, blk (clR r) 25) :: H) (by rw [k_nn (l := (dupX r v x)) (z := (val v ⟨x, (rowOf r x).a⟩)) h72 h77 h89]; exact (by repeat first | exact .refl _ | refine .cons_cons _ ?_ | refine .cons _ ?_ | exact sl0 _ | refine slA ?_)) ?_
                  refine vinloop1 ?_
                  refine vseq ?_
                  refine vregion ?_
                  refine vone rfl (vxq (vlss rfl rfl) rfl rfl ?_)
                  refine vnil ?_
                  refine vseq ?_
                  refine vcondt rfl ?_
                  refine vskip ?_
                  refine vseq ?_
                  refine vblock ?_
                  refine vseq ?_
                  refine vregion ?_
                  refine vone rfl (vxq (vixa1 rfl rfl (by omega) rfl) rfl rfl ?_)
                  refine vone rfl (vxq (vas rfl) rfl rfl ?_)
                  refine vnil ?_
                  refine vseq ?_
                  refine vregion ?_
                  refine vone rfl (vxq (vfa rfl) rfl rfl ?_)
                  refine vone rfl (vxq (vld1 rfl rfl) rfl rfl ?_)
                  refine vone rfl (vxq (vmv rfl) rfl rfl ?_)
                  refine vone rfl (vxq (vmul rfl rfl (by unfold InR; omega)) rfl rfl ?_)
                  refine vone rfl (vxq (vfa rfl) rfl rfl ?_)
                  refine vone rfl (vxq (vld1 rfl rfl) rfl rfl ?_)
                  refine vone rfl (vxq (vmv rfl) rfl rfl ?_)
                  refine vone rfl (vxq (vmul rfl rfl (by unfold InR; omega)) rfl rfl ?_)
                  refine vone rfl (vxq (vadd rfl rfl (by unfold InR; omega)) rfl rfl ?_)
                  refine vone rfl (vxq (vmv rfl) rfl rfl ?_)
                  refine vone rfl (vxq (vmv rfl) rfl rfl ?_)
                  refine vone rfl (vxq (vbd rfl rfl) rfl rfl ?_)
                  refine vone rfl (vxa valloc rfl rfl (fun b11 => ?_))
                  refine vone rfl (vxq (vas rfl) rfl rfl ?_)
                  refine vone rfl (vxs (vstn rfl rfl rfl rfl rfl) rfl ?_)
                  refine vnil ?_
                  refine vseq ?_
                  refine vseq ?_
                  refine vregion ?_
                  refine vone rfl (vxq (vmv rfl) rfl rfl ?_)
                  refine vone rfl (vxq (vnot rfl) rfl rfl ?_)
                  refine vone rfl (vxq (vmv rfl) rfl rfl ?_)
                  refine vyes rfl rfl rfl (vxq (vmv rfl) rfl rfl ?_)
                  refine vyes rfl rfl rfl (vxq (vfa rfl) rfl rfl ?_)
                  refine vyes rfl rfl rfl (vxq (vld1 rfl rfl) rfl rfl ?_)
                  refine vyes rfl rfl rfl (vxq (vlss rfl rfl) rfl rfl ?_)
                  refine vone rfl (vxq (vpkf rfl rfl) rfl rfl ?_)
                  refine vnil ?_
                  refine vcondd rfl (fun h77 => ?_) (fun h77 => ?_)
                  · skip
                    refine vdraw1 (d := 7) rfl [(.q, 0), (.q, 1), (.q, 2), (.s, 3), (.q, 4), (.s, 5)] Try.mixed (by kernel_rfl) (allocOk_of _ (by kernel_rfl)) ?_
                    refine vdq (mone rfl) (vmv rfl) rfl rfl ?_
                    refine vdq (mone rfl) (vldn rfl rfl) rfl rfl ?_
                    refine vdq (mone rfl) (vfa rfl) rfl rfl ?_
                    refine vds (mone rfl) (vst1 rfl rfl rfl rfl) rfl ?_
                    refine vdq (mone rfl) (vfa rfl) rfl rfl ?_
                    refine vds (mone rfl) (vstn rfl rfl rfl rfl rfl) rfl ?_
                    refine vdend rfl ?_
                    refine vseq ?_
                    refine vseq ?_
                    refine vregion ?_
                    refine vone rfl (vxq (vmv rfl) rfl rfl ?_)
                    refine vone rfl (vxq (vnot rfl) rfl rfl ?_)
                    refine vone rfl (vxq (vmv rfl) rfl rfl ?_)
                    refine vyes rfl rfl rfl (vxq (vmv rfl) rfl rfl ?_)
                    refine vyes rfl rfl rfl (vxq (vfa rfl) rfl rfl ?_)
                    refine vyes rfl rfl rfl (vxq (vld1 rfl rfl) rfl rfl ?_)
                    refine vyes rfl rfl rfl (vxq (vgtr rfl rfl) rfl rfl ?_)
                    refine vone rfl (vxq (vpkf rfl rfl) rfl rfl ?_)
                    refine vnil ?_
                    refine vcondd rfl (fun h89 => ?_) (fun h89 => ?_)
                    · skip
                      refine vdraw1 (d := 7) rfl [(.q, 0), (.q, 1), (.q, 2), (.s, 3), (.q, 4), (.s, 5)] Try.mixed (by kernel_rfl) (allocOk_of _ (by kernel_rfl)) ?_
                      refine vdq (mone rfl) (vmv rfl) rfl rfl ?_
                      refine vdq (mone rfl) (vldn rfl rfl) rfl rfl ?_
                      refine vdq (mone rfl) (vfa rfl) rfl rfl ?_
                      refine vds (mone rfl) (vst1 rfl rfl rfl rfl) rfl ?_
                      refine vdq (mone rfl) (vfa rfl) rfl rfl ?_
                      refine vds (mone rfl) (vstn rfl rfl rfl rfl rfl) rfl ?_
                      refine vdend rfl ?_
                      refine vregion ?_
                      refine vone rfl (vxq (vas rfl) rfl rfl ?_)
                      refine vnil ?_
                      refine vinblock ?_
                      refine vregion ?_
                      refine vone rfl (vxq (vadd rfl rfl (by unfold InR; omega)) rfl rfl ?_)
                      refine vone rfl (vxq (vmv rfl) rfl rfl ?_)
                      refine vnil ?_
                      first
                        | refine VRun.sub (H' := (b4, blk (clK (dupX r v x ++ [(val v ⟨x, (rowOf r x).a⟩)] ++ [(val v ⟨x, (rowOf r x).b⟩)])) 44) :: (b3, blk [I 0, I 0, I 0, I 0, I 0, I 0] 44) :: (b2, blk [I v.x, I v.y] 36) :: (b1, blk (clR r) 25) :: H) (by rw [k_yy (l := (dupX r v x ++ [(val v ⟨x, (rowOf r x).a⟩)])) (z := (val v ⟨x, (rowOf r x).b⟩)) (not_snoc _ _) h77 h89]; exact (by repeat first | exact .refl _ | refine .cons_cons _ ?_ | refine .cons _ ?_ | exact sl0 _ | refine slA ?_)) ?_
                        | refine VRun.sub (H' := (b4, blk (clK (dupX r v x ++ [(val v ⟨x, (rowOf r x).a⟩)] ++ [(val v ⟨x, (rowOf r x).b⟩)])) 44) :: (b3, blk [I 0, I 0, I 0, I 0, I 0, I 0] 44) :: (b2, blk [I v.x, I v.y] 36) :: (b1, blk (clR r) 25) :: H) (by rw [k_yn (l := (dupX r v x ++ [(val v ⟨x, (rowOf r x).a⟩)])) (z := (val v ⟨x, (rowOf r x).b⟩)) (not_snoc _ _) h77 h89]; exact (by repeat first | exact .refl _ | refine .cons_cons _ ?_ | refine .cons _ ?_ | exact sl0 _ | refine slA ?_)) ?_
                        | refine VRun.sub (H' := (b4, blk (clK (dupX r v x ++ [(val v ⟨x, (rowOf r x).a⟩)] ++ [(val v ⟨x, (rowOf r x).b⟩)])) 44) :: (b3, blk [I 0, I 0, I 0, I 0, I 0, I 0] 44) :: (b2, blk [I v.x, I v.y] 36) :: (b1, blk (clR r) 25) :: H) (by rw [k_ny (l := (dupX r v x ++ [(val v ⟨x, (rowOf r x).a⟩)])) (z := (val v ⟨x, (rowOf r x).b⟩)) (not_snoc _ _) h77 h89]; exact (by repeat first | exact .refl _ | refine .cons_cons _ ?_ | refine .cons _ ?_ | exact sl0 _ | refine slA ?_)) ?_
                        | refine VRun.sub (H' := (b4, blk (clK (dupX r v x ++ [(val v ⟨x, (rowOf r x).a⟩)] ++ [(val v ⟨x, (rowOf r x).b⟩)])) 44) :: (b3, blk [I 0, I 0, I 0, I 0, I 0, I 0] 44) :: (b2, blk [I v.x, I v.y] 36) :: (b1, blk (clR r) 25) :: H) (by rw [k_nn (l := (dupX r v x ++ [(val v ⟨x, (rowOf r x).a⟩)])) (z := (val v ⟨x, (rowOf r x).b⟩)) (not_snoc _ _) h77 h89]; exact (by repeat first | exact .refl _ | refine .cons_cons _ ?_ | refine .cons _ ?_ | exact sl0 _ | refine slA ?_)) ?_
                      refine vinloop1 ?_
                      refine vseq ?_
                      refine vregion ?_
                      refine vone rfl (vxq (vlss rfl rfl) rfl rfl ?_)
                      refine vnil ?_
                      refine vseq ?_
                      refine vcondf rfl ?_
                      refine vexit (k' := _) rfl ?_
                      refine vinblock ?_
                      refine vregion ?_
                      refine vone rfl (vxq (vmv rfl) rfl rfl ?_)
                      refine vone rfl (vxq (vadd rfl rfl (by unfold InR; omega)) rfl rfl ?_)
                      refine vone rfl (vxq (vas rfl) rfl rfl ?_)
                      refine vnil ?_
                      first
                        | (have he : dupX r v (x + 1) = dupX r v x := dupX_no hx1 (by omega)
                           exact vback (IH (x + 1) ⟨by omega, by omega⟩ (by show (_ : Int).toNat < (_ : Int).toNat; omega)) ⟨rfl, rfl, rfl, rfl, rfl, by rw [he]; rfl, rfl, True.intro⟩ (by rw [he]; exact (by repeat first | exact .refl _ | refine .cons_cons _ ?_ | refine .cons _ ?_ | exact sl0 _ | refine slA ?_)))
                        | (have he : dupX r v (x + 1) = _ := dupX_yes hx1 (by omega)
                           exact vback (IH (x + 1) ⟨by omega, by omega⟩ (by show (_ : Int).toNat < (_ : Int).toNat; omega)) ⟨rfl, rfl, rfl, rfl, rfl, by rw [he]; exact congrArg some (congrArg Value.bool (is_snoc _ _).symm), rfl, True.intro⟩ (by rw [he]; exact (by repeat first | exact .refl _ | refine .cons_cons _ ?_ | refine .cons _ ?_ | exact sl0 _ | refine slA ?_)))
                    · skip
                      refine vskip ?_
                      refine vregion ?_
                      refine vone rfl (vxq (vas rfl) rfl rfl ?_)
                      refine vnil ?_
                      refine vinblock ?_
                      refine vregion ?_
                      refine vone rfl (vxq (vadd rfl rfl (by unfold InR; omega)) rfl rfl ?_)
                      refine vone rfl (vxq (vmv rfl) rfl rfl ?_)
                      refine vnil ?_
                      first
                        | refine VRun.sub (H' := (b4, blk (clK (dupX r v x ++ [(val v ⟨x, (rowOf r x).a⟩)] ++ [(val v ⟨x, (rowOf r x).b⟩)])) 44) :: (b3, blk [I 0, I 0, I 0, I 0, I 0, I 0] 44) :: (b2, blk [I v.x, I v.y] 36) :: (b1, blk (clR r) 25) :: H) (by rw [k_yy (l := (dupX r v x ++ [(val v ⟨x, (rowOf r x).a⟩)])) (z := (val v ⟨x, (rowOf r x).b⟩)) (not_snoc _ _) h77 h89]; exact (by repeat first | exact .refl _ | refine .cons_cons _ ?_ | refine .cons _ ?_ | exact sl0 _ | refine slA ?_)) ?_
                        | refine VRun.sub (H' := (b4, blk (clK (dupX r v x ++ [(val v ⟨x, (rowOf r x).a⟩)] ++ [(val v ⟨x, (rowOf r x).b⟩)])) 44) :: (b3, blk [I 0, I 0, I 0, I 0, I 0, I 0] 44) :: (b2, blk [I v.x, I v.y] 36) :: (b1, blk (clR r) 25) :: H) (by rw [k_yn (l := (dupX r v x ++ [(val v ⟨x, (rowOf r x).a⟩)])) (z := (val v ⟨x, (rowOf r x).b⟩)) (not_snoc _ _) h77 h89]; exact (by repeat first | exact .refl _ | refine .cons_cons _ ?_ | refine .cons _ ?_ | exact sl0 _ | refine slA ?_)) ?_
                        | refine VRun.sub (H' := (b4, blk (clK (dupX r v x ++ [(val v ⟨x, (rowOf r x).a⟩)] ++ [(val v ⟨x, (rowOf r x).b⟩)])) 44) :: (b3, blk [I 0, I 0, I 0, I 0, I 0, I 0] 44) :: (b2, blk [I v.x, I v.y] 36) :: (b1, blk (clR r) 25) :: H) (by rw [k_ny (l := (dupX r v x ++ [(val v ⟨x, (rowOf r x).a⟩)])) (z := (val v ⟨x, (rowOf r x).b⟩)) (not_snoc _ _) h77 h89]; exact (by repeat first | exact .refl _ | refine .cons_cons _ ?_ | refine .cons _ ?_ | exact sl0 _ | refine slA ?_)) ?_
                        | refine VRun.sub (H' := (b4, blk (clK (dupX r v x ++ [(val v ⟨x, (rowOf r x).a⟩)] ++ [(val v ⟨x, (rowOf r x).b⟩)])) 44) :: (b3, blk [I 0, I 0, I 0, I 0, I 0, I 0] 44) :: (b2, blk [I v.x, I v.y] 36) :: (b1, blk (clR r) 25) :: H) (by rw [k_nn (l := (dupX r v x ++ [(val v ⟨x, (rowOf r x).a⟩)])) (z := (val v ⟨x, (rowOf r x).b⟩)) (not_snoc _ _) h77 h89]; exact (by repeat first | exact .refl _ | refine .cons_cons _ ?_ | refine .cons _ ?_ | exact sl0 _ | refine slA ?_)) ?_
                      refine vinloop1 ?_
                      refine vseq ?_
                      refine vregion ?_
                      refine vone rfl (vxq (vlss rfl rfl) rfl rfl ?_)
                      refine vnil ?_
                      refine vseq ?_
                      refine vcondf rfl ?_
                      refine vexit (k' := _) rfl ?_
                      refine vinblock ?_
                      refine vregion ?_
                      refine vone rfl (vxq (vmv rfl) rfl rfl ?_)
                      refine vone rfl (vxq (vadd rfl rfl (by unfold InR; omega)) rfl rfl ?_)
                      refine vone rfl (vxq (vas rfl) rfl rfl ?_)
                      refine vnil ?_
                      first
                        | (have he : dupX r v (x + 1) = dupX r v x := dupX_no hx1 (by omega)
                           exact vback (IH (x + 1) ⟨by omega, by omega⟩ (by show (_ : Int).toNat < (_ : Int).toNat; omega)) ⟨rfl, rfl, rfl, rfl, rfl, by rw [he]; rfl, rfl, True.intro⟩ (by rw [he]; exact (by repeat first | exact .refl _ | refine .cons_cons _ ?_ | refine .cons _ ?_ | exact sl0 _ | refine slA ?_)))
                        | (have he : dupX r v (x + 1) = _ := dupX_yes hx1 (by omega)
                           exact vback (IH (x + 1) ⟨by omega, by omega⟩ (by show (_ : Int).toNat < (_ : Int).toNat; omega)) ⟨rfl, rfl, rfl, rfl, rfl, by rw [he]; exact congrArg some (congrArg Value.bool (is_snoc _ _).symm), rfl, True.intro⟩ (by rw [he]; exact (by repeat first | exact .refl _ | refine .cons_cons _ ?_ | refine .cons _ ?_ | exact sl0 _ | refine slA ?_)))
                  · skip
                    refine vskip ?_
                    refine vseq ?_
                    refine vseq ?_
                    refine vregion ?_
                    refine vone rfl (vxq (vmv rfl) rfl rfl ?_)
                    refine vone rfl (vxq (vnot rfl) rfl rfl ?_)
                    refine vone rfl (vxq (vmv rfl) rfl rfl ?_)
                    refine vyes rfl rfl rfl (vxq (vmv rfl) rfl rfl ?_)
                    refine vyes rfl rfl rfl (vxq (vfa rfl) rfl rfl ?_)
                    refine vyes rfl rfl rfl (vxq (vld1 rfl rfl) rfl rfl ?_)
                    refine vyes rfl rfl rfl (vxq (vgtr rfl rfl) rfl rfl ?_)
                    refine vone rfl (vxq (vpkf rfl rfl) rfl rfl ?_)
                    refine vnil ?_
                    refine vcondd rfl (fun h89 => ?_) (fun h89 => ?_)
                    · skip
                      refine vdraw1 (d := 7) rfl [(.q, 0), (.q, 1), (.q, 2), (.s, 3), (.q, 4), (.s, 5)] Try.mixed (by kernel_rfl) (allocOk_of _ (by kernel_rfl)) ?_
                      refine vdq (mone rfl) (vmv rfl) rfl rfl ?_
                      refine vdq (mone rfl) (vldn rfl rfl) rfl rfl ?_
                      refine vdq (mone rfl) (vfa rfl) rfl rfl ?_
                      refine vds (mone rfl) (vst1 rfl rfl rfl rfl) rfl ?_
                      refine vdq (mone rfl) (vfa rfl) rfl rfl ?_
                      refine vds (mone rfl) (vstn rfl rfl rfl rfl rfl) rfl ?_
                      refine vdend rfl ?_
                      refine vregion ?_
                      refine vone rfl (vxq (vas rfl) rfl rfl ?_)
                      refine vnil ?_
                      refine vinblock ?_
                      refine vregion ?_
                      refine vone rfl (vxq (vadd rfl rfl (by unfold InR; omega)) rfl rfl ?_)
                      refine vone rfl (vxq (vmv rfl) rfl rfl ?_)
                      refine vnil ?_
                      first
                        | refine VRun.sub (H' := (b4, blk (clK (dupX r v x ++ [(val v ⟨x, (rowOf r x).a⟩)] ++ [(val v ⟨x, (rowOf r x).b⟩)])) 44) :: (b3, blk [I 0, I 0, I 0, I 0, I 0, I 0] 44) :: (b2, blk [I v.x, I v.y] 36) :: (b1, blk (clR r) 25) :: H) (by rw [k_yy (l := (dupX r v x ++ [(val v ⟨x, (rowOf r x).a⟩)])) (z := (val v ⟨x, (rowOf r x).b⟩)) (not_snoc _ _) h77 h89]; exact (by repeat first | exact .refl _ | refine .cons_cons _ ?_ | refine .cons _ ?_ | exact sl0 _ | refine slA ?_)) ?_
                        | refine VRun.sub (H' := (b4, blk (clK (dupX r v x ++ [(val v ⟨x, (rowOf r x).a⟩)] ++ [(val v ⟨x, (rowOf r x).b⟩)])) 44) :: (b3, blk [I 0, I 0, I 0, I 0, I 0, I 0] 44) :: (b2, blk [I v.x, I v.y] 36) :: (b1, blk (clR r) 25) :: H) (by rw [k_yn (l := (dupX r v x ++ [(val v ⟨x, (rowOf r x).a⟩)])) (z := (val v ⟨x, (rowOf r x).b⟩)) (not_snoc _ _) h77 h89]; exact (by repeat first | exact .refl _ | refine .cons_cons _ ?_ | refine .cons _ ?_ | exact sl0 _ | refine slA ?_)) ?_
                        | refine VRun.sub (H' := (b4, blk (clK (dupX r v x ++ [(val v ⟨x, (rowOf r x).a⟩)] ++ [(val v ⟨x, (rowOf r x).b⟩)])) 44) :: (b3, blk [I 0, I 0, I 0, I 0, I 0, I 0] 44) :: (b2, blk [I v.x, I v.y] 36) :: (b1, blk (clR r) 25) :: H) (by rw [k_ny (l := (dupX r v x ++ [(val v ⟨x, (rowOf r x).a⟩)])) (z := (val v ⟨x, (rowOf r x).b⟩)) (not_snoc _ _) h77 h89]; exact (by repeat first | exact .refl _ | refine .cons_cons _ ?_ | refine .cons _ ?_ | exact sl0 _ | refine slA ?_)) ?_
                        | refine VRun.sub (H' := (b4, blk (clK (dupX r v x ++ [(val v ⟨x, (rowOf r x).a⟩)] ++ [(val v ⟨x, (rowOf r x).b⟩)])) 44) :: (b3, blk [I 0, I 0, I 0, I 0, I 0, I 0] 44) :: (b2, blk [I v.x, I v.y] 36) :: (b1, blk (clR r) 25) :: H) (by rw [k_nn (l := (dupX r v x ++ [(val v ⟨x, (rowOf r x).a⟩)])) (z := (val v ⟨x, (rowOf r x).b⟩)) (not_snoc _ _) h77 h89]; exact (by repeat first | exact .refl _ | refine .cons_cons _ ?_ | refine .cons _ ?_ | exact sl0 _ | refine slA ?_)) ?_
                      refine vinloop1 ?_
                      refine vseq ?_
                      refine vregion ?_
                      refine vone rfl (vxq (vlss rfl rfl) rfl rfl ?_)
                      refine vnil ?_
                      refine vseq ?_
                      refine vcondf rfl ?_
                      refine vexit (k' := _) rfl ?_
                      refine vinblock ?_
                      refine vregion ?_
                      refine vone rfl (vxq (vmv rfl) rfl rfl ?_)
                      refine vone rfl (vxq (vadd rfl rfl (by unfold InR; omega)) rfl rfl ?_)
                      refine vone rfl (vxq (vas rfl) rfl rfl ?_)
                      refine vnil ?_
                      first
                        | (have he : dupX r v (x + 1) = dupX r v x := dupX_no hx1 (by omega)
                           exact vback (IH (x + 1) ⟨by omega, by omega⟩ (by show (_ : Int).toNat < (_ : Int).toNat; omega)) ⟨rfl, rfl, rfl, rfl, rfl, by rw [he]; rfl, rfl, True.intro⟩ (by rw [he]; exact (by repeat first | exact .refl _ | refine .cons_cons _ ?_ | refine .cons _ ?_ | exact sl0 _ | refine slA ?_)))
                        | (have he : dupX r v (x + 1) = _ := dupX_yes hx1 (by omega)
                           exact vback (IH (x + 1) ⟨by omega, by omega⟩ (by show (_ : Int).toNat < (_ : Int).toNat; omega)) ⟨rfl, rfl, rfl, rfl, rfl, by rw [he]; exact congrArg some (congrArg Value.bool (is_snoc _ _).symm), rfl, True.intro⟩ (by rw [he]; exact (by repeat first | exact .refl _ | refine .cons_cons _ ?_ | refine .cons _ ?_ | exact sl0 _ | refine slA ?_)))
                    · skip
                      refine vskip ?_
                      refine vregion ?_
                      refine vone rfl (vxq (vas rfl) rfl rfl ?_)
                      refine vnil ?_
                      refine vinblock ?_
                      refine vregion ?_
                      refine vone rfl (vxq (vadd rfl rfl (by unfold InR; omega)) rfl rfl ?_)
                      refine vone rfl (vxq (vmv rfl) rfl rfl ?_)
                      refine vnil ?_
                      first
                        | refine VRun.sub (H' := (b4, blk (clK (dupX r v x ++ [(val v ⟨x, (rowOf r x).a⟩)] ++ [(val v ⟨x, (rowOf r x).b⟩)])) 44) :: (b3, blk [I 0, I 0, I 0, I 0, I 0, I 0] 44) :: (b2, blk [I v.x, I v.y] 36) :: (b1, blk (clR r) 25) :: H) (by rw [k_yy (l := (dupX r v x ++ [(val v ⟨x, (rowOf r x).a⟩)])) (z := (val v ⟨x, (rowOf r x).b⟩)) (not_snoc _ _) h77 h89]; exact (by repeat first | exact .refl _ | refine .cons_cons _ ?_ | refine .cons _ ?_ | exact sl0 _ | refine slA ?_)) ?_
                        | refine VRun.sub (H' := (b4, blk (clK (dupX r v x ++ [(val v ⟨x, (rowOf r x).a⟩)] ++ [(val v ⟨x, (rowOf r x).b⟩)])) 44) :: (b3, blk [I 0, I 0, I 0, I 0, I 0, I 0] 44) :: (b2, blk [I v.x, I v.y] 36) :: (b1, blk (clR r) 25) :: H) (by rw [k_yn (l := (dupX r v x ++ [(val v ⟨x, (rowOf r x).a⟩)])) (z := (val v ⟨x, (rowOf r x).b⟩)) (not_snoc _ _) h77 h89]; exact (by repeat first | exact .refl _ | refine .cons_cons _ ?_ | refine .cons _ ?_ | exact sl0 _ | refine slA ?_)) ?_
                        | refine VRun.sub (H' := (b4, blk (clK (dupX r v x ++ [(val v ⟨x, (rowOf r x).a⟩)] ++ [(val v ⟨x, (rowOf r x).b⟩)])) 44) :: (b3, blk [I 0, I 0, I 0, I 0, I 0, I 0] 44) :: (b2, blk [I v.x, I v.y] 36) :: (b1, blk (clR r) 25) :: H) (by rw [k_ny (l := (dupX r v x ++ [(val v ⟨x, (rowOf r x).a⟩)])) (z := (val v ⟨x, (rowOf r x).b⟩)) (not_snoc _ _) h77 h89]; exact (by repeat first | exact .refl _ | refine .cons_cons _ ?_ | refine .cons _ ?_ | exact sl0 _ | refine slA ?_)) ?_
                        | refine VRun.sub (H' := (b4, blk (clK (dupX r v x ++ [(val v ⟨x, (rowOf r x).a⟩)] ++ [(val v ⟨x, (rowOf r x).b⟩)])) 44) :: (b3, blk [I 0, I 0, I 0, I 0, I 0, I 0] 44) :: (b2, blk [I v.x, I v.y] 36) :: (b1, blk (clR r) 25) :: H) (by rw [k_nn (l := (dupX r v x ++ [(val v ⟨x, (rowOf r x).a⟩)])) (z := (val v ⟨x, (rowOf r x).b⟩)) (not_snoc _ _) h77 h89]; exact (by repeat first | exact .refl _ | refine .cons_cons _ ?_ | refine .cons _ ?_ | exact sl0 _ | refine slA ?_)) ?_
                      refine vinloop1 ?_
                      refine vseq ?_
                      refine vregion ?_
                      refine vone rfl (vxq (vlss rfl rfl) rfl rfl ?_)
                      refine vnil ?_
                      refine vseq ?_
                      refine vcondf rfl ?_
                      refine vexit (k' := _) rfl ?_
                      refine vinblock ?_
                      refine vregion ?_
                      refine vone rfl (vxq (vmv rfl) rfl rfl ?_)
                      refine vone rfl (vxq (vadd rfl rfl (by unfold InR; omega)) rfl rfl ?_)
                      refine vone rfl (vxq (vas rfl) rfl rfl ?_)
                      refine vnil ?_
                      first
                        | (have he : dupX r v (x + 1) = dupX r v x := dupX_no hx1 (by omega)
                           exact vback (IH (x + 1) ⟨by omega, by omega⟩ (by show (_ : Int).toNat < (_ : Int).toNat; omega)) ⟨rfl, rfl, rfl, rfl, rfl, by rw [he]; rfl, rfl, True.intro⟩ (by rw [he]; exact (by repeat first | exact .refl _ | refine .cons_cons _ ?_ | refine .cons _ ?_ | exact sl0 _ | refine slA ?_)))
                        | (have he : dupX r v (x + 1) = _ := dupX_yes hx1 (by omega)
                           exact vback (IH (x + 1) ⟨by omega, by omega⟩ (by show (_ : Int).toNat < (_ : Int).toNat; omega)) ⟨rfl, rfl, rfl, rfl, rfl, by rw [he]; exact congrArg some (congrArg Value.bool (is_snoc _ _).symm), rfl, True.intro⟩ (by rw [he]; exact (by repeat first | exact .refl _ | refine .cons_cons _ ?_ | refine .cons _ ?_ | exact sl0 _ | refine slA ?_)))
        · skip
          refine vexit (k' := _) rfl ?_
          refine vseq ?_
          refine vseq ?_
          refine vregion ?_
          refine vone rfl (vxq (vmv rfl) rfl rfl ?_)
          refine vone rfl (vxq (vnot rfl) rfl rfl ?_)
          refine vnil ?_
          refine vcond rfl (fun h96 => ?_) (fun h96 => ?_)
          · skip
            refine vseq ?_
            refine vregion ?_
            refine vone rfl (vxq (vbd rfl rfl) rfl rfl ?_)
            refine vone rfl (vxs (vstn rfl rfl rfl rfl rfl) rfl ?_)
            refine vone rfl (vxq (vas rfl) rfl rfl ?_)
            refine vnil ?_
            refine vret (vr2 (H' := H) Try.func34 rfl (.celln rfl rfl) (.tmp rfl) (by repeat first | exact .refl _ | refine .cons_cons _ ?_ | refine .cons _ ?_ | exact sl0 _ | refine slA ?_) ?_)
            first | (rw [extE_11 h18]; exact ⟨rfl, rfl⟩) | (rw [extE_7 h18 (by unfold Pt.okS; omega)]; exact ⟨rfl, rfl⟩) | (have hle := dup_end less_irr (v := v) hx1 hx2 h39; have hme := dup_end more_irr (v := v) hx1 hx2 h39; rw [hle] at h96; first | (rw [extE_4 h18 (by unfold Pt.okS; omega) h96]; exact ⟨rfl, rfl⟩) | (rw [extE_0 h18 (by unfold Pt.okS; omega) h96, ← hle, ← hme]; exact ⟨rfl, rfl⟩))
          · skip
            refine vskip ?_
            refine vseq ?_
            refine vregion ?_
            refine vone rfl (vxq (vldn rfl rfl) rfl rfl ?_)
            refine vone rfl (vxs (vstn rfl rfl rfl rfl rfl) rfl ?_)
            refine vone rfl (vxq (vas rfl) rfl rfl ?_)
            refine vnil ?_
            refine vret (vr2 (H' := H) Try.func34 rfl (.celln rfl rfl) (.tmp rfl) (by repeat first | exact .refl _ | refine .cons_cons _ ?_ | refine .cons _ ?_ | exact sl0 _ | refine slA ?_) ?_)
            first | (rw [extE_11 h18]; exact ⟨rfl, rfl⟩) | (rw [extE_7 h18 (by unfold Pt.okS; omega)]; exact ⟨rfl, rfl⟩) | (have hle := dup_end less_irr (v := v) hx1 hx2 h39; have hme := dup_end more_irr (v := v) hx1 hx2 h39; rw [hle] at h96; first | (rw [extE_4 h18 (by unfold Pt.okS; omega) h96]; exact ⟨rfl, rfl⟩) | (rw [extE_0 h18 (by unfold Pt.okS; omega) h96, ← hle, ← hme]; exact ⟨rfl, rfl⟩))
end Go.Proofs.Ytffpfcomikcimaa
