/-
  Walks of Extreme, Dist and Gap of the program.
-/
import Derived.Test.YtffpfcomikcimaaWi
namespace Go.Proofs.Ytffpfcomikcimaa
open Go
set_option maxRecDepth 100000

attribute [local irreducible] tightP hullP rootP farP rows endsOf pickL sqL
theorem abs_mul_bd {a b m k : Int} (ha : -m ≤ a ∧ a ≤ m) (hb : -k ≤ b ∧ b ≤ k) : -(m * k) ≤ a * b ∧ a * b ≤ m * k := by
  have h1 := Int.mul_nonneg (show 0 ≤ m - a by omega) (show 0 ≤ k + b by omega)
  have h2 := Int.mul_nonneg (show 0 ≤ m + a by omega) (show 0 ≤ k - b by omega)
  have h3 := Int.mul_nonneg (show 0 ≤ m - a by omega) (show 0 ≤ k - b by omega)
  have h4 := Int.mul_nonneg (show 0 ≤ m + a by omega) (show 0 ≤ k + b by omega)
  simp only [Int.add_mul, Int.mul_add, Int.sub_mul, Int.mul_sub] at h1 h2 h3 h4
  omega
theorem map_split {α β : Type} {f : α → β} {l pre post : List α} {x : α} (h : l = pre ++ x :: post) : l.map f = pre.map f ++ f x :: post.map f := by rw [h]; simp
theorem map_snoc {α β : Type} {f : α → β} {pre : List α} {x : α} : (pre ++ [x]).map f = pre.map f ++ [f x] := by simp

/-- paravane/region.Extreme$1 -/
theorem it_Ext (r : Rg) (v : Pt) (hr : r.ok) (hv : v.okS) (br bv : Nat) : VIt Try.prog 105 [ptr br, ptr bv] (fun x => [vV x]) (vals r v) [(bv, blk [I v.x, I v.y] 36), (br, blk (clR r) 25)] := by
  have hs : r.sm 1099511627776 := hr.sm.mono (by decide)
  unfold Pt.okS at hv
  intro yf ya yc J Jx Hc0 hJ0 hy
  change VCall _ _ _ ((bv, blk [I v.x, I v.y] 36) :: (br, blk (clR r) 25) :: Hc0) _
  refine vcall_of_vrun Try.func105 rfl (N := 25) rfl rfl ?_
  refine vseq ?_
  refine vregion ?_
  refine vone rfl (vxa (vbox rfl rfl) rfl rfl (fun b1 => ?_))
  refine vnil ?_
  refine vseq ?_
  refine vregion ?_
  refine vone rfl (vxq (vldn rfl rfl) rfl rfl ?_)
  refine vone rfl (vxq (vcp rfl rfl rfl (c_region_bounds _ _ _ _ _ _ _ _)) rfl rfl ?_)
  refine vone rfl (vxg (vcnew rfl rfl rfl (n_ends r)) rfl rfl ?_)
  rintro _ _ ⟨b2, rfl, rfl⟩
  refine vnil ?_
  refine vblock ?_
  refine vrange (enc := (fun p => [vP p])) (xs := (endsOf r)) (caps := [ptr b2]) (Hi := [bR b2 r]) (Hc := ((b1, blk [.func yf ya yc] 127) :: (bv, blk [I v.x, I v.y] 36) :: (br, blk (clR r) 25) :: Hc0)) (ps := [8]) (fun pre H1 => ∃ Hc, H1 = (b1, blk [.func yf ya yc] 127) :: (bv, blk [I v.x, I v.y] 36) :: (br, blk (clR r) 25) :: Hc ∧ J (pre.map (val v)) Hc) (fun c H1 => c = .ret ∧ ∃ Hc, H1 = (b1, blk [.func yf ya yc] 127) :: (bv, blk [I v.x, I v.y] 36) :: (br, blk (clR r) 25) :: Hc ∧ Jx Hc) rfl (it_ends r hs b2) (List.Perm.refl _) ⟨_, rfl, hJ0⟩ (fun _ => rfl) rfl ?_ ?_ ?_
  · intro lp rec pre x post H1 hrs hxs hI
    obtain ⟨Hc, rfl, hJ⟩ := hI
    have hpb := ends_sm hr.sm (p := x) (by rw [hxs]; simp)
    unfold Pt.sm at hpb
    have hm1 := abs_mul_bd hv.1 hpb.1
    have hm2 := abs_mul_bd hv.2 hpb.2
    refine vregion ?_
    refine vone rfl (vxa valloc rfl rfl (fun b3 => ?_))
    refine vone rfl (vxs (vstn rfl rfl rfl rfl rfl) rfl ?_)
    refine vnil ?_
    refine vbegin hrs ?_
    refine vblock ?_
    refine vseq ?_
    refine vregion ?_
    refine vone rfl (vxq (vld1 rfl rfl) rfl rfl ?_)
    refine vone rfl (vxq (vfa rfl) rfl rfl ?_)
    refine vone rfl (vxq (vld1 rfl rfl) rfl rfl ?_)
    refine vone rfl (vxq (vfa rfl) rfl rfl ?_)
    refine vone rfl (vxq (vld1 rfl rfl) rfl rfl ?_)
    refine vone rfl (vxq (vmul rfl rfl (by unfold InR; omega)) rfl rfl ?_)
    refine vone rfl (vxq (vfa rfl) rfl rfl ?_)
    refine vone rfl (vxq (vld1 rfl rfl) rfl rfl ?_)
    refine vone rfl (vxq (vfa rfl) rfl rfl ?_)
    refine vone rfl (vxq (vld1 rfl rfl) rfl rfl ?_)
    refine vone rfl (vxq (vmul rfl rfl (by unfold InR; omega)) rfl rfl ?_)
    refine vone rfl (vxq (vadd rfl rfl (by unfold InR; omega)) rfl rfl ?_)
    refine vone rfl (vxq (vldn rfl rfl) rfl rfl ?_)
    refine vone rfl (vxq (vbd rfl rfl) rfl rfl ?_)
    refine vone rfl (vxg (vcy rfl rfl (VY.b5 (hy _ (val v x) _ (map_split hxs) _ hJ))) rfl rfl ?_)
    rintro _ _ ⟨bb, rfl, Hc, rfl, hJ⟩
    rcases bb with _ | _
    · skip
      refine vone rfl (vxq (vnot rfl) rfl rfl ?_)
      refine vnil ?_
      refine vcondt rfl ?_
      refine vroundI_ret (H' := (b1, blk [.func yf ya yc] 127) :: (bv, _) :: (br, _) :: Hc) (by repeat first | exact .refl _ | refine .cons_cons _ ?_ | refine .cons _ ?_ | exact sl0 _ | refine slA ?_) ?_
      exact ⟨rfl, _, rfl, hJ⟩
    · skip
      refine vone rfl (vxq (vnot rfl) rfl rfl ?_)
      refine vnil ?_
      refine vcondf rfl ?_
      refine vskip ?_
      refine vinblock ?_
      refine vroundI_end (H' := (b1, blk [.func yf ya yc] 127) :: (bv, _) :: (br, _) :: Hc) (by repeat first | exact .refl _ | refine .cons_cons _ ?_ | refine .cons _ ?_ | exact sl0 _ | refine slA ?_) ?_
      exact ⟨_, rfl, by rw [map_snoc]; exact hJ⟩
  · intro r1 H1 hI
    obtain ⟨Hc, rfl, hJ⟩ := hI
    change VRun _ _ _ _ _ _ _ ((r1, Obj.deferred (some [])) :: bR b2 r :: (b1, blk [.func yf ya yc] 127) :: (bv, blk [I v.x, I v.y] 36) :: (br, blk (clR r) 25) :: Hc) _
    refine vinblock ?_
    refine vend (vret_mark (vr0 (H' := (bv, blk [I v.x, I v.y] 36) :: (br, blk (clR r) 25) :: Hc) Try.func105 rfl  (by repeat first | exact .refl _ | refine .cons_cons _ ?_ | refine .cons _ ?_ | exact sl0 _ | refine slA ?_) ?_))
    first | exact ⟨rfl, Hc, rfl, .inl hJ⟩ | exact ⟨rfl, Hc, rfl, .inr hJ⟩
  · intro r1 c H1 hI
    obtain ⟨rfl, Hc, rfl, hJ⟩ := hI
    change VRun _ _ _ _ _ _ _ ((r1, Obj.deferred (some [])) :: bR b2 r :: (b1, blk [.func yf ya yc] 127) :: (bv, blk [I v.x, I v.y] 36) :: (br, blk (clR r) 25) :: Hc) _
    refine vret (vret_mark (vr0 (H' := (bv, blk [I v.x, I v.y] 36) :: (br, blk (clR r) 25) :: Hc) Try.func105 rfl  (by repeat first | exact .refl _ | refine .cons_cons _ ?_ | refine .cons _ ?_ | exact sl0 _ | refine slA ?_) ?_))
    first | exact ⟨rfl, Hc, rfl, .inl hJ⟩ | exact ⟨rfl, Hc, rfl, .inr hJ⟩
/-- paravane/region.less -/
theorem c_less (a b : Vd) : VPure Try.prog 108 [vV a, vV b] (.bool (lessV a b)) := by
  intro H
  refine vcall_of_vrun Try.func108 rfl (N := 10) rfl rfl ?_
  refine vseq ?_
  refine vregion ?_
  refine vone rfl (vxa (vbox rfl rfl) rfl rfl (fun b1 => ?_))
  refine vone rfl (vxa (vbox rfl rfl) rfl rfl (fun b2 => ?_))
  refine vone rfl (vxq (vas rfl) rfl rfl ?_)
  refine vnil ?_
  refine vseq ?_
  refine vregion ?_
  refine vone rfl (vxq (vfa rfl) rfl rfl ?_)
  refine vone rfl (vxq (vld1 rfl rfl) rfl rfl ?_)
  refine vone rfl (vxq (vfa rfl) rfl rfl ?_)
  refine vone rfl (vxq (vld1 rfl rfl) rfl rfl ?_)
  refine vone rfl (vxq (vlss rfl rfl) rfl rfl ?_)
  refine vone rfl (vxq (vas rfl) rfl rfl ?_)
  refine vnil ?_
  refine vret (vr1 (H' := H) Try.func108 rfl (.tmp rfl) (by repeat first | exact .refl _ | refine .cons_cons _ ?_ | refine .cons _ ?_ | exact sl0 _ | refine slA ?_) ?_)
  exact ⟨rfl, rfl⟩
/-- paravane/region.more -/
theorem c_more (a b : Vd) : VPure Try.prog 109 [vV a, vV b] (.bool (moreV a b)) := by
  intro H
  refine vcall_of_vrun Try.func109 rfl (N := 10) rfl rfl ?_
  refine vseq ?_
  refine vregion ?_
  refine vone rfl (vxa (vbox rfl rfl) rfl rfl (fun b1 => ?_))
  refine vone rfl (vxa (vbox rfl rfl) rfl rfl (fun b2 => ?_))
  refine vone rfl (vxq (vas rfl) rfl rfl ?_)
  refine vnil ?_
  refine vseq ?_
  refine vregion ?_
  refine vone rfl (vxq (vfa rfl) rfl rfl ?_)
  refine vone rfl (vxq (vld1 rfl rfl) rfl rfl ?_)
  refine vone rfl (vxq (vfa rfl) rfl rfl ?_)
  refine vone rfl (vxq (vld1 rfl rfl) rfl rfl ?_)
  refine vone rfl (vxq (vgtr rfl rfl) rfl rfl ?_)
  refine vone rfl (vxq (vas rfl) rfl rfl ?_)
  refine vnil ?_
  refine vret (vr1 (H' := H) Try.func109 rfl (.tmp rfl) (by repeat first | exact .refl _ | refine .cons_cons _ ?_ | refine .cons _ ?_ | exact sl0 _ | refine slA ?_) ?_)
  exact ⟨rfl, rfl⟩

abbrev vK (k : Pk) : Value := .agg [I k.lo, I k.hi, I k.a.x, I k.a.y, I k.t.x, I k.t.y].toArray
theorem pick_none {α : Type} {better : α → α → Bool} {l : List α} : pickL better l = none ↔ l = [] := by
  cases l with
  | nil => simp [pickL]
  | cons x l =>
    have : ∀ (l : List α) (b : α), (l.foldl (bestS better) (some b)).isSome = true := by
      intro l
      induction l with
      | nil => intro b; rfl
      | cons x l ih => intro b; simp only [List.foldl_cons, bestS]; split <;> exact ih _
    have h := this l x
    constructor
    · intro e
      have e2 : l.foldl (bestS better) (some x) = none := by unfold pickL at e; exact e
      rw [e2] at h; cases h
    · intro e; cases e
theorem pick_some_of {α : Type} {p q : α → α → Bool} {l : List α} {x : α} (h : pickL p l = some x) : ∃ y, pickL q l = some y := by
  cases e : pickL q l with
  | some y => exact ⟨y, rfl⟩
  | none => rw [pick_none] at e; subst e; have : pickL p ([] : List α) = none := pick_none.2 rfl; rw [this] at h; cases h
theorem extE_11 {r : Rg} {v : Pt} (h : chkR r ≠ 0) : extE r v = (zK, chkR r) := by rw [extE, if_neg (chkR_nz.1 h), chkR_no (chkR_nz.1 h)]
theorem extE_7 {r : Rg} {v : Pt} (h : ¬ chkR r ≠ 0) (hv : ¬ v.okS) : extE r v = (zK, 7) := by rw [extE, if_pos (ok_c h), if_neg hv]
theorem extE_4 {r : Rg} {v : Pt} (h : ¬ chkR r ≠ 0) (hv : v.okS) (e : (!(pickL lessV (vals r v)).isSome) = true) : extE r v = (zK, 4) := by rw [extE, if_pos (ok_c h), if_pos hv, optN e]
theorem extE_0 {r : Rg} {v : Pt} (h : ¬ chkR r ≠ 0) (hv : v.okS) (e : (!(pickL lessV (vals r v)).isSome) = false) :
    extE r v = (⟨((pickL lessV (vals r v)).getD zV).n, ((pickL moreV (vals r v)).getD zV).n, ((pickL lessV (vals r v)).getD zV).p, ((pickL moreV (vals r v)).getD zV).p⟩, 0) := by
  obtain ⟨a, ha⟩ := optS e
  obtain ⟨b, hb⟩ := pick_some_of (q := moreV) ha
  rw [extE, if_pos (ok_c h), if_pos hv, ha, hb]; rfl

/-- paravane/region.Extreme -/
theorem c_Extreme (r : Rg) (v : Pt) : VPure Try.prog 33 [vR r, vP v] (tup [vK (extE r v).1, I (extE r v).2]) := by
  intro H
  refine vcall_of_vrun Try.func33 rfl (N := 52) rfl rfl ?_
  refine vseq ?_
  refine vregion ?_
  refine vone rfl (vxa (vbox rfl rfl) rfl rfl (fun b1 => ?_))
  refine vone rfl (vxa (vbox rfl rfl) rfl rfl (fun b2 => ?_))
  refine vone rfl (vxa valloc rfl rfl (fun b3 => ?_))
  refine vone rfl (vxq (vas rfl) rfl rfl ?_)
  refine vnil ?_
  refine vseq ?_
  refine vseq ?_
  refine vregion ?_
  refine vone rfl (vxq (vldn rfl rfl) rfl rfl ?_)
  refine vone rfl (vxq (vcp rfl rfl rfl (c_region_Check r)) rfl rfl ?_)
  refine vone rfl (vxq (vas rfl) rfl rfl ?_)
  refine vnil ?_
  refine vseq ?_
  refine vregion ?_
  refine vone rfl (vxq (vmv rfl) rfl rfl ?_)
  refine vone rfl (vxq (vneq rfl rfl) rfl rfl ?_)
  refine vnil ?_
  refine vcondd rfl (fun h15 => ?_) (fun h15 => ?_)
  · skip
    refine vseq ?_
    refine vregion ?_
    refine vone rfl (vxq (vbd rfl rfl) rfl rfl ?_)
    refine vone rfl (vxq (vmv rfl) rfl rfl ?_)
    refine vone rfl (vxs (vstn rfl rfl rfl rfl rfl) rfl ?_)
    refine vone rfl (vxq (vas rfl) rfl rfl ?_)
    refine vnil ?_
    refine vret (vr2 (H' := H) Try.func33 rfl (.celln rfl rfl) (.tmp rfl) (by repeat first | exact .refl _ | refine .cons_cons _ ?_ | refine .cons _ ?_ | exact sl0 _ | refine slA ?_) ?_)
    first | (rw [extE_11 h15]; exact ⟨rfl, rfl⟩) | (rw [extE_7 h15 (by unfold Pt.okS; omega)]; exact ⟨rfl, rfl⟩) | (rw [extE_4 h15 (by unfold Pt.okS; omega) h36]; exact ⟨rfl, rfl⟩) | (rw [extE_0 h15 (by unfold Pt.okS; omega) h36]; exact ⟨rfl, rfl⟩)
  · skip
    refine vskip ?_
    refine vseq ?_
    refine vseq ?_
    refine vregion ?_
    refine vone rfl (vxq (vfa rfl) rfl rfl ?_)
    refine vone rfl (vxq (vld1 rfl rfl) rfl rfl ?_)
    refine vone rfl (vxq (vcp rfl rfl rfl (c_region_within _ _ _)) rfl rfl ?_)
    refine vone rfl (vxq (vnotd rfl) rfl rfl ?_)
    refine vone rfl (vxq (vmv rfl) rfl rfl ?_)
    refine vsplitd (d := 22) rfl (fun h22 => ?_) (fun h22 => ?_)
    · skip
      refine vno rfl rfl rfl rfl rfl ?_
      refine vno rfl rfl rfl rfl rfl ?_
      refine vno rfl rfl rfl rfl rfl ?_
      refine vno rfl rfl rfl rfl rfl ?_
      refine vone rfl (vxq (vpkt rfl rfl) rfl rfl ?_)
      refine vnil ?_
      refine vcondt rfl ?_
      refine vseq ?_
      refine vregion ?_
      refine vone rfl (vxq (vbd rfl rfl) rfl rfl ?_)
      refine vone rfl (vxs (vstn rfl rfl rfl rfl rfl) rfl ?_)
      refine vone rfl (vxq (vas rfl) rfl rfl ?_)
      refine vnil ?_
      refine vret (vr2 (H' := H) Try.func33 rfl (.celln rfl rfl) (.tmp rfl) (by repeat first | exact .refl _ | refine .cons_cons _ ?_ | refine .cons _ ?_ | exact sl0 _ | refine slA ?_) ?_)
      first | (rw [extE_11 h15]; exact ⟨rfl, rfl⟩) | (rw [extE_7 h15 (by unfold Pt.okS; omega)]; exact ⟨rfl, rfl⟩) | (rw [extE_4 h15 (by unfold Pt.okS; omega) h36]; exact ⟨rfl, rfl⟩) | (rw [extE_0 h15 (by unfold Pt.okS; omega) h36]; exact ⟨rfl, rfl⟩)
    · skip
      refine vyes rfl rfl rfl (vxq (vfa rfl) rfl rfl ?_)
      refine vyes rfl rfl rfl (vxq (vld1 rfl rfl) rfl rfl ?_)
      refine vyes rfl rfl rfl (vxq (vcp rfl rfl rfl (c_region_within _ _ _)) rfl rfl ?_)
      refine vyes rfl rfl rfl (vxq (vnotd rfl) rfl rfl ?_)
      refine vone rfl (vxq (vpkf rfl rfl) rfl rfl ?_)
      refine vnil ?_
      refine vcondd rfl (fun h27 => ?_) (fun h27 => ?_)
      · skip
        refine vseq ?_
        refine vregion ?_
        refine vone rfl (vxq (vbd rfl rfl) rfl rfl ?_)
        refine vone rfl (vxs (vstn rfl rfl rfl rfl rfl) rfl ?_)
        refine vone rfl (vxq (vas rfl) rfl rfl ?_)
        refine vnil ?_
        refine vret (vr2 (H' := H) Try.func33 rfl (.celln rfl rfl) (.tmp rfl) (by repeat first | exact .refl _ | refine .cons_cons _ ?_ | refine .cons _ ?_ | exact sl0 _ | refine slA ?_) ?_)
        first | (rw [extE_11 h15]; exact ⟨rfl, rfl⟩) | (rw [extE_7 h15 (by unfold Pt.okS; omega)]; exact ⟨rfl, rfl⟩) | (rw [extE_4 h15 (by unfold Pt.okS; omega) h36]; exact ⟨rfl, rfl⟩) | (rw [extE_0 h15 (by unfold Pt.okS; omega) h36]; exact ⟨rfl, rfl⟩)
      · skip
        refine vskip ?_
        refine vseq ?_
        refine vregion ?_
        refine vone rfl (vxq (vmf rfl) rfl rfl ?_)
        refine vone rfl (vxq (vas rfl) rfl rfl ?_)
        refine vnil ?_
        refine vseq ?_
        refine vregion ?_
        refine vone rfl (vxq (vmv rfl) rfl rfl ?_)
        refine vone rfl (vxq (vcq rfl rfl rfl ((h_pickVd lessV (it_Ext r v (ok_c h15) (by unfold Pt.okS; omega) b1 b2) c_less).keepSub (by repeat first | exact .refl _ | refine .cons_cons _ ?_ | refine .cons _ ?_ | exact sl0 _ | refine slA ?_))) rfl rfl ?_)
        refine vone rfl (vxq (vmv rfl) rfl rfl ?_)
        refine vone rfl (vxq (vex rfl rfl) rfl rfl ?_)
        refine vone rfl (vxq (vex rfl rfl) rfl rfl ?_)
        refine vone rfl (vxa valloc rfl rfl (fun b4 => ?_))
        refine vone rfl (vxs (vstn rfl rfl rfl rfl rfl) rfl ?_)
        refine vone rfl (vxq (vas rfl) rfl rfl ?_)
        refine vnil ?_
        refine vseq ?_
        refine vseq ?_
        refine vregion ?_
        refine vone rfl (vxq (vmv rfl) rfl rfl ?_)
        refine vone rfl (vxq (vnot rfl) rfl rfl ?_)
        refine vnil ?_
        refine vcond rfl (fun h36 => ?_) (fun h36 => ?_)
        · skip
          refine vseq ?_
          refine vregion ?_
          refine vone rfl (vxq (vbd rfl rfl) rfl rfl ?_)
          refine vone rfl (vxs (vstn rfl rfl rfl rfl rfl) rfl ?_)
          refine vone rfl (vxq (vas rfl) rfl rfl ?_)
          refine vnil ?_
          refine vret (vr2 (H' := H) Try.func33 rfl (.celln rfl rfl) (.tmp rfl) (by repeat first | exact .refl _ | refine .cons_cons _ ?_ | refine .cons _ ?_ | exact sl0 _ | refine slA ?_) ?_)
          first | (rw [extE_11 h15]; exact ⟨rfl, rfl⟩) | (rw [extE_7 h15 (by unfold Pt.okS; omega)]; exact ⟨rfl, rfl⟩) | (rw [extE_4 h15 (by unfold Pt.okS; omega) h36]; exact ⟨rfl, rfl⟩) | (rw [extE_0 h15 (by unfold Pt.okS; omega) h36]; exact ⟨rfl, rfl⟩)
        · skip
          refine vskip ?_
          refine vseq ?_
          refine vregion ?_
          refine vone rfl (vxq (vmv rfl) rfl rfl ?_)
          refine vone rfl (vxq (vcq rfl rfl rfl ((h_pickVd moreV (it_Ext r v (ok_c h15) (by unfold Pt.okS; omega) b1 b2) c_more).keepSub (by repeat first | exact .refl _ | refine .cons_cons _ ?_ | refine .cons _ ?_ | exact sl0 _ | refine slA ?_))) rfl rfl ?_)
          refine vone rfl (vxq (vmv rfl) rfl rfl ?_)
          refine vone rfl (vxq (vex rfl rfl) rfl rfl ?_)
          refine vone rfl (vxq (vex rfl rfl) rfl rfl ?_)
          refine vone rfl (vxa valloc rfl rfl (fun b5 => ?_))
          refine vone rfl (vxs (vstn rfl rfl rfl rfl rfl) rfl ?_)
          refine vone rfl (vxq (vas rfl) rfl rfl ?_)
          refine vnil ?_
          refine vseq ?_
          refine vregion ?_
          refine vone rfl (vxq (vfa rfl) rfl rfl ?_)
          refine vone rfl (vxq (vld1 rfl rfl) rfl rfl ?_)
          refine vone rfl (vxq (vfa rfl) rfl rfl ?_)
          refine vone rfl (vxq (vld1 rfl rfl) rfl rfl ?_)
          refine vone rfl (vxq (vfa rfl) rfl rfl ?_)
          refine vone rfl (vxq (vldn rfl rfl) rfl rfl ?_)
          refine vone rfl (vxq (vfa rfl) rfl rfl ?_)
          refine vone rfl (vxq (vldn rfl rfl) rfl rfl ?_)
          refine vone rfl (vxq (vbd rfl rfl) rfl rfl ?_)
          refine vone rfl (vxs (vstn rfl rfl rfl rfl rfl) rfl ?_)
          refine vone rfl (vxq (vas rfl) rfl rfl ?_)
          refine vnil ?_
          refine vret (vr2 (H' := H) Try.func33 rfl (.celln rfl rfl) (.tmp rfl) (by repeat first | exact .refl _ | refine .cons_cons _ ?_ | refine .cons _ ?_ | exact sl0 _ | refine slA ?_) ?_)
          first | (rw [extE_11 h15]; exact ⟨rfl, rfl⟩) | (rw [extE_7 h15 (by unfold Pt.okS; omega)]; exact ⟨rfl, rfl⟩) | (rw [extE_4 h15 (by unfold Pt.okS; omega) h36]; exact ⟨rfl, rfl⟩) | (rw [extE_0 h15 (by unfold Pt.okS; omega) h36]; exact ⟨rfl, rfl⟩)

theorem sqI_bd {f : Rg} (hf : f.sm 524288) {p : Pt} (hp : p.sm 524288) {w : Rw} (hw : w ∈ rows f) : ((-1048576 ≤ w.x - p.x ∧ w.x - p.x ≤ 1048576) ∧ (-1048576 ≤ nearY p w ∧ nearY p w ≤ 1048576) ∧ (-1048576 ≤ w.a - p.y ∧ w.a - p.y ≤ 1048576) ∧ (-1048576 ≤ w.b - p.y ∧ w.b - p.y ≤ 1048576)) ∧
    ((0 ≤ (w.x - p.x) * (w.x - p.x) ∧ (w.x - p.x) * (w.x - p.x) ≤ 1099511627776) ∧ (0 ≤ nearY p w * nearY p w ∧ nearY p w * nearY p w ≤ 1099511627776) ∧ (0 ≤ (w.a - p.y) * (w.a - p.y) ∧ (w.a - p.y) * (w.a - p.y) ≤ 1099511627776) ∧ (0 ≤ (w.b - p.y) * (w.b - p.y) ∧ (w.b - p.y) * (w.b - p.y) ≤ 1099511627776)) := by
  have h := rows_sm hf hw
  unfold Pt.sm at hp
  have sqb : ∀ a : Int, (-1048576 ≤ a ∧ a ≤ 1048576) → 0 ≤ a * a ∧ a * a ≤ 1099511627776 := fun a ha => ⟨sq_nn a, by have := abs_mul_bd ha ha; omega⟩
  have h1 : -1048576 ≤ w.x - p.x ∧ w.x - p.x ≤ 1048576 := by omega
  have h2 : -1048576 ≤ nearY p w ∧ nearY p w ≤ 1048576 := by unfold nearY; omega
  have h3 : -1048576 ≤ w.a - p.y ∧ w.a - p.y ≤ 1048576 := by omega
  have h4 : -1048576 ≤ w.b - p.y ∧ w.b - p.y ≤ 1048576 := by omega
  exact ⟨⟨h1, h2, h3, h4⟩, sqb _ h1, sqb _ h2, sqb _ h3, sqb _ h4⟩

/-- paravane/region.squares$1 -/
theorem it_sq (f : Rg) (p : Pt) (hf : f.sm 524288) (hp : p.sm 524288) (bf bp : Nat) : VIt Try.prog 144 [ptr bf, ptr bp] (fun b => [vB b]) ((rows f).map (sqI p)) [(bp, blk [I p.x, I p.y] 36) , (bf, blk (clR f) 96)] := by
  have hs : f.sm 1099511627776 := hf.mono (by decide)
  have hf2 := hf
  have hp2 := hp
  unfold Rg.sm Bd.sm at hf2
  unfold Pt.sm at hp2
  intro yf ya yc J Jx Hc0 hJ0 hy
  change VCall _ _ _ ((bp, blk [I p.x, I p.y] 36) :: (bf, blk (clR f) 96) :: Hc0) _
  refine vcall_of_vrun Try.func144 rfl (N := 60) rfl rfl ?_
  refine vseq ?_
  refine vregion ?_
  refine vone rfl (vxa (vbox rfl rfl) rfl rfl (fun b1 => ?_))
  refine vnil ?_
  refine vseq ?_
  refine vregion ?_
  refine vone rfl (vxq (vldn rfl rfl) rfl rfl ?_)
  refine vone rfl (vxg (vcnew rfl rfl rfl (n_rows f)) rfl rfl ?_)
  rintro _ _ ⟨b2, rfl, rfl⟩
  refine vnil ?_
  refine vblock ?_
  refine vrange (enc := (fun w => [vW w])) (xs := (rows f)) (caps := [ptr b2]) (Hi := [bR b2 f]) (Hc := ((b1, blk [.func yf ya yc] 155) :: (bp, blk [I p.x, I p.y] 36) :: (bf, blk (clR f) 96) :: Hc0)) (ps := [11]) (fun pre H1 => ∃ Hc, H1 = (b1, blk [.func yf ya yc] 155) :: (bp, blk [I p.x, I p.y] 36) :: (bf, blk (clR f) 96) :: Hc ∧ J (pre.map (sqI p)) Hc) (fun c H1 => c = .ret ∧ ∃ Hc, H1 = (b1, blk [.func yf ya yc] 155) :: (bp, blk [I p.x, I p.y] 36) :: (bf, blk (clR f) 96) :: Hc ∧ Jx Hc) rfl (it_rows f hs b2) (List.Perm.refl _) ⟨_, rfl, hJ0⟩ (fun _ => rfl) rfl ?_ ?_ ?_
  · intro lp rec pre x post H1 hrs hxs hI
    obtain ⟨Hc, rfl, hJ⟩ := hI
    have hbd := sqI_bd hf hp (w := x) (by rw [hxs]; simp)
    refine vregion ?_
    refine vone rfl (vxa valloc rfl rfl (fun b3 => ?_))
    refine vone rfl (vxs (vstn rfl rfl rfl rfl rfl) rfl ?_)
    refine vnil ?_
    refine vbegin hrs ?_
    refine vblock ?_
    refine vseq ?_
    refine vregion ?_
    refine vone rfl (vxq (vfa rfl) rfl rfl ?_)
    refine vone rfl (vxq (vld1 rfl rfl) rfl rfl ?_)
    refine vone rfl (vxq (vfa rfl) rfl rfl ?_)
    refine vone rfl (vxq (vld1 rfl rfl) rfl rfl ?_)
    refine vone rfl (vxq (vsub rfl rfl (by simp only [nearY] at hbd; unfold InR; omega)) rfl rfl ?_)
    refine vone rfl (vxq (vas rfl) rfl rfl ?_)
    refine vnil ?_
    refine vseq ?_
    refine vdraw0 [(.q, 0), (.q, 1), (.q, 2), (.q, 3), (.q, 4), (.q, 5), (.q, 6), (.q, 7), (.q, 8), (.q, 9), (.q, 10), (.q, 11), (.q, 12), (.q, 13), (.q, 14), (.q, 15), (.q, 16), (.q, 17), (.q, 18), (.q, 19), (.q, 20), (.q, 21), (.q, 22), (.q, 23)] Try.mixed (by kernel_rfl) (by kernel_rfl) ?_
    refine vdq (mone rfl) (vfa rfl) rfl rfl ?_
    refine vdq (mone rfl) (vld1 rfl rfl) rfl rfl ?_
    refine vdq (mone rfl) (vfa rfl) rfl rfl ?_
    refine vdq (mone rfl) (vld1 rfl rfl) rfl rfl ?_
    refine vdq (mone rfl) (vfa rfl) rfl rfl ?_
    refine vdq (mone rfl) (vld1 rfl rfl) rfl rfl ?_
    refine vdq (mone rfl) (vmin2 rfl rfl) rfl rfl ?_
    refine vdq (mone rfl) (vmax2 rfl rfl) rfl rfl ?_
    refine vdq (mone rfl) (vfa rfl) rfl rfl ?_
    refine vdq (mone rfl) (vld1 rfl rfl) rfl rfl ?_
    refine vdq (mone rfl) (vsub rfl rfl (by simp only [nearY] at hbd; unfold InR; omega)) rfl rfl ?_
    refine vdq (mone rfl) (vfa rfl) rfl rfl ?_
    refine vdq (mone rfl) (vld1 rfl rfl) rfl rfl ?_
    refine vdq (mone rfl) (vfa rfl) rfl rfl ?_
    refine vdq (mone rfl) (vld1 rfl rfl) rfl rfl ?_
    refine vdq (mone rfl) (vsub rfl rfl (by simp only [nearY] at hbd; unfold InR; omega)) rfl rfl ?_
    refine vdq (mone rfl) (vfa rfl) rfl rfl ?_
    refine vdq (mone rfl) (vld1 rfl rfl) rfl rfl ?_
    refine vdq (mone rfl) (vfa rfl) rfl rfl ?_
    refine vdq (mone rfl) (vld1 rfl rfl) rfl rfl ?_
    refine vdq (mone rfl) (vsub rfl rfl (by simp only [nearY] at hbd; unfold InR; omega)) rfl rfl ?_
    refine vdq (mone rfl) (vas rfl) rfl rfl ?_
    refine vdq (mone rfl) (vas rfl) rfl rfl ?_
    refine vdq (mone rfl) (vas rfl) rfl rfl ?_
    refine vdend rfl ?_
    refine vseq ?_
    refine vregion ?_
    refine vone rfl (vxq (vld1 rfl rfl) rfl rfl ?_)
    refine vone rfl (vxq (vmv rfl) rfl rfl ?_)
    refine vone rfl (vxq (vmv rfl) rfl rfl ?_)
    refine vone rfl (vxq (vmul rfl rfl (by simp only [nearY] at hbd; unfold InR; omega)) rfl rfl ?_)
    refine vone rfl (vxq (vmv rfl) rfl rfl ?_)
    refine vone rfl (vxq (vmv rfl) rfl rfl ?_)
    refine vone rfl (vxq (vmul rfl rfl (by simp only [nearY] at hbd; unfold InR; omega)) rfl rfl ?_)
    refine vone rfl (vxq (vadd rfl rfl (by simp only [nearY] at hbd; unfold InR; omega)) rfl rfl ?_)
    refine vone rfl (vxq (vmv rfl) rfl rfl ?_)
    refine vone rfl (vxq (vmv rfl) rfl rfl ?_)
    refine vone rfl (vxq (vmul rfl rfl (by simp only [nearY] at hbd; unfold InR; omega)) rfl rfl ?_)
    refine vone rfl (vxq (vmv rfl) rfl rfl ?_)
    refine vone rfl (vxq (vmv rfl) rfl rfl ?_)
    refine vone rfl (vxq (vmul rfl rfl (by simp only [nearY] at hbd; unfold InR; omega)) rfl rfl ?_)
    refine vone rfl (vxq (vmv rfl) rfl rfl ?_)
    refine vone rfl (vxq (vmv rfl) rfl rfl ?_)
    refine vone rfl (vxq (vmul rfl rfl (by simp only [nearY] at hbd; unfold InR; omega)) rfl rfl ?_)
    refine vone rfl (vxq (vmax2 rfl rfl) rfl rfl ?_)
    refine vone rfl (vxq (vadd rfl rfl (by simp only [nearY] at hbd; unfold InR; omega)) rfl rfl ?_)
    refine vone rfl (vxq (vbd rfl rfl) rfl rfl ?_)
    refine vone rfl (vxg (vcy rfl rfl (VY.b5 (hy _ (sqI p x) _ (map_split hxs) _ hJ))) rfl rfl ?_)
    rintro _ _ ⟨bb, rfl, Hc, rfl, hJ⟩
    rcases bb with _ | _
    · skip
      refine vone rfl (vxq (vnot rfl) rfl rfl ?_)
      refine vnil ?_
      refine vcondt rfl ?_
      refine vroundI_ret (H' := (b1, blk [.func yf ya yc] 155) :: (bp, _) :: (bf, _) :: Hc) (by repeat first | exact .refl _ | refine .cons_cons _ ?_ | refine .cons _ ?_ | exact sl0 _ | refine slA ?_) ?_
      exact ⟨rfl, _, rfl, hJ⟩
    · skip
      refine vone rfl (vxq (vnot rfl) rfl rfl ?_)
      refine vnil ?_
      refine vcondf rfl ?_
      refine vskip ?_
      refine vinblock ?_
      refine vroundI_end (H' := (b1, blk [.func yf ya yc] 155) :: (bp, _) :: (bf, _) :: Hc) (by repeat first | exact .refl _ | refine .cons_cons _ ?_ | refine .cons _ ?_ | exact sl0 _ | refine slA ?_) ?_
      exact ⟨_, rfl, by rw [map_snoc]; exact hJ⟩
  · intro r1 H1 hI
    obtain ⟨Hc, rfl, hJ⟩ := hI
    change VRun _ _ _ _ _ _ _ ((r1, Obj.deferred (some [])) :: bR b2 f :: (b1, blk [.func yf ya yc] 155) :: (bp, blk [I p.x, I p.y] 36) :: (bf, blk (clR f) 96) :: Hc) _
    refine vinblock ?_
    refine vend (vret_mark (vr0 (H' := (bp, blk [I p.x, I p.y] 36) :: (bf, blk (clR f) 96) :: Hc) Try.func144 rfl  (by repeat first | exact .refl _ | refine .cons_cons _ ?_ | refine .cons _ ?_ | exact sl0 _ | refine slA ?_) ?_))
    first | exact ⟨rfl, Hc, rfl, .inl hJ⟩ | exact ⟨rfl, Hc, rfl, .inr hJ⟩
  · intro r1 c H1 hI
    obtain ⟨rfl, Hc, rfl, hJ⟩ := hI
    change VRun _ _ _ _ _ _ _ ((r1, Obj.deferred (some [])) :: bR b2 f :: (b1, blk [.func yf ya yc] 155) :: (bp, blk [I p.x, I p.y] 36) :: (bf, blk (clR f) 96) :: Hc) _
    refine vret (vret_mark (vr0 (H' := (bp, blk [I p.x, I p.y] 36) :: (bf, blk (clR f) 96) :: Hc) Try.func144 rfl  (by repeat first | exact .refl _ | refine .cons_cons _ ?_ | refine .cons _ ?_ | exact sl0 _ | refine slA ?_) ?_))
    first | exact ⟨rfl, Hc, rfl, .inl hJ⟩ | exact ⟨rfl, Hc, rfl, .inr hJ⟩
/-- paravane/region.squares$2 -/
theorem c_lessB (a b : Bd) : VPure Try.prog 146 [vB a, vB b] (.bool (lessB a b)) := by
  intro H
  refine vcall_of_vrun Try.func146 rfl (N := 10) rfl rfl ?_
  refine vseq ?_
  refine vregion ?_
  refine vone rfl (vxa (vbox rfl rfl) rfl rfl (fun b1 => ?_))
  refine vone rfl (vxa (vbox rfl rfl) rfl rfl (fun b2 => ?_))
  refine vone rfl (vxq (vas rfl) rfl rfl ?_)
  refine vnil ?_
  refine vseq ?_
  refine vregion ?_
  refine vone rfl (vxq (vfa rfl) rfl rfl ?_)
  refine vone rfl (vxq (vld1 rfl rfl) rfl rfl ?_)
  refine vone rfl (vxq (vfa rfl) rfl rfl ?_)
  refine vone rfl (vxq (vld1 rfl rfl) rfl rfl ?_)
  refine vone rfl (vxq (vlss rfl rfl) rfl rfl ?_)
  refine vone rfl (vxq (vas rfl) rfl rfl ?_)
  refine vnil ?_
  refine vret (vr1 (H' := H) Try.func146 rfl (.tmp rfl) (by repeat first | exact .refl _ | refine .cons_cons _ ?_ | refine .cons _ ?_ | exact sl0 _ | refine slA ?_) ?_)
  exact ⟨rfl, rfl⟩
/-- paravane/region.squares$3 -/
theorem c_moreB (a b : Bd) : VPure Try.prog 147 [vB a, vB b] (.bool (moreB a b)) := by
  intro H
  refine vcall_of_vrun Try.func147 rfl (N := 10) rfl rfl ?_
  refine vseq ?_
  refine vregion ?_
  refine vone rfl (vxa (vbox rfl rfl) rfl rfl (fun b1 => ?_))
  refine vone rfl (vxa (vbox rfl rfl) rfl rfl (fun b2 => ?_))
  refine vone rfl (vxq (vas rfl) rfl rfl ?_)
  refine vnil ?_
  refine vseq ?_
  refine vregion ?_
  refine vone rfl (vxq (vfa rfl) rfl rfl ?_)
  refine vone rfl (vxq (vld1 rfl rfl) rfl rfl ?_)
  refine vone rfl (vxq (vfa rfl) rfl rfl ?_)
  refine vone rfl (vxq (vld1 rfl rfl) rfl rfl ?_)
  refine vone rfl (vxq (vgtr rfl rfl) rfl rfl ?_)
  refine vone rfl (vxq (vas rfl) rfl rfl ?_)
  refine vnil ?_
  refine vret (vr1 (H' := H) Try.func147 rfl (.tmp rfl) (by repeat first | exact .refl _ | refine .cons_cons _ ?_ | refine .cons _ ?_ | exact sl0 _ | refine slA ?_) ?_)
  exact ⟨rfl, rfl⟩
/-- paravane/region.squares -/
theorem c_squares (f : Rg) (p : Pt) (hf : f.sm 524288) (hp : p.sm 524288) : VPure Try.prog 111 [vR f, vP p] (tup [vB ((sqP f p).getD zB), .bool (sqP f p).isSome]) := by
  intro H
  refine vcall_of_vrun Try.func111 rfl (N := 28) rfl rfl ?_
  refine vseq ?_
  refine vregion ?_
  refine vone rfl (vxa (vbox rfl rfl) rfl rfl (fun b1 => ?_))
  refine vone rfl (vxa (vbox rfl rfl) rfl rfl (fun b2 => ?_))
  refine vone rfl (vxa valloc rfl rfl (fun b3 => ?_))
  refine vone rfl (vxq (vas rfl) rfl rfl ?_)
  refine vnil ?_
  refine vseq ?_
  refine vregion ?_
  refine vone rfl (vxq (vmf rfl) rfl rfl ?_)
  refine vone rfl (vxq (vas rfl) rfl rfl ?_)
  refine vnil ?_
  refine vseq ?_
  refine vregion ?_
  refine vone rfl (vxq (vmv rfl) rfl rfl ?_)
  refine vone rfl (vxq (vcq rfl rfl rfl ((h_pickBd lessB (it_sq f p hf hp b1 b2) c_lessB).keepSub (by repeat first | exact .refl _ | refine .cons_cons _ ?_ | refine .cons _ ?_ | exact sl0 _ | refine slA ?_))) rfl rfl ?_)
  refine vone rfl (vxq (vmv rfl) rfl rfl ?_)
  refine vone rfl (vxq (vex rfl rfl) rfl rfl ?_)
  refine vone rfl (vxq (vex rfl rfl) rfl rfl ?_)
  refine vone rfl (vxa valloc rfl rfl (fun b4 => ?_))
  refine vone rfl (vxs (vstn rfl rfl rfl rfl rfl) rfl ?_)
  refine vone rfl (vxq (vas rfl) rfl rfl ?_)
  refine vnil ?_
  refine vseq ?_
  refine vregion ?_
  refine vone rfl (vxq (vmv rfl) rfl rfl ?_)
  refine vone rfl (vxq (vcq rfl rfl rfl ((h_pickBd moreB (it_sq f p hf hp b1 b2) c_moreB).keepSub (by repeat first | exact .refl _ | refine .cons_cons _ ?_ | refine .cons _ ?_ | exact sl0 _ | refine slA ?_))) rfl rfl ?_)
  refine vone rfl (vxq (vmv rfl) rfl rfl ?_)
  refine vone rfl (vxq (vex rfl rfl) rfl rfl ?_)
  refine vone rfl (vxq (vex rfl rfl) rfl rfl ?_)
  refine vone rfl (vxa valloc rfl rfl (fun b5 => ?_))
  refine vone rfl (vxs (vstn rfl rfl rfl rfl rfl) rfl ?_)
  refine vone rfl (vxq (vas rfl) rfl rfl ?_)
  refine vnil ?_
  refine vseq ?_
  refine vregion ?_
  refine vone rfl (vxq (vfa rfl) rfl rfl ?_)
  refine vone rfl (vxq (vld1 rfl rfl) rfl rfl ?_)
  refine vone rfl (vxq (vfa rfl) rfl rfl ?_)
  refine vone rfl (vxq (vld1 rfl rfl) rfl rfl ?_)
  refine vone rfl (vxq (vbd rfl rfl) rfl rfl ?_)
  refine vone rfl (vxq (vmv rfl) rfl rfl ?_)
  refine vone rfl (vxs (vstn rfl rfl rfl rfl rfl) rfl ?_)
  refine vone rfl (vxq (vas rfl) rfl rfl ?_)
  refine vnil ?_
  refine vret (vr2 (H' := H) Try.func111 rfl (.celln rfl rfl) (.tmp rfl) (by repeat first | exact .refl _ | refine .cons_cons _ ?_ | refine .cons _ ?_ | exact sl0 _ | refine slA ?_) ?_)
  exact ⟨oT (by unfold sqP; rw [← sq_pick_some, sq_pick_lo, sq_pick_hi]), rfl⟩
end Go.Proofs.Ytffpfcomikcimaa
