/-
  The walk of RegionPeaks.
-/
import Derived.Test.YtffpfcomikcimaaWz
namespace Go.Proofs.Ytffpfcomikcimaa
open Go
set_option maxRecDepth 100000
attribute [local irreducible] tightP hullP rootP farP rows endsOf sqL sqP twoE pickL srch cutsOf clashE ofE tightE meetE sumE sweptE reachE cntE extE distE moveE gapE coversE hitE joinE minusE hasE restP rootE inE

theorem InR_wrap (n : Int) : InR (IntKind.i64.wrap n) := by rw [IntKind.wrap_i64]; unfold InR; omega
theorem mul_abs {a b m s : Int} (ha : -m ≤ a ∧ a ≤ m) (hb : -s ≤ b ∧ b ≤ s) : -(m * s) ≤ a * b ∧ a * b ≤ m * s := by
  rcases Int.le_total 0 a with h0 | h0
  · exact mul_rng ⟨h0, ha.2⟩ hb
  · have := mul_rng (a := -a) (b := b) (m := m) (s := s) (by omega) hb
    rw [Int.neg_mul] at this; omega
/-- What was seen so far. -/
def Seen (t : Rg) (p : Pt) (o : Bd) (Q : Pt → Prop) (L M : Bool) : Prop := ∀ q, inR t q → Q q → (d2 p q = o.lo → L = true) ∧ (d2 p q = o.hi → M = true)
def Upto (i k : Int) (q : Pt) : Prop := q.x < i ∨ q.x = i ∧ q.y < k
theorem Seen.step {t : Rg} {p : Pt} {o : Bd} {i k : Int} {L M L' M' : Bool} (h : Seen t p o (Upto i k) L M) (h1 : L = true → L' = true) (h2 : M = true → M' = true) (h3 : d2 p ⟨i, k⟩ = o.lo → L' = true) (h4 : d2 p ⟨i, k⟩ = o.hi → M' = true) : Seen t p o (Upto i (k + 1)) L' M' := by
  intro q hq hu
  by_cases e : q.x = i ∧ q.y = k
  · have eq : q = ⟨i, k⟩ := by cases q; simp only at e; rw [e.1, e.2]
    subst eq
    exact ⟨h3, h4⟩
  · have := h q hq (by unfold Upto at *; omega)
    exact ⟨fun hh => h1 (this.1 hh), fun hh => h2 (this.2 hh)⟩
theorem Seen.row {t : Rg} {p : Pt} {o : Bd} {i k : Int} {L M : Bool} (h : Seen t p o (Upto i k) L M) (hk : ¬ k ≤ (rowOf t i).b) (k' : Int) (hk' : k' ≤ (rowOf t (i + 1)).a) : Seen t p o (Upto (i + 1) k') L M := by
  intro q hq hu
  refine h q hq ?_
  have h1 := inR_row.1 hq
  unfold Upto at *
  by_cases e : q.x = i
  · rw [e] at h1; omega
  · by_cases e2 : q.x = i + 1
    · rw [e2] at h1; omega
    · omega
theorem Seen.start {t : Rg} {p : Pt} {o : Bd} (k : Int) (hk : k ≤ (rowOf t t.x.lo).a) : Seen t p o (Upto t.x.lo k) false false := by
  intro q hq hu
  have h1 := inR_row.1 hq
  unfold Upto at hu
  rcases hu with h | ⟨h, h2⟩
  · omega
  · rw [h] at h1; omega
theorem Seen.done {t : Rg} {p : Pt} {o : Bd} {i k : Int} {L M : Bool} (h : Seen t p o (Upto i k) L M) (hi : ¬ i ≤ t.x.hi) (h1 : ∃ z, inR t z ∧ d2 p z = o.lo) (h2 : ∃ z, inR t z ∧ d2 p z = o.hi) : L = true ∧ M = true := by
  have key : ∀ z, inR t z → Upto i k z := fun z hz => by have := (inR_row.1 hz).1; unfold Upto; omega
  obtain ⟨z, m1, e1⟩ := h1
  obtain ⟨y, m2, e2⟩ := h2
  exact ⟨(h z m1 (key z m1)).1 e1, (h y m2 (key y m2)).2 e2⟩
theorem dist_ok {r t : Rg} {p : Pt} {o : Bd} {e : Int} (hr : r.ok) (ht : tightP r = some t) (h : distE r p = (o, e)) (he : e = 0) : p.ok ∧ (∀ q, inR t q → o.lo ≤ d2 p q ∧ d2 p q ≤ o.hi) ∧ (∃ z, inR t z ∧ d2 p z = o.lo) ∧ ∃ z, inR t z ∧ d2 p z = o.hi := by
  subst he
  by_cases hp : p.ok
  · obtain ⟨q, hq⟩ := tight_ne (tight_idem ht)
    obtain ⟨o', h', _, _, h3, h4⟩ := own_of hr ht hq hp
    rw [h] at h'
    simp only [Prod.mk.injEq, and_true] at h'
    subst h'
    refine ⟨hp, fun z hz => ?_, h3, h4⟩
    obtain ⟨o2, h2, a1, a2, _, _⟩ := own_of hr ht hz hp
    rw [h] at h2
    simp only [Prod.mk.injEq, and_true] at h2
    subst h2
    exact ⟨a1, a2⟩
  · exfalso
    unfold distE at h
    rw [if_pos hr, if_neg hp] at h
    simp at h

theorem rowOf_bd {t : Rg} (h : t.ok) {x : Int} : -98304 - max x (-x) ≤ (rowOf t x).a ∧ (rowOf t x).b ≤ 98304 + max x (-x) := by
  unfold Rg.ok Bd.fits at h; unfold rowOf; simp only; omega
/-- paravane/paravanelaw01.RegionPeaks -/
theorem l_Peaks0 (r t : Rg) (v p : Pt) (n e : Int) (h1 : tightE r = (t, e)) (he : e ≠ 0) (H : Heap) : VHas Try.prog 14 [vR r, vP v, .agg [I p.x, I p.y, I n].toArray] (.bool true) H H := by
  refine vcall_of_vrun Try.func14 rfl (N := 267) rfl rfl ?_
  refine vseq ?_
  refine vregion ?_
  refine vone rfl (vxa (vbox rfl rfl) rfl rfl (fun b1 => ?_))
  refine vone rfl (vxa (vbox rfl rfl) rfl rfl (fun b2 => ?_))
  refine vone rfl (vxa (vbox rfl rfl) rfl rfl (fun b3 => ?_))
  refine vone rfl (vxq (vas rfl) rfl rfl ?_)
  refine vnil ?_
  refine vseq ?_
  refine vregion ?_
  refine vone rfl (vxq (vldn rfl rfl) rfl rfl ?_)
  refine vone rfl (vxq (vcp rfl rfl rfl ((c_Tight r).reR h1)) rfl rfl ?_)
  refine vone rfl (vxq (vmv rfl) rfl rfl ?_)
  refine vone rfl (vxq (vex rfl rfl) rfl rfl ?_)
  refine vone rfl (vxq (vex rfl rfl) rfl rfl ?_)
  refine vone rfl (vxa valloc rfl rfl (fun b4 => ?_))
  refine vone rfl (vxs (vstn rfl rfl rfl rfl rfl) rfl ?_)
  refine vone rfl (vxq (vas rfl) rfl rfl ?_)
  refine vnil ?_
  refine vseq ?_
  refine vseq ?_
  refine vregion ?_
  refine vone rfl (vxq (vmv rfl) rfl rfl ?_)
  refine vone rfl (vxq (vneq rfl rfl) rfl rfl ?_)
  refine vknow (d := 31) (b' := true) rfl (decide_eq_true he) ?_
  refine vnil ?_
  refine vcondt rfl ?_
  refine vseq ?_
  refine vregion ?_
  refine vone rfl (vxq (vcp rfl rfl rfl (c_works)) rfl rfl ?_)
  refine vone rfl (vxq (vas rfl) rfl rfl ?_)
  refine vnil ?_
  refine vret (vr1 (H' := H) Try.func14 rfl (.tmp rfl) (by repeat first | exact .refl _ | refine .cons_cons _ ?_ | refine .cons _ ?_ | exact sl0 _ | refine slA ?_) ?_)
  exact ⟨rfl, rfl⟩
/-- paravane/paravanelaw01.RegionPeaks -/
theorem l_Peaks1 (r t : Rg) (v p : Pt) (n e m : Int) (o : Bd) (k : Pk) (hn : InR n) (hr : r.ok) (htp : tightP r = some t) (ht : TotR t t) (hto : t.ok) (h1 : tightE r = (t, 0)) (h5 : cntE r = (m, 0)) (h6 : distE r p = (o, e)) (hv : v.okS) (h2 : extE r v = (k, 0)) (h3 : hasE r k.a = (true, 0)) (h4 : hasE r k.t = (true, 0)) (hka' : dot v k.a = k.lo) (hkt : dot v k.t = k.hi) (hao : k.a.ok) (hbo : k.t.ok) (hq : ∀ q, inR t q → k.lo ≤ dot v q ∧ dot v q ≤ k.hi) (H : Heap) : VHas Try.prog 14 [vR r, vP v, .agg [I p.x, I p.y, I n].toArray] (.bool true) H H := by
  refine vcall_of_vrun Try.func14 rfl (N := 267) rfl rfl ?_
  refine vseq ?_
  refine vregion ?_
  refine vone rfl (vxa (vbox rfl rfl) rfl rfl (fun b1 => ?_))
  refine vone rfl (vxa (vbox rfl rfl) rfl rfl (fun b2 => ?_))
  refine vone rfl (vxa (vbox rfl rfl) rfl rfl (fun b3 => ?_))
  refine vone rfl (vxq (vas rfl) rfl rfl ?_)
  refine vnil ?_
  refine vseq ?_
  refine vregion ?_
  refine vone rfl (vxq (vldn rfl rfl) rfl rfl ?_)
  refine vone rfl (vxq (vcp rfl rfl rfl ((c_Tight r).reR h1)) rfl rfl ?_)
  refine vone rfl (vxq (vmv rfl) rfl rfl ?_)
  refine vone rfl (vxq (vex rfl rfl) rfl rfl ?_)
  refine vone rfl (vxq (vex rfl rfl) rfl rfl ?_)
  refine vone rfl (vxa valloc rfl rfl (fun b4 => ?_))
  refine vone rfl (vxs (vstn rfl rfl rfl rfl rfl) rfl ?_)
  refine vone rfl (vxq (vas rfl) rfl rfl ?_)
  refine vnil ?_
  refine vseq ?_
  refine vseq ?_
  refine vregion ?_
  refine vone rfl (vxq (vmv rfl) rfl rfl ?_)
  refine vone rfl (vxq (vneq rfl rfl) rfl rfl ?_)
  refine vknow (d := 31) (b' := false) rfl (by decide) ?_
  refine vnil ?_
  refine vcondf rfl ?_
  refine vskip ?_
  refine vseq ?_
  refine vseq ?_
  refine vregion ?_
  refine vone rfl (vxq (vldn rfl rfl) rfl rfl ?_)
  refine vone rfl (vxq (vldn rfl rfl) rfl rfl ?_)
  refine vone rfl (vxq (vcp rfl rfl rfl ((c_Extreme r v).reK h2)) rfl rfl ?_)
  refine vone rfl (vxq (vmv rfl) rfl rfl ?_)
  refine vone rfl (vxq (vex rfl rfl) rfl rfl ?_)
  refine vone rfl (vxq (vex rfl rfl) rfl rfl ?_)
  refine vone rfl (vxa valloc rfl rfl (fun b5 => ?_))
  refine vone rfl (vxs (vstn rfl rfl rfl rfl rfl) rfl ?_)
  refine vone rfl (vxq (vas rfl) rfl rfl ?_)
  refine vnil ?_
  refine vseq ?_
  refine vregion ?_
  refine vone rfl (vxq (vmv rfl) rfl rfl ?_)
  refine vone rfl (vxq (veql rfl rfl) rfl rfl ?_)
  refine vknow (d := 40) (b' := true) rfl (by decide) ?_
  refine vnil ?_
  refine vcondt rfl ?_
  refine vseq ?_
  refine vregion ?_
  refine vone rfl (vxq (vldn rfl rfl) rfl rfl ?_)
  refine vone rfl (vxq (vfa rfl) rfl rfl ?_)
  refine vone rfl (vxq (vld1 rfl rfl) rfl rfl ?_)
  refine vone rfl (vxq (vfa rfl) rfl rfl ?_)
  refine vone rfl (vxq (vld1 rfl rfl) rfl rfl ?_)
  refine vone rfl (vxq (vmulw rfl rfl) rfl rfl ?_)
  refine vone rfl (vxq (vaddw rfl rfl) rfl rfl ?_)
  refine vone rfl (vxq (vcp rfl rfl rfl ((c_chosen t n (IntKind.i64.wrap (IntKind.i64.wrap (7 * n) + 3)) hto.sm hn (InR_wrap _)).reC (cho_is ht n))) rfl rfl ?_)
  refine vone rfl (vxq (vmv rfl) rfl rfl ?_)
  refine vone rfl (vxq (vex rfl rfl) rfl rfl ?_)
  refine vone rfl (vxq (vex rfl rfl) rfl rfl ?_)
  refine vknow (d := 51) (b' := true) rfl rfl ?_
  refine vone rfl (vxa valloc rfl rfl (fun b6 => ?_))
  refine vone rfl (vxs (vstn rfl rfl rfl rfl rfl) rfl ?_)
  refine vone rfl (vxq (vas rfl) rfl rfl ?_)
  refine vnil ?_
  refine vseq ?_
  refine vregion ?_
  refine vone rfl (vxq (vldn rfl rfl) rfl rfl ?_)
  refine vone rfl (vxq (vfa rfl) rfl rfl ?_)
  refine vone rfl (vxq (vldn rfl rfl) rfl rfl ?_)
  refine vone rfl (vxq (vcp rfl rfl rfl ((c_Has r k.a).reT h3)) rfl rfl ?_)
  refine vone rfl (vxq (vmv rfl) rfl rfl ?_)
  refine vone rfl (vxq (vex rfl rfl) rfl rfl ?_)
  refine vknow (d := 57) (b' := true) rfl rfl ?_
  refine vone rfl (vxq (vex rfl rfl) rfl rfl ?_)
  refine vone rfl (vxq (vas rfl) rfl rfl ?_)
  refine vone rfl (vxq (vas rfl) rfl rfl ?_)
  refine vnil ?_
  refine vseq ?_
  refine vregion ?_
  refine vone rfl (vxq (vldn rfl rfl) rfl rfl ?_)
  refine vone rfl (vxq (vfa rfl) rfl rfl ?_)
  refine vone rfl (vxq (vldn rfl rfl) rfl rfl ?_)
  refine vone rfl (vxq (vcp rfl rfl rfl ((c_Has r k.t).reT h4)) rfl rfl ?_)
  obtain ⟨v1, v2⟩ := hv
  have qo := ok_inR hto (cho_in ht n (IntKind.i64.wrap (IntKind.i64.wrap (7 * n) + 3)))
  unfold Pt.ok at qo hao hbo
  have m1 := mul_abs (s := 32768) v1 qo.1
  have m2 := mul_abs (s := 32768) v2 qo.2
  have m3 := mul_abs (s := 32768) v1 hao.1
  have m4 := mul_abs (s := 32768) v2 hao.2
  have m5 := mul_abs (s := 32768) v1 hbo.1
  have m6 := mul_abs (s := 32768) v2 hbo.2
  refine vone rfl (vxq (vmv rfl) rfl rfl ?_)
  refine vone rfl (vxq (vex rfl rfl) rfl rfl ?_)
  refine vknow (d := 64) (b' := true) rfl rfl ?_
  refine vone rfl (vxq (vex rfl rfl) rfl rfl ?_)
  refine vone rfl (vxq (vas rfl) rfl rfl ?_)
  refine vone rfl (vxq (vas rfl) rfl rfl ?_)
  refine vnil ?_
  refine vseq ?_
  refine vregion ?_
  refine vone rfl (vxq (vmv rfl) rfl rfl ?_)
  refine vone rfl (vxq (vnot rfl) rfl rfl ?_)
  refine vone rfl (vxq (vmv rfl) rfl rfl ?_)
  refine vyes rfl rfl rfl (vxq (vmv rfl) rfl rfl ?_)
  refine vyes rfl rfl rfl (vxq (vnot rfl) rfl rfl ?_)
  refine vone rfl (vxq (vpkf rfl rfl) rfl rfl ?_)
  refine vone rfl (vxq (vmv rfl) rfl rfl ?_)
  refine vyes rfl rfl rfl (vxq (vmv rfl) rfl rfl ?_)
  refine vyes rfl rfl rfl (vxq (vnot rfl) rfl rfl ?_)
  refine vone rfl (vxq (vpkf rfl rfl) rfl rfl ?_)
  refine vone rfl (vxq (vmv rfl) rfl rfl ?_)
  refine vyes rfl rfl rfl (vxq (vmv rfl) rfl rfl ?_)
  refine vyes rfl rfl rfl (vxq (vneq rfl rfl) rfl rfl ?_)
  refine vknow (d := 78) (b' := false) rfl (by decide) ?_
  refine vone rfl (vxq (vpkf rfl rfl) rfl rfl ?_)
  refine vone rfl (vxq (vmv rfl) rfl rfl ?_)
  refine vyes rfl rfl rfl (vxq (vmv rfl) rfl rfl ?_)
  refine vyes rfl rfl rfl (vxq (vneq rfl rfl) rfl rfl ?_)
  refine vknow (d := 82) (b' := false) rfl (by decide) ?_
  refine vone rfl (vxq (vpkf rfl rfl) rfl rfl ?_)
  refine vone rfl (vxq (vmv rfl) rfl rfl ?_)
  refine vyes rfl rfl rfl (vxq (vfa rfl) rfl rfl ?_)
  refine vyes rfl rfl rfl (vxq (vld1 rfl rfl) rfl rfl ?_)
  refine vyes rfl rfl rfl (vxq (vfa rfl) rfl rfl ?_)
  refine vyes rfl rfl rfl (vxq (vld1 rfl rfl) rfl rfl ?_)
  refine vyes rfl rfl rfl (vxq (vmul rfl rfl (by unfold InR; omega)) rfl rfl ?_)
  refine vyes rfl rfl rfl (vxq (vfa rfl) rfl rfl ?_)
  refine vyes rfl rfl rfl (vxq (vld1 rfl rfl) rfl rfl ?_)
  refine vyes rfl rfl rfl (vxq (vfa rfl) rfl rfl ?_)
  refine vyes rfl rfl rfl (vxq (vld1 rfl rfl) rfl rfl ?_)
  refine vyes rfl rfl rfl (vxq (vmul rfl rfl (by unfold InR; omega)) rfl rfl ?_)
  refine vyes rfl rfl rfl (vxq (vadd rfl rfl (by unfold InR; omega)) rfl rfl ?_)
  refine vyes rfl rfl rfl (vxq (vfa rfl) rfl rfl ?_)
  refine vyes rfl rfl rfl (vxq (vld1 rfl rfl) rfl rfl ?_)
  refine vyes rfl rfl rfl (vxq (vfa rfl) rfl rfl ?_)
  refine vyes rfl rfl rfl (vxq (vld1 rfl rfl) rfl rfl ?_)
  refine vyes rfl rfl rfl (vxq (vcp rfl rfl rfl (c_ref00_Between _ _ _)) rfl rfl ?_)
  refine vknow (d := 100) (b' := true) rfl (decide_eq_true (hq _ (cho_in ht n _))) ?_
  refine vyes rfl rfl rfl (vxq (vnot rfl) rfl rfl ?_)
  refine vone rfl (vxq (vpkf rfl rfl) rfl rfl ?_)
  refine vone rfl (vxq (vmv rfl) rfl rfl ?_)
  refine vyes rfl rfl rfl (vxq (vfa rfl) rfl rfl ?_)
  refine vyes rfl rfl rfl (vxq (vld1 rfl rfl) rfl rfl ?_)
  refine vyes rfl rfl rfl (vxq (vfa rfl) rfl rfl ?_)
  refine vyes rfl rfl rfl (vxq (vfa rfl) rfl rfl ?_)
  refine vyes rfl rfl rfl (vxq (vld1 rfl rfl) rfl rfl ?_)
  refine vyes rfl rfl rfl (vxq (vmul rfl rfl (by unfold InR; omega)) rfl rfl ?_)
  refine vyes rfl rfl rfl (vxq (vfa rfl) rfl rfl ?_)
  refine vyes rfl rfl rfl (vxq (vld1 rfl rfl) rfl rfl ?_)
  refine vyes rfl rfl rfl (vxq (vfa rfl) rfl rfl ?_)
  refine vyes rfl rfl rfl (vxq (vfa rfl) rfl rfl ?_)
  refine vyes rfl rfl rfl (vxq (vld1 rfl rfl) rfl rfl ?_)
  refine vyes rfl rfl rfl (vxq (vmul rfl rfl (by unfold InR; omega)) rfl rfl ?_)
  refine vyes rfl rfl rfl (vxq (vadd rfl rfl (by unfold InR; omega)) rfl rfl ?_)
  refine vyes rfl rfl rfl (vxq (vfa rfl) rfl rfl ?_)
  refine vyes rfl rfl rfl (vxq (vld1 rfl rfl) rfl rfl ?_)
  refine vyes rfl rfl rfl (vxq (vneq rfl rfl) rfl rfl ?_)
  refine vknow (d := 119) (b' := false) rfl (decide_eq_false (fun h => h hka')) ?_
  refine vone rfl (vxq (vpkf rfl rfl) rfl rfl ?_)
  refine vone rfl (vxq (vmv rfl) rfl rfl ?_)
  refine vyes rfl rfl rfl (vxq (vfa rfl) rfl rfl ?_)
  refine vyes rfl rfl rfl (vxq (vld1 rfl rfl) rfl rfl ?_)
  refine vyes rfl rfl rfl (vxq (vfa rfl) rfl rfl ?_)
  refine vyes rfl rfl rfl (vxq (vfa rfl) rfl rfl ?_)
  refine vyes rfl rfl rfl (vxq (vld1 rfl rfl) rfl rfl ?_)
  refine vyes rfl rfl rfl (vxq (vmul rfl rfl (by unfold InR; omega)) rfl rfl ?_)
  refine vyes rfl rfl rfl (vxq (vfa rfl) rfl rfl ?_)
  refine vyes rfl rfl rfl (vxq (vld1 rfl rfl) rfl rfl ?_)
  refine vyes rfl rfl rfl (vxq (vfa rfl) rfl rfl ?_)
  refine vyes rfl rfl rfl (vxq (vfa rfl) rfl rfl ?_)
  refine vyes rfl rfl rfl (vxq (vld1 rfl rfl) rfl rfl ?_)
  refine vyes rfl rfl rfl (vxq (vmul rfl rfl (by unfold InR; omega)) rfl rfl ?_)
  refine vyes rfl rfl rfl (vxq (vadd rfl rfl (by unfold InR; omega)) rfl rfl ?_)
  refine vyes rfl rfl rfl (vxq (vfa rfl) rfl rfl ?_)
  refine vyes rfl rfl rfl (vxq (vld1 rfl rfl) rfl rfl ?_)
  refine vyes rfl rfl rfl (vxq (vneq rfl rfl) rfl rfl ?_)
  refine vknow (d := 137) (b' := false) rfl (decide_eq_false (fun h => h hkt)) ?_
  refine vone rfl (vxq (vpkf rfl rfl) rfl rfl ?_)
  refine vnil ?_
  refine vcondf rfl ?_
  refine vskip ?_
  refine vseq ?_
  refine vregion ?_
  refine vone rfl (vxq (vldn rfl rfl) rfl rfl ?_)
  refine vone rfl (vxq (vcp rfl rfl rfl ((c_Count r).reI h5)) rfl rfl ?_)
  have hto' := hto
  unfold Rg.ok Bd.fits at hto'
  refine vone rfl (vxq (vmv rfl) rfl rfl ?_)
  refine vone rfl (vxq (vex rfl rfl) rfl rfl ?_)
  refine vone rfl (vxq (vex rfl rfl) rfl rfl ?_)
  refine vone rfl (vxq (vas rfl) rfl rfl ?_)
  refine vone rfl (vxq (vas rfl) rfl rfl ?_)
  refine vnil ?_
  refine vseq ?_
  refine vregion ?_
  refine vone rfl (vxq (vldn rfl rfl) rfl rfl ?_)
  refine vone rfl (vxq (vfa rfl) rfl rfl ?_)
  refine vone rfl (vxq (vldn rfl rfl) rfl rfl ?_)
  refine vone rfl (vxq (vcp rfl rfl rfl ((c_Dist r p).reB h6)) rfl rfl ?_)
  refine vone rfl (vxq (vmv rfl) rfl rfl ?_)
  refine vone rfl (vxq (vex rfl rfl) rfl rfl ?_)
  refine vone rfl (vxq (vex rfl rfl) rfl rfl ?_)
  refine vone rfl (vxa valloc rfl rfl (fun b7 => ?_))
  refine vone rfl (vxs (vstn rfl rfl rfl rfl rfl) rfl ?_)
  refine vone rfl (vxq (vas rfl) rfl rfl ?_)
  refine vnil ?_
  refine vseq ?_
  refine vseq ?_
  refine vregion ?_
  refine vone rfl (vxq (vmv rfl) rfl rfl ?_)
  refine vone rfl (vxq (vneq rfl rfl) rfl rfl ?_)
  refine vone rfl (vxq (vmv rfl) rfl rfl ?_)
  refine vsplitd (d := 155) rfl (fun h155 => ?_) (fun h155 => ?_)
  · skip
    refine vno rfl rfl rfl rfl rfl ?_
    refine vno rfl rfl rfl rfl rfl ?_
    refine vone rfl (vxq (vpkt rfl rfl) rfl rfl ?_)
    refine vone rfl (vxq (vmv rfl) rfl rfl ?_)
    refine vno rfl rfl rfl rfl rfl ?_
    refine vno rfl rfl rfl rfl rfl ?_
    refine vone rfl (vxq (vpkt rfl rfl) rfl rfl ?_)
    refine vone rfl (vxq (vmv rfl) rfl rfl ?_)
    refine vno rfl rfl rfl rfl rfl ?_
    refine vno rfl rfl rfl rfl rfl ?_
    refine vno rfl rfl rfl rfl rfl ?_
    refine vno rfl rfl rfl rfl rfl ?_
    refine vno rfl rfl rfl rfl rfl ?_
    refine vno rfl rfl rfl rfl rfl ?_
    refine vno rfl rfl rfl rfl rfl ?_
    refine vno rfl rfl rfl rfl rfl ?_
    refine vone rfl (vxq (vpkt rfl rfl) rfl rfl ?_)
    refine vnil ?_
    refine vcondt rfl ?_
    refine vseq ?_
    refine vregion ?_
    refine vone rfl (vxq (vcp rfl rfl rfl (c_works)) rfl rfl ?_)
    refine vone rfl (vxq (vas rfl) rfl rfl ?_)
    refine vnil ?_
    refine vret (vr1 (H' := H) Try.func14 rfl (.tmp rfl) (by repeat first | exact .refl _ | refine .cons_cons _ ?_ | refine .cons _ ?_ | exact sl0 _ | refine slA ?_) ?_)
    exact ⟨rfl, rfl⟩
  · skip
    refine vyes rfl rfl rfl (vxq (vmv rfl) rfl rfl ?_)
    refine vyes rfl rfl rfl (vxq (vneq rfl rfl) rfl rfl ?_)
    refine vknow (d := 157) (b' := false) rfl (by decide) ?_
    refine vone rfl (vxq (vpkf rfl rfl) rfl rfl ?_)
    refine vone rfl (vxq (vmv rfl) rfl rfl ?_)
    refine vyes rfl rfl rfl (vxq (vmv rfl) rfl rfl ?_)
    refine vyes rfl rfl rfl (vxq (vgtr rfl rfl) rfl rfl ?_)
    refine vone rfl (vxq (vpkf rfl rfl) rfl rfl ?_)
    refine vone rfl (vxq (vmv rfl) rfl rfl ?_)
    refine vsplitd (d := 163) rfl (fun h163 => ?_) (fun h163 => ?_)
    · skip
      refine vno rfl rfl rfl rfl rfl ?_
      refine vno rfl rfl rfl rfl rfl ?_
      refine vno rfl rfl rfl rfl rfl ?_
      refine vno rfl rfl rfl rfl rfl ?_
      refine vno rfl rfl rfl rfl rfl ?_
      refine vno rfl rfl rfl rfl rfl ?_
      refine vno rfl rfl rfl rfl rfl ?_
      refine vno rfl rfl rfl rfl rfl ?_
      refine vone rfl (vxq (vpkt rfl rfl) rfl rfl ?_)
      refine vnil ?_
      refine vcondt rfl ?_
      refine vseq ?_
      refine vregion ?_
      refine vone rfl (vxq (vcp rfl rfl rfl (c_works)) rfl rfl ?_)
      refine vone rfl (vxq (vas rfl) rfl rfl ?_)
      refine vnil ?_
      refine vret (vr1 (H' := H) Try.func14 rfl (.tmp rfl) (by repeat first | exact .refl _ | refine .cons_cons _ ?_ | refine .cons _ ?_ | exact sl0 _ | refine slA ?_) ?_)
      exact ⟨rfl, rfl⟩
    · skip
      refine vyes rfl rfl rfl (vxq (vfa rfl) rfl rfl ?_)
      refine vyes rfl rfl rfl (vxq (vfa rfl) rfl rfl ?_)
      refine vyes rfl rfl rfl (vxq (vld1 rfl rfl) rfl rfl ?_)
      refine vyes rfl rfl rfl (vxq (vfa rfl) rfl rfl ?_)
      refine vyes rfl rfl rfl (vxq (vfa rfl) rfl rfl ?_)
      refine vyes rfl rfl rfl (vxq (vld1 rfl rfl) rfl rfl ?_)
      refine vyes rfl rfl rfl (vxq (vsub rfl rfl (by unfold InR; omega)) rfl rfl ?_)
      refine vyes rfl rfl rfl (vxq (vgtr rfl rfl) rfl rfl ?_)
      refine vone rfl (vxq (vpkf rfl rfl) rfl rfl ?_)
      refine vnil ?_
      refine vcondd rfl (fun h172 => ?_) (fun h172 => ?_)
      · skip
        refine vseq ?_
        refine vregion ?_
        refine vone rfl (vxq (vcp rfl rfl rfl (c_works)) rfl rfl ?_)
        refine vone rfl (vxq (vas rfl) rfl rfl ?_)
        refine vnil ?_
        refine vret (vr1 (H' := H) Try.func14 rfl (.tmp rfl) (by repeat first | exact .refl _ | refine .cons_cons _ ?_ | refine .cons _ ?_ | exact sl0 _ | refine slA ?_) ?_)
        exact ⟨rfl, rfl⟩
      · skip
        obtain ⟨hpo, hall, hlo, hhi⟩ := dist_ok hr htp h6 (nn h155)
        unfold Pt.ok at hpo
        have hle := totR_le ht
        refine vskip ?_
        refine vseq ?_
        refine vregion ?_
        refine vone rfl (vxq (vas rfl) rfl rfl ?_)
        refine vone rfl (vxq (vas rfl) rfl rfl ?_)
        refine vnil ?_
        refine vseq ?_
        refine vseq ?_
        refine vregion ?_
        refine vone rfl (vxq (vfa rfl) rfl rfl ?_)
        refine vone rfl (vxq (vfa rfl) rfl rfl ?_)
        refine vone rfl (vxq (vld1 rfl rfl) rfl rfl ?_)
        refine vone rfl (vxq (vas rfl) rfl rfl ?_)
        refine vnil ?_
        refine vblock ?_
        refine vwhile (σ := Int × Bool × Bool) (fun ⟨i, L, M⟩ => (t.x.hi + 1 - i).toNat) (fun ⟨i, L, M⟩ => [(5, ptr b3), (6, .bool false), (7, ptr b4), (19, ptr b7), (20, .bool L), (21, .bool M), (22, I i)]) (fun ⟨i, L, M⟩ => (b7, blk [I o.lo, I o.hi] 23) :: (b4, blk (clR t) 25) :: (b3, blk [I p.x, I p.y, I n] 82) :: H) (fun ⟨i, L, M⟩ => t.x.lo ≤ i ∧ Seen t p o (Upto i (rowOf t i).a) L M) (t.x.lo, false, false) ⟨Int.le_refl _, Seen.start _ (Int.le_refl _)⟩ ⟨rfl, rfl, rfl, rfl, rfl, rfl, rfl, True.intro⟩ (by repeat first | exact .refl _ | refine .cons_cons _ ?_ | refine .cons _ ?_ | exact sl0 _ | refine slA ?_) ?_
        rintro ⟨i, L, M⟩ ⟨hil, hse⟩ IH
        change VRun _ _ _ _ _ [(5, ptr b3), (6, .bool false), (7, ptr b4), (19, ptr b7), (20, .bool L), (21, .bool M), (22, I i)] _ ((b7, blk [I o.lo, I o.hi] 23) :: (b4, blk (clR t) 25) :: (b3, blk [I p.x, I p.y, I n] 82) :: H) _
        refine vseq ?_
        refine vseq ?_
        refine vregion ?_
        refine vone rfl (vxq (vmv rfl) rfl rfl ?_)
        refine vone rfl (vxq (vfa rfl) rfl rfl ?_)
        refine vone rfl (vxq (vfa rfl) rfl rfl ?_)
        refine vone rfl (vxq (vld1 rfl rfl) rfl rfl ?_)
        refine vone rfl (vxq (vleq rfl rfl) rfl rfl ?_)
        refine vnil ?_
        refine vcondd rfl (fun h181 => ?_) (fun h181 => ?_)
        · skip
          have hrw := tight_row ht hil h181
          have hrb := rowOf_bd hto (x := i)
          refine vskip ?_
          refine vseq ?_
          refine vblock ?_
          refine vseq ?_
          refine vregion ?_
          refine vone rfl (vxq (vfa rfl) rfl rfl ?_)
          refine vone rfl (vxq (vfa rfl) rfl rfl ?_)
          refine vone rfl (vxq (vld1 rfl rfl) rfl rfl ?_)
          refine vone rfl (vxq (vfa rfl) rfl rfl ?_)
          refine vone rfl (vxq (vfa rfl) rfl rfl ?_)
          refine vone rfl (vxq (vld1 rfl rfl) rfl rfl ?_)
          refine vone rfl (vxq (vmv rfl) rfl rfl ?_)
          refine vone rfl (vxq (vsub rfl rfl (by unfold InR; omega)) rfl rfl ?_)
          refine vone rfl (vxq (vmv rfl) rfl rfl ?_)
          refine vone rfl (vxq (vfa rfl) rfl rfl ?_)
          refine vone rfl (vxq (vfa rfl) rfl rfl ?_)
          refine vone rfl (vxq (vld1 rfl rfl) rfl rfl ?_)
          refine vone rfl (vxq (vsub rfl rfl (by unfold InR; omega)) rfl rfl ?_)
          refine vone rfl (vxq (vmax3 rfl rfl rfl) rfl rfl ?_)
          refine vone rfl (vxq (vas rfl) rfl rfl ?_)
          refine vnil ?_
          refine vblock ?_
          refine vwhile (σ := Int × Bool × Bool) (fun ⟨k, L, M⟩ => ((rowOf t i).b + 1 - k).toNat) (fun ⟨k, L, M⟩ => [(5, ptr b3), (6, .bool false), (7, ptr b4), (19, ptr b7), (20, .bool L), (21, .bool M), (22, I i), (23, I k)]) (fun ⟨k, L, M⟩ => (b7, blk [I o.lo, I o.hi] 23) :: (b4, blk (clR t) 25) :: (b3, blk [I p.x, I p.y, I n] 82) :: H) (fun ⟨k, L, M⟩ => (rowOf t i).a ≤ k ∧ Seen t p o (Upto i k) L M) ((rowOf t i).a, L, M) ⟨Int.le_refl _, hse⟩ ⟨rfl, rfl, rfl, rfl, rfl, rfl, rfl, rfl, True.intro⟩ (by repeat first | exact .refl _ | refine .cons_cons _ ?_ | refine .cons _ ?_ | exact sl0 _ | refine slA ?_) ?_
          rintro ⟨k, L, M⟩ ⟨hka, hse⟩ IH2
          change VRun _ _ _ _ _ [(5, ptr b3), (6, .bool false), (7, ptr b4), (19, ptr b7), (20, .bool L), (21, .bool M), (22, I i), (23, I k)] _ ((b7, blk [I o.lo, I o.hi] 23) :: (b4, blk (clR t) 25) :: (b3, blk [I p.x, I p.y, I n] 82) :: H) _
          refine vseq ?_
          refine vseq ?_
          refine vregion ?_
          refine vone rfl (vxq (vmv rfl) rfl rfl ?_)
          refine vone rfl (vxq (vfa rfl) rfl rfl ?_)
          refine vone rfl (vxq (vfa rfl) rfl rfl ?_)
          refine vone rfl (vxq (vld1 rfl rfl) rfl rfl ?_)
          refine vone rfl (vxq (vfa rfl) rfl rfl ?_)
          refine vone rfl (vxq (vfa rfl) rfl rfl ?_)
          refine vone rfl (vxq (vld1 rfl rfl) rfl rfl ?_)
          refine vone rfl (vxq (vmv rfl) rfl rfl ?_)
          refine vone rfl (vxq (vsub rfl rfl (by unfold InR; omega)) rfl rfl ?_)
          refine vone rfl (vxq (vmv rfl) rfl rfl ?_)
          refine vone rfl (vxq (vfa rfl) rfl rfl ?_)
          refine vone rfl (vxq (vfa rfl) rfl rfl ?_)
          refine vone rfl (vxq (vld1 rfl rfl) rfl rfl ?_)
          refine vone rfl (vxq (vsub rfl rfl (by unfold InR; omega)) rfl rfl ?_)
          refine vone rfl (vxq (vmin3 rfl rfl rfl) rfl rfl ?_)
          refine vone rfl (vxq (vleq rfl rfl) rfl rfl ?_)
          refine vnil ?_
          refine vcondd rfl (fun h213 => ?_) (fun h213 => ?_)
          · skip
            have hkb : k ≤ (rowOf t i).b := h213
            have hin : inR t ⟨i, k⟩ := inR_row.2 ⟨⟨hil, h181⟩, hka, h213⟩
            have hio := ok_inR hto hin
            unfold Pt.ok at hio
            dsimp only at hio
            refine vskip ?_
            refine vseq ?_
            refine vblock ?_
            refine vseq ?_
            refine vregion ?_
            refine vone rfl (vxq (vmv rfl) rfl rfl ?_)
            refine vone rfl (vxq (vfa rfl) rfl rfl ?_)
            refine vone rfl (vxq (vfa rfl) rfl rfl ?_)
            refine vone rfl (vxq (vld1 rfl rfl) rfl rfl ?_)
            refine vone rfl (vxq (vsub rfl rfl (by unfold InR; omega)) rfl rfl ?_)
            refine vone rfl (vxq (vmv rfl) rfl rfl ?_)
            refine vone rfl (vxq (vfa rfl) rfl rfl ?_)
            refine vone rfl (vxq (vfa rfl) rfl rfl ?_)
            refine vone rfl (vxq (vld1 rfl rfl) rfl rfl ?_)
            refine vone rfl (vxq (vsub rfl rfl (by unfold InR; omega)) rfl rfl ?_)
            have s1 := sq_bd (a := i - p.x) (m := 65536) (by omega)
            have s2 := sq_bd (a := k - p.y) (m := 65536) (by omega)
            refine vone rfl (vxq (vmul rfl rfl (by unfold InR; omega)) rfl rfl ?_)
            refine vone rfl (vxq (vmv rfl) rfl rfl ?_)
            refine vone rfl (vxq (vfa rfl) rfl rfl ?_)
            refine vone rfl (vxq (vfa rfl) rfl rfl ?_)
            refine vone rfl (vxq (vld1 rfl rfl) rfl rfl ?_)
            refine vone rfl (vxq (vsub rfl rfl (by unfold InR; omega)) rfl rfl ?_)
            refine vone rfl (vxq (vmv rfl) rfl rfl ?_)
            refine vone rfl (vxq (vfa rfl) rfl rfl ?_)
            refine vone rfl (vxq (vfa rfl) rfl rfl ?_)
            refine vone rfl (vxq (vld1 rfl rfl) rfl rfl ?_)
            refine vone rfl (vxq (vsub rfl rfl (by unfold InR; omega)) rfl rfl ?_)
            refine vone rfl (vxq (vmul rfl rfl (by unfold InR; omega)) rfl rfl ?_)
            refine vone rfl (vxq (vadd rfl rfl (by unfold InR; omega)) rfl rfl ?_)
            refine vone rfl (vxq (vas rfl) rfl rfl ?_)
            refine vnil ?_
            refine vseq ?_
            refine vseq ?_
            refine vregion ?_
            refine vone rfl (vxq (vmv rfl) rfl rfl ?_)
            refine vone rfl (vxq (vfa rfl) rfl rfl ?_)
            refine vone rfl (vxq (vld1 rfl rfl) rfl rfl ?_)
            refine vone rfl (vxq (vfa rfl) rfl rfl ?_)
            refine vone rfl (vxq (vld1 rfl rfl) rfl rfl ?_)
            refine vone rfl (vxq (vcp rfl rfl rfl (c_ref00_Between _ _ _)) rfl rfl ?_)
            refine vknow (d := 244) (b' := true) rfl (decide_eq_true (hall _ hin)) ?_
            refine vone rfl (vxq (vnot rfl) rfl rfl ?_)
            refine vnil ?_
            refine vcondf rfl ?_
            refine vskip ?_
            refine vdraw0 [(.q, 0), (.q, 1), (.q, 2), (.q, 3), (.q, 4), (.q, 5), (.q, 6), (.q, 7), (.q, 8), (.q, 9), (.q, 10), (.q, 11), (.q, 12), (.q, 13), (.q, 14), (.q, 15)] Try.mixed (by kernel_rfl) (by kernel_rfl) ?_
            refine vdq (mone rfl) (vmv rfl) rfl rfl ?_
            refine vdq (mone rfl) (vmv rfl) rfl rfl ?_
            refine vdsplit (d := 247) rfl (fun h247 => ?_) (fun h247 => ?_)
            · skip
              refine vdno rfl rfl rfl rfl rfl ?_
              refine vdno rfl rfl rfl rfl rfl ?_
              refine vdno rfl rfl rfl rfl rfl ?_
              refine vdno rfl rfl rfl rfl rfl ?_
              refine vdq (mone rfl) (vpkt rfl rfl) rfl rfl ?_
              refine vdq (mone rfl) (vmv rfl) rfl rfl ?_
              refine vdq (mone rfl) (vmv rfl) rfl rfl ?_
              refine vdsplit (d := 254) rfl (fun h254 => ?_) (fun h254 => ?_)
              · skip
                refine vdno rfl rfl rfl rfl rfl ?_
                refine vdno rfl rfl rfl rfl rfl ?_
                refine vdno rfl rfl rfl rfl rfl ?_
                refine vdno rfl rfl rfl rfl rfl ?_
                refine vdq (mone rfl) (vpkt rfl rfl) rfl rfl ?_
                refine vdq (mone rfl) (vas rfl) rfl rfl ?_
                refine vdq (mone rfl) (vas rfl) rfl rfl ?_
                refine vdend rfl ?_
                refine vinblock ?_
                refine vregion ?_
                refine vone rfl (vxq (vmv rfl) rfl rfl ?_)
                refine vone rfl (vxq (vadd rfl rfl (by unfold InR; omega)) rfl rfl ?_)
                refine vone rfl (vxq (vas rfl) rfl rfl ?_)
                refine vnil ?_
                first
                  | exact vback (IH2 (k + 1, true, true) ⟨by omega, hse.step (fun _ => rfl) (fun _ => rfl) (fun _ => rfl) (fun _ => rfl)⟩ (by show (_ : Int).toNat < (_ : Int).toNat; omega)) ⟨rfl, rfl, rfl, rfl, rfl, rfl, rfl, rfl, True.intro⟩ (by repeat first | exact .refl _ | refine .cons_cons _ ?_ | refine .cons _ ?_ | exact sl0 _ | refine slA ?_)
                  | exact vback (IH2 (k + 1, true, (decide (d2 p ⟨i, k⟩ = o.hi))) ⟨by omega, hse.step (fun _ => rfl) (fun h => absurd (h254.symm.trans h) Bool.false_ne_true) (fun _ => rfl) (fun h => decide_eq_true h)⟩ (by show (_ : Int).toNat < (_ : Int).toNat; omega)) ⟨rfl, rfl, rfl, rfl, rfl, rfl, rfl, rfl, True.intro⟩ (by repeat first | exact .refl _ | refine .cons_cons _ ?_ | refine .cons _ ?_ | exact sl0 _ | refine slA ?_)
                  | exact vback (IH2 (k + 1, (decide (d2 p ⟨i, k⟩ = o.lo)), true) ⟨by omega, hse.step (fun h => absurd (h247.symm.trans h) Bool.false_ne_true) (fun _ => rfl) (fun h => decide_eq_true h) (fun _ => rfl)⟩ (by show (_ : Int).toNat < (_ : Int).toNat; omega)) ⟨rfl, rfl, rfl, rfl, rfl, rfl, rfl, rfl, True.intro⟩ (by repeat first | exact .refl _ | refine .cons_cons _ ?_ | refine .cons _ ?_ | exact sl0 _ | refine slA ?_)
                  | exact vback (IH2 (k + 1, (decide (d2 p ⟨i, k⟩ = o.lo)), (decide (d2 p ⟨i, k⟩ = o.hi))) ⟨by omega, hse.step (fun h => absurd (h247.symm.trans h) Bool.false_ne_true) (fun h => absurd (h254.symm.trans h) Bool.false_ne_true) (fun h => decide_eq_true h) (fun h => decide_eq_true h)⟩ (by show (_ : Int).toNat < (_ : Int).toNat; omega)) ⟨rfl, rfl, rfl, rfl, rfl, rfl, rfl, rfl, True.intro⟩ (by repeat first | exact .refl _ | refine .cons_cons _ ?_ | refine .cons _ ?_ | exact sl0 _ | refine slA ?_)
              · skip
                refine vdq (myes rfl rfl rfl) (vmv rfl) rfl rfl ?_
                refine vdq (myes rfl rfl rfl) (vfa rfl) rfl rfl ?_
                refine vdq (myes rfl rfl rfl) (vld1 rfl rfl) rfl rfl ?_
                refine vdq (myes rfl rfl rfl) (veql rfl rfl) rfl rfl ?_
                refine vdq (mone rfl) (vpkf rfl rfl) rfl rfl ?_
                refine vdq (mone rfl) (vas rfl) rfl rfl ?_
                refine vdq (mone rfl) (vas rfl) rfl rfl ?_
                refine vdend rfl ?_
                refine vinblock ?_
                refine vregion ?_
                refine vone rfl (vxq (vmv rfl) rfl rfl ?_)
                refine vone rfl (vxq (vadd rfl rfl (by unfold InR; omega)) rfl rfl ?_)
                refine vone rfl (vxq (vas rfl) rfl rfl ?_)
                refine vnil ?_
                first
                  | exact vback (IH2 (k + 1, true, true) ⟨by omega, hse.step (fun _ => rfl) (fun _ => rfl) (fun _ => rfl) (fun _ => rfl)⟩ (by show (_ : Int).toNat < (_ : Int).toNat; omega)) ⟨rfl, rfl, rfl, rfl, rfl, rfl, rfl, rfl, True.intro⟩ (by repeat first | exact .refl _ | refine .cons_cons _ ?_ | refine .cons _ ?_ | exact sl0 _ | refine slA ?_)
                  | exact vback (IH2 (k + 1, true, (decide (d2 p ⟨i, k⟩ = o.hi))) ⟨by omega, hse.step (fun _ => rfl) (fun h => absurd (h254.symm.trans h) Bool.false_ne_true) (fun _ => rfl) (fun h => decide_eq_true h)⟩ (by show (_ : Int).toNat < (_ : Int).toNat; omega)) ⟨rfl, rfl, rfl, rfl, rfl, rfl, rfl, rfl, True.intro⟩ (by repeat first | exact .refl _ | refine .cons_cons _ ?_ | refine .cons _ ?_ | exact sl0 _ | refine slA ?_)
                  | exact vback (IH2 (k + 1, (decide (d2 p ⟨i, k⟩ = o.lo)), true) ⟨by omega, hse.step (fun h => absurd (h247.symm.trans h) Bool.false_ne_true) (fun _ => rfl) (fun h => decide_eq_true h) (fun _ => rfl)⟩ (by show (_ : Int).toNat < (_ : Int).toNat; omega)) ⟨rfl, rfl, rfl, rfl, rfl, rfl, rfl, rfl, True.intro⟩ (by repeat first | exact .refl _ | refine .cons_cons _ ?_ | refine .cons _ ?_ | exact sl0 _ | refine slA ?_)
                  | exact vback (IH2 (k + 1, (decide (d2 p ⟨i, k⟩ = o.lo)), (decide (d2 p ⟨i, k⟩ = o.hi))) ⟨by omega, hse.step (fun h => absurd (h247.symm.trans h) Bool.false_ne_true) (fun h => absurd (h254.symm.trans h) Bool.false_ne_true) (fun h => decide_eq_true h) (fun h => decide_eq_true h)⟩ (by show (_ : Int).toNat < (_ : Int).toNat; omega)) ⟨rfl, rfl, rfl, rfl, rfl, rfl, rfl, rfl, True.intro⟩ (by repeat first | exact .refl _ | refine .cons_cons _ ?_ | refine .cons _ ?_ | exact sl0 _ | refine slA ?_)
            · skip
              refine vdq (myes rfl rfl rfl) (vmv rfl) rfl rfl ?_
              refine vdq (myes rfl rfl rfl) (vfa rfl) rfl rfl ?_
              refine vdq (myes rfl rfl rfl) (vld1 rfl rfl) rfl rfl ?_
              refine vdq (myes rfl rfl rfl) (veql rfl rfl) rfl rfl ?_
              refine vdq (mone rfl) (vpkf rfl rfl) rfl rfl ?_
              refine vdq (mone rfl) (vmv rfl) rfl rfl ?_
              refine vdq (mone rfl) (vmv rfl) rfl rfl ?_
              refine vdsplit (d := 254) rfl (fun h254 => ?_) (fun h254 => ?_)
              · skip
                refine vdno rfl rfl rfl rfl rfl ?_
                refine vdno rfl rfl rfl rfl rfl ?_
                refine vdno rfl rfl rfl rfl rfl ?_
                refine vdno rfl rfl rfl rfl rfl ?_
                refine vdq (mone rfl) (vpkt rfl rfl) rfl rfl ?_
                refine vdq (mone rfl) (vas rfl) rfl rfl ?_
                refine vdq (mone rfl) (vas rfl) rfl rfl ?_
                refine vdend rfl ?_
                refine vinblock ?_
                refine vregion ?_
                refine vone rfl (vxq (vmv rfl) rfl rfl ?_)
                refine vone rfl (vxq (vadd rfl rfl (by unfold InR; omega)) rfl rfl ?_)
                refine vone rfl (vxq (vas rfl) rfl rfl ?_)
                refine vnil ?_
                first
                  | exact vback (IH2 (k + 1, true, true) ⟨by omega, hse.step (fun _ => rfl) (fun _ => rfl) (fun _ => rfl) (fun _ => rfl)⟩ (by show (_ : Int).toNat < (_ : Int).toNat; omega)) ⟨rfl, rfl, rfl, rfl, rfl, rfl, rfl, rfl, True.intro⟩ (by repeat first | exact .refl _ | refine .cons_cons _ ?_ | refine .cons _ ?_ | exact sl0 _ | refine slA ?_)
                  | exact vback (IH2 (k + 1, true, (decide (d2 p ⟨i, k⟩ = o.hi))) ⟨by omega, hse.step (fun _ => rfl) (fun h => absurd (h254.symm.trans h) Bool.false_ne_true) (fun _ => rfl) (fun h => decide_eq_true h)⟩ (by show (_ : Int).toNat < (_ : Int).toNat; omega)) ⟨rfl, rfl, rfl, rfl, rfl, rfl, rfl, rfl, True.intro⟩ (by repeat first | exact .refl _ | refine .cons_cons _ ?_ | refine .cons _ ?_ | exact sl0 _ | refine slA ?_)
                  | exact vback (IH2 (k + 1, (decide (d2 p ⟨i, k⟩ = o.lo)), true) ⟨by omega, hse.step (fun h => absurd (h247.symm.trans h) Bool.false_ne_true) (fun _ => rfl) (fun h => decide_eq_true h) (fun _ => rfl)⟩ (by show (_ : Int).toNat < (_ : Int).toNat; omega)) ⟨rfl, rfl, rfl, rfl, rfl, rfl, rfl, rfl, True.intro⟩ (by repeat first | exact .refl _ | refine .cons_cons _ ?_ | refine .cons _ ?_ | exact sl0 _ | refine slA ?_)
                  | exact vback (IH2 (k + 1, (decide (d2 p ⟨i, k⟩ = o.lo)), (decide (d2 p ⟨i, k⟩ = o.hi))) ⟨by omega, hse.step (fun h => absurd (h247.symm.trans h) Bool.false_ne_true) (fun h => absurd (h254.symm.trans h) Bool.false_ne_true) (fun h => decide_eq_true h) (fun h => decide_eq_true h)⟩ (by show (_ : Int).toNat < (_ : Int).toNat; omega)) ⟨rfl, rfl, rfl, rfl, rfl, rfl, rfl, rfl, True.intro⟩ (by repeat first | exact .refl _ | refine .cons_cons _ ?_ | refine .cons _ ?_ | exact sl0 _ | refine slA ?_)
              · skip
                refine vdq (myes rfl rfl rfl) (vmv rfl) rfl rfl ?_
                refine vdq (myes rfl rfl rfl) (vfa rfl) rfl rfl ?_
                refine vdq (myes rfl rfl rfl) (vld1 rfl rfl) rfl rfl ?_
                refine vdq (myes rfl rfl rfl) (veql rfl rfl) rfl rfl ?_
                refine vdq (mone rfl) (vpkf rfl rfl) rfl rfl ?_
                refine vdq (mone rfl) (vas rfl) rfl rfl ?_
                refine vdq (mone rfl) (vas rfl) rfl rfl ?_
                refine vdend rfl ?_
                refine vinblock ?_
                refine vregion ?_
                refine vone rfl (vxq (vmv rfl) rfl rfl ?_)
                refine vone rfl (vxq (vadd rfl rfl (by unfold InR; omega)) rfl rfl ?_)
                refine vone rfl (vxq (vas rfl) rfl rfl ?_)
                refine vnil ?_
                first
                  | exact vback (IH2 (k + 1, true, true) ⟨by omega, hse.step (fun _ => rfl) (fun _ => rfl) (fun _ => rfl) (fun _ => rfl)⟩ (by show (_ : Int).toNat < (_ : Int).toNat; omega)) ⟨rfl, rfl, rfl, rfl, rfl, rfl, rfl, rfl, True.intro⟩ (by repeat first | exact .refl _ | refine .cons_cons _ ?_ | refine .cons _ ?_ | exact sl0 _ | refine slA ?_)
                  | exact vback (IH2 (k + 1, true, (decide (d2 p ⟨i, k⟩ = o.hi))) ⟨by omega, hse.step (fun _ => rfl) (fun h => absurd (h254.symm.trans h) Bool.false_ne_true) (fun _ => rfl) (fun h => decide_eq_true h)⟩ (by show (_ : Int).toNat < (_ : Int).toNat; omega)) ⟨rfl, rfl, rfl, rfl, rfl, rfl, rfl, rfl, True.intro⟩ (by repeat first | exact .refl _ | refine .cons_cons _ ?_ | refine .cons _ ?_ | exact sl0 _ | refine slA ?_)
                  | exact vback (IH2 (k + 1, (decide (d2 p ⟨i, k⟩ = o.lo)), true) ⟨by omega, hse.step (fun h => absurd (h247.symm.trans h) Bool.false_ne_true) (fun _ => rfl) (fun h => decide_eq_true h) (fun _ => rfl)⟩ (by show (_ : Int).toNat < (_ : Int).toNat; omega)) ⟨rfl, rfl, rfl, rfl, rfl, rfl, rfl, rfl, True.intro⟩ (by repeat first | exact .refl _ | refine .cons_cons _ ?_ | refine .cons _ ?_ | exact sl0 _ | refine slA ?_)
                  | exact vback (IH2 (k + 1, (decide (d2 p ⟨i, k⟩ = o.lo)), (decide (d2 p ⟨i, k⟩ = o.hi))) ⟨by omega, hse.step (fun h => absurd (h247.symm.trans h) Bool.false_ne_true) (fun h => absurd (h254.symm.trans h) Bool.false_ne_true) (fun h => decide_eq_true h) (fun h => decide_eq_true h)⟩ (by show (_ : Int).toNat < (_ : Int).toNat; omega)) ⟨rfl, rfl, rfl, rfl, rfl, rfl, rfl, rfl, True.intro⟩ (by repeat first | exact .refl _ | refine .cons_cons _ ?_ | refine .cons _ ?_ | exact sl0 _ | refine slA ?_)
          · skip
            refine vexit (k' := _) rfl ?_
            refine vinblock ?_
            refine vregion ?_
            refine vone rfl (vxq (vmv rfl) rfl rfl ?_)
            refine vone rfl (vxq (vadd rfl rfl (by unfold InR; omega)) rfl rfl ?_)
            refine vone rfl (vxq (vas rfl) rfl rfl ?_)
            refine vnil ?_
            exact vback (IH (i + 1, L, M) ⟨by omega, hse.row h213 _ (Int.le_refl _)⟩ (by show (_ : Int).toNat < (_ : Int).toNat; omega)) ⟨rfl, rfl, rfl, rfl, rfl, rfl, rfl, True.intro⟩ (by repeat first | exact .refl _ | refine .cons_cons _ ?_ | refine .cons _ ?_ | exact sl0 _ | refine slA ?_)
        · skip
          obtain ⟨rfl, rfl⟩ := hse.done h181 hlo hhi
          refine vexit (k' := _) rfl ?_
          refine vseq ?_
          refine vregion ?_
          refine vone rfl (vxq (vmv rfl) rfl rfl ?_)
          refine vone rfl (vxq (vmv rfl) rfl rfl ?_)
          refine vknow (d := 261) (b' := true) rfl rfl ?_
          refine vyes rfl rfl rfl (vxq (vmv rfl) rfl rfl ?_)
          refine vone rfl (vxq (vpkt rfl rfl) rfl rfl ?_)
          refine vone rfl (vxq (vmv rfl) rfl rfl ?_)
          refine vknow (d := 264) (b' := true) rfl rfl ?_
          refine vyes rfl rfl rfl (vxq (vcp rfl rfl rfl (c_works)) rfl rfl ?_)
          refine vone rfl (vxq (vpkt rfl rfl) rfl rfl ?_)
          refine vone rfl (vxq (vas rfl) rfl rfl ?_)
          refine vnil ?_
          refine vret (vr1 (H' := H) Try.func14 rfl (.tmp rfl) (by repeat first | exact .refl _ | refine .cons_cons _ ?_ | refine .cons _ ?_ | exact sl0 _ | refine slA ?_) ?_)
          exact ⟨rfl, rfl⟩
/-- paravane/paravanelaw01.RegionPeaks -/
theorem l_Peaks2 (r t : Rg) (v p : Pt) (n e m : Int) (o : Bd) (k : Pk) (hn : InR n) (hr : r.ok) (htp : tightP r = some t) (ht : TotR t t) (hto : t.ok) (h1 : tightE r = (t, 0)) (h5 : cntE r = (m, 0)) (h6 : distE r p = (o, e)) (h2 : extE r v = (k, 7)) (H : Heap) : VHas Try.prog 14 [vR r, vP v, .agg [I p.x, I p.y, I n].toArray] (.bool true) H H := by
  refine vcall_of_vrun Try.func14 rfl (N := 267) rfl rfl ?_
  refine vseq ?_
  refine vregion ?_
  refine vone rfl (vxa (vbox rfl rfl) rfl rfl (fun b1 => ?_))
  refine vone rfl (vxa (vbox rfl rfl) rfl rfl (fun b2 => ?_))
  refine vone rfl (vxa (vbox rfl rfl) rfl rfl (fun b3 => ?_))
  refine vone rfl (vxq (vas rfl) rfl rfl ?_)
  refine vnil ?_
  refine vseq ?_
  refine vregion ?_
  refine vone rfl (vxq (vldn rfl rfl) rfl rfl ?_)
  refine vone rfl (vxq (vcp rfl rfl rfl ((c_Tight r).reR h1)) rfl rfl ?_)
  refine vone rfl (vxq (vmv rfl) rfl rfl ?_)
  refine vone rfl (vxq (vex rfl rfl) rfl rfl ?_)
  refine vone rfl (vxq (vex rfl rfl) rfl rfl ?_)
  refine vone rfl (vxa valloc rfl rfl (fun b4 => ?_))
  refine vone rfl (vxs (vstn rfl rfl rfl rfl rfl) rfl ?_)
  refine vone rfl (vxq (vas rfl) rfl rfl ?_)
  refine vnil ?_
  refine vseq ?_
  refine vseq ?_
  refine vregion ?_
  refine vone rfl (vxq (vmv rfl) rfl rfl ?_)
  refine vone rfl (vxq (vneq rfl rfl) rfl rfl ?_)
  refine vknow (d := 31) (b' := false) rfl (by decide) ?_
  refine vnil ?_
  refine vcondf rfl ?_
  refine vskip ?_
  refine vseq ?_
  refine vseq ?_
  refine vregion ?_
  refine vone rfl (vxq (vldn rfl rfl) rfl rfl ?_)
  refine vone rfl (vxq (vldn rfl rfl) rfl rfl ?_)
  refine vone rfl (vxq (vcp rfl rfl rfl ((c_Extreme r v).reK h2)) rfl rfl ?_)
  refine vone rfl (vxq (vmv rfl) rfl rfl ?_)
  refine vone rfl (vxq (vex rfl rfl) rfl rfl ?_)
  refine vone rfl (vxq (vex rfl rfl) rfl rfl ?_)
  refine vone rfl (vxa valloc rfl rfl (fun b5 => ?_))
  refine vone rfl (vxs (vstn rfl rfl rfl rfl rfl) rfl ?_)
  refine vone rfl (vxq (vas rfl) rfl rfl ?_)
  refine vnil ?_
  refine vseq ?_
  refine vregion ?_
  refine vone rfl (vxq (vmv rfl) rfl rfl ?_)
  refine vone rfl (vxq (veql rfl rfl) rfl rfl ?_)
  refine vknow (d := 40) (b' := false) rfl (by decide) ?_
  refine vnil ?_
  refine vcondf rfl ?_
  refine vseq ?_
  refine vregion ?_
  refine vone rfl (vxq (vmv rfl) rfl rfl ?_)
  refine vone rfl (vxq (vneq rfl rfl) rfl rfl ?_)
  refine vknow (d := 140) (b' := false) rfl (by decide) ?_
  refine vnil ?_
  refine vcondf rfl ?_
  refine vskip ?_
  refine vseq ?_
  refine vregion ?_
  refine vone rfl (vxq (vldn rfl rfl) rfl rfl ?_)
  refine vone rfl (vxq (vcp rfl rfl rfl ((c_Count r).reI h5)) rfl rfl ?_)
  have hto' := hto
  unfold Rg.ok Bd.fits at hto'
  refine vone rfl (vxq (vmv rfl) rfl rfl ?_)
  refine vone rfl (vxq (vex rfl rfl) rfl rfl ?_)
  refine vone rfl (vxq (vex rfl rfl) rfl rfl ?_)
  refine vone rfl (vxq (vas rfl) rfl rfl ?_)
  refine vone rfl (vxq (vas rfl) rfl rfl ?_)
  refine vnil ?_
  refine vseq ?_
  refine vregion ?_
  refine vone rfl (vxq (vldn rfl rfl) rfl rfl ?_)
  refine vone rfl (vxq (vfa rfl) rfl rfl ?_)
  refine vone rfl (vxq (vldn rfl rfl) rfl rfl ?_)
  refine vone rfl (vxq (vcp rfl rfl rfl ((c_Dist r p).reB h6)) rfl rfl ?_)
  refine vone rfl (vxq (vmv rfl) rfl rfl ?_)
  refine vone rfl (vxq (vex rfl rfl) rfl rfl ?_)
  refine vone rfl (vxq (vex rfl rfl) rfl rfl ?_)
  refine vone rfl (vxa valloc rfl rfl (fun b6 => ?_))
  refine vone rfl (vxs (vstn rfl rfl rfl rfl rfl) rfl ?_)
  refine vone rfl (vxq (vas rfl) rfl rfl ?_)
  refine vnil ?_
  refine vseq ?_
  refine vseq ?_
  refine vregion ?_
  refine vone rfl (vxq (vmv rfl) rfl rfl ?_)
  refine vone rfl (vxq (vneq rfl rfl) rfl rfl ?_)
  refine vone rfl (vxq (vmv rfl) rfl rfl ?_)
  refine vsplitd (d := 155) rfl (fun h155 => ?_) (fun h155 => ?_)
  · skip
    refine vno rfl rfl rfl rfl rfl ?_
    refine vno rfl rfl rfl rfl rfl ?_
    refine vone rfl (vxq (vpkt rfl rfl) rfl rfl ?_)
    refine vone rfl (vxq (vmv rfl) rfl rfl ?_)
    refine vno rfl rfl rfl rfl rfl ?_
    refine vno rfl rfl rfl rfl rfl ?_
    refine vone rfl (vxq (vpkt rfl rfl) rfl rfl ?_)
    refine vone rfl (vxq (vmv rfl) rfl rfl ?_)
    refine vno rfl rfl rfl rfl rfl ?_
    refine vno rfl rfl rfl rfl rfl ?_
    refine vno rfl rfl rfl rfl rfl ?_
    refine vno rfl rfl rfl rfl rfl ?_
    refine vno rfl rfl rfl rfl rfl ?_
    refine vno rfl rfl rfl rfl rfl ?_
    refine vno rfl rfl rfl rfl rfl ?_
    refine vno rfl rfl rfl rfl rfl ?_
    refine vone rfl (vxq (vpkt rfl rfl) rfl rfl ?_)
    refine vnil ?_
    refine vcondt rfl ?_
    refine vseq ?_
    refine vregion ?_
    refine vone rfl (vxq (vcp rfl rfl rfl (c_works)) rfl rfl ?_)
    refine vone rfl (vxq (vas rfl) rfl rfl ?_)
    refine vnil ?_
    refine vret (vr1 (H' := H) Try.func14 rfl (.tmp rfl) (by repeat first | exact .refl _ | refine .cons_cons _ ?_ | refine .cons _ ?_ | exact sl0 _ | refine slA ?_) ?_)
    exact ⟨rfl, rfl⟩
  · skip
    refine vyes rfl rfl rfl (vxq (vmv rfl) rfl rfl ?_)
    refine vyes rfl rfl rfl (vxq (vneq rfl rfl) rfl rfl ?_)
    refine vknow (d := 157) (b' := false) rfl (by decide) ?_
    refine vone rfl (vxq (vpkf rfl rfl) rfl rfl ?_)
    refine vone rfl (vxq (vmv rfl) rfl rfl ?_)
    refine vyes rfl rfl rfl (vxq (vmv rfl) rfl rfl ?_)
    refine vyes rfl rfl rfl (vxq (vgtr rfl rfl) rfl rfl ?_)
    refine vone rfl (vxq (vpkf rfl rfl) rfl rfl ?_)
    refine vone rfl (vxq (vmv rfl) rfl rfl ?_)
    refine vsplitd (d := 163) rfl (fun h163 => ?_) (fun h163 => ?_)
    · skip
      refine vno rfl rfl rfl rfl rfl ?_
      refine vno rfl rfl rfl rfl rfl ?_
      refine vno rfl rfl rfl rfl rfl ?_
      refine vno rfl rfl rfl rfl rfl ?_
      refine vno rfl rfl rfl rfl rfl ?_
      refine vno rfl rfl rfl rfl rfl ?_
      refine vno rfl rfl rfl rfl rfl ?_
      refine vno rfl rfl rfl rfl rfl ?_
      refine vone rfl (vxq (vpkt rfl rfl) rfl rfl ?_)
      refine vnil ?_
      refine vcondt rfl ?_
      refine vseq ?_
      refine vregion ?_
      refine vone rfl (vxq (vcp rfl rfl rfl (c_works)) rfl rfl ?_)
      refine vone rfl (vxq (vas rfl) rfl rfl ?_)
      refine vnil ?_
      refine vret (vr1 (H' := H) Try.func14 rfl (.tmp rfl) (by repeat first | exact .refl _ | refine .cons_cons _ ?_ | refine .cons _ ?_ | exact sl0 _ | refine slA ?_) ?_)
      exact ⟨rfl, rfl⟩
    · skip
      refine vyes rfl rfl rfl (vxq (vfa rfl) rfl rfl ?_)
      refine vyes rfl rfl rfl (vxq (vfa rfl) rfl rfl ?_)
      refine vyes rfl rfl rfl (vxq (vld1 rfl rfl) rfl rfl ?_)
      refine vyes rfl rfl rfl (vxq (vfa rfl) rfl rfl ?_)
      refine vyes rfl rfl rfl (vxq (vfa rfl) rfl rfl ?_)
      refine vyes rfl rfl rfl (vxq (vld1 rfl rfl) rfl rfl ?_)
      refine vyes rfl rfl rfl (vxq (vsub rfl rfl (by unfold InR; omega)) rfl rfl ?_)
      refine vyes rfl rfl rfl (vxq (vgtr rfl rfl) rfl rfl ?_)
      refine vone rfl (vxq (vpkf rfl rfl) rfl rfl ?_)
      refine vnil ?_
      refine vcondd rfl (fun h172 => ?_) (fun h172 => ?_)
      · skip
        refine vseq ?_
        refine vregion ?_
        refine vone rfl (vxq (vcp rfl rfl rfl (c_works)) rfl rfl ?_)
        refine vone rfl (vxq (vas rfl) rfl rfl ?_)
        refine vnil ?_
        refine vret (vr1 (H' := H) Try.func14 rfl (.tmp rfl) (by repeat first | exact .refl _ | refine .cons_cons _ ?_ | refine .cons _ ?_ | exact sl0 _ | refine slA ?_) ?_)
        exact ⟨rfl, rfl⟩
      · skip
        obtain ⟨hpo, hall, hlo, hhi⟩ := dist_ok hr htp h6 (nn h155)
        unfold Pt.ok at hpo
        have hle := totR_le ht
        refine vskip ?_
        refine vseq ?_
        refine vregion ?_
        refine vone rfl (vxq (vas rfl) rfl rfl ?_)
        refine vone rfl (vxq (vas rfl) rfl rfl ?_)
        refine vnil ?_
        refine vseq ?_
        refine vseq ?_
        refine vregion ?_
        refine vone rfl (vxq (vfa rfl) rfl rfl ?_)
        refine vone rfl (vxq (vfa rfl) rfl rfl ?_)
        refine vone rfl (vxq (vld1 rfl rfl) rfl rfl ?_)
        refine vone rfl (vxq (vas rfl) rfl rfl ?_)
        refine vnil ?_
        refine vblock ?_
        refine vwhile (σ := Int × Bool × Bool) (fun ⟨i, L, M⟩ => (t.x.hi + 1 - i).toNat) (fun ⟨i, L, M⟩ => [(5, ptr b3), (6, .bool false), (7, ptr b4), (19, ptr b6), (20, .bool L), (21, .bool M), (22, I i)]) (fun ⟨i, L, M⟩ => (b6, blk [I o.lo, I o.hi] 23) :: (b4, blk (clR t) 25) :: (b3, blk [I p.x, I p.y, I n] 82) :: H) (fun ⟨i, L, M⟩ => t.x.lo ≤ i ∧ Seen t p o (Upto i (rowOf t i).a) L M) (t.x.lo, false, false) ⟨Int.le_refl _, Seen.start _ (Int.le_refl _)⟩ ⟨rfl, rfl, rfl, rfl, rfl, rfl, rfl, True.intro⟩ (by repeat first | exact .refl _ | refine .cons_cons _ ?_ | refine .cons _ ?_ | exact sl0 _ | refine slA ?_) ?_
        rintro ⟨i, L, M⟩ ⟨hil, hse⟩ IH
        change VRun _ _ _ _ _ [(5, ptr b3), (6, .bool false), (7, ptr b4), (19, ptr b6), (20, .bool L), (21, .bool M), (22, I i)] _ ((b6, blk [I o.lo, I o.hi] 23) :: (b4, blk (clR t) 25) :: (b3, blk [I p.x, I p.y, I n] 82) :: H) _
        refine vseq ?_
        refine vseq ?_
        refine vregion ?_
        refine vone rfl (vxq (vmv rfl) rfl rfl ?_)
        refine vone rfl (vxq (vfa rfl) rfl rfl ?_)
        refine vone rfl (vxq (vfa rfl) rfl rfl ?_)
        refine vone rfl (vxq (vld1 rfl rfl) rfl rfl ?_)
        refine vone rfl (vxq (vleq rfl rfl) rfl rfl ?_)
        refine vnil ?_
        refine vcondd rfl (fun h181 => ?_) (fun h181 => ?_)
        · skip
          have hrw := tight_row ht hil h181
          have hrb := rowOf_bd hto (x := i)
          refine vskip ?_
          refine vseq ?_
          refine vblock ?_
          refine vseq ?_
          refine vregion ?_
          refine vone rfl (vxq (vfa rfl) rfl rfl ?_)
          refine vone rfl (vxq (vfa rfl) rfl rfl ?_)
          refine vone rfl (vxq (vld1 rfl rfl) rfl rfl ?_)
          refine vone rfl (vxq (vfa rfl) rfl rfl ?_)
          refine vone rfl (vxq (vfa rfl) rfl rfl ?_)
          refine vone rfl (vxq (vld1 rfl rfl) rfl rfl ?_)
          refine vone rfl (vxq (vmv rfl) rfl rfl ?_)
          refine vone rfl (vxq (vsub rfl rfl (by unfold InR; omega)) rfl rfl ?_)
          refine vone rfl (vxq (vmv rfl) rfl rfl ?_)
          refine vone rfl (vxq (vfa rfl) rfl rfl ?_)
          refine vone rfl (vxq (vfa rfl) rfl rfl ?_)
          refine vone rfl (vxq (vld1 rfl rfl) rfl rfl ?_)
          refine vone rfl (vxq (vsub rfl rfl (by unfold InR; omega)) rfl rfl ?_)
          refine vone rfl (vxq (vmax3 rfl rfl rfl) rfl rfl ?_)
          refine vone rfl (vxq (vas rfl) rfl rfl ?_)
          refine vnil ?_
          refine vblock ?_
          refine vwhile (σ := Int × Bool × Bool) (fun ⟨k, L, M⟩ => ((rowOf t i).b + 1 - k).toNat) (fun ⟨k, L, M⟩ => [(5, ptr b3), (6, .bool false), (7, ptr b4), (19, ptr b6), (20, .bool L), (21, .bool M), (22, I i), (23, I k)]) (fun ⟨k, L, M⟩ => (b6, blk [I o.lo, I o.hi] 23) :: (b4, blk (clR t) 25) :: (b3, blk [I p.x, I p.y, I n] 82) :: H) (fun ⟨k, L, M⟩ => (rowOf t i).a ≤ k ∧ Seen t p o (Upto i k) L M) ((rowOf t i).a, L, M) ⟨Int.le_refl _, hse⟩ ⟨rfl, rfl, rfl, rfl, rfl, rfl, rfl, rfl, True.intro⟩ (by repeat first | exact .refl _ | refine .cons_cons _ ?_ | refine .cons _ ?_ | exact sl0 _ | refine slA ?_) ?_
          rintro ⟨k, L, M⟩ ⟨hka, hse⟩ IH2
          change VRun _ _ _ _ _ [(5, ptr b3), (6, .bool false), (7, ptr b4), (19, ptr b6), (20, .bool L), (21, .bool M), (22, I i), (23, I k)] _ ((b6, blk [I o.lo, I o.hi] 23) :: (b4, blk (clR t) 25) :: (b3, blk [I p.x, I p.y, I n] 82) :: H) _
          refine vseq ?_
          refine vseq ?_
          refine vregion ?_
          refine vone rfl (vxq (vmv rfl) rfl rfl ?_)
          refine vone rfl (vxq (vfa rfl) rfl rfl ?_)
          refine vone rfl (vxq (vfa rfl) rfl rfl ?_)
          refine vone rfl (vxq (vld1 rfl rfl) rfl rfl ?_)
          refine vone rfl (vxq (vfa rfl) rfl rfl ?_)
          refine vone rfl (vxq (vfa rfl) rfl rfl ?_)
          refine vone rfl (vxq (vld1 rfl rfl) rfl rfl ?_)
          refine vone rfl (vxq (vmv rfl) rfl rfl ?_)
          refine vone rfl (vxq (vsub rfl rfl (by unfold InR; omega)) rfl rfl ?_)
          refine vone rfl (vxq (vmv rfl) rfl rfl ?_)
          refine vone rfl (vxq (vfa rfl) rfl rfl ?_)
          refine vone rfl (vxq (vfa rfl) rfl rfl ?_)
          refine vone rfl (vxq (vld1 rfl rfl) rfl rfl ?_)
          refine vone rfl (vxq (vsub rfl rfl (by unfold InR; omega)) rfl rfl ?_)
          refine vone rfl (vxq (vmin3 rfl rfl rfl) rfl rfl ?_)
          refine vone rfl (vxq (vleq rfl rfl) rfl rfl ?_)
          refine vnil ?_
          refine vcondd rfl (fun h213 => ?_) (fun h213 => ?_)
          · skip
            have hkb : k ≤ (rowOf t i).b := h213
            have hin : inR t ⟨i, k⟩ := inR_row.2 ⟨⟨hil, h181⟩, hka, h213⟩
            have hio := ok_inR hto hin
            unfold Pt.ok at hio
            dsimp only at hio
            refine vskip ?_
            refine vseq ?_
            refine vblock ?_
            refine vseq ?_
            refine vregion ?_
            refine vone rfl (vxq (vmv rfl) rfl rfl ?_)
            refine vone rfl (vxq (vfa rfl) rfl rfl ?_)
            refine vone rfl (vxq (vfa rfl) rfl rfl ?_)
            refine vone rfl (vxq (vld1 rfl rfl) rfl rfl ?_)
            refine vone rfl (vxq (vsub rfl rfl (by unfold InR; omega)) rfl rfl ?_)
            refine vone rfl (vxq (vmv rfl) rfl rfl ?_)
            refine vone rfl (vxq (vfa rfl) rfl rfl ?_)
            refine vone rfl (vxq (vfa rfl) rfl rfl ?_)
            refine vone rfl (vxq (vld1 rfl rfl) rfl rfl ?_)
            refine vone rfl (vxq (vsub rfl rfl (by unfold InR; omega)) rfl rfl ?_)
            have s1 := sq_bd (a := i - p.x) (m := 65536) (by omega)
            have s2 := sq_bd (a := k - p.y) (m := 65536) (by omega)
            refine vone rfl (vxq (vmul rfl rfl (by unfold InR; omega)) rfl rfl ?_)
            refine vone rfl (vxq (vmv rfl) rfl rfl ?_)
            refine vone rfl (vxq (vfa rfl) rfl rfl ?_)
            refine vone rfl (vxq (vfa rfl) rfl rfl ?_)
            refine vone rfl (vxq (vld1 rfl rfl) rfl rfl ?_)
            refine vone rfl (vxq (vsub rfl rfl (by unfold InR; omega)) rfl rfl ?_)
            refine vone rfl (vxq (vmv rfl) rfl rfl ?_)
            refine vone rfl (vxq (vfa rfl) rfl rfl ?_)
            refine vone rfl (vxq (vfa rfl) rfl rfl ?_)
            refine vone rfl (vxq (vld1 rfl rfl) rfl rfl ?_)
            refine vone rfl (vxq (vsub rfl rfl (by unfold InR; omega)) rfl rfl ?_)
            refine vone rfl (vxq (vmul rfl rfl (by unfold InR; omega)) rfl rfl ?_)
            refine vone rfl (vxq (vadd rfl rfl (by unfold InR; omega)) rfl rfl ?_)
            refine vone rfl (vxq (vas rfl) rfl rfl ?_)
            refine vnil ?_
            refine vseq ?_
            refine vseq ?_
            refine vregion ?_
            refine vone rfl (vxq (vmv rfl) rfl rfl ?_)
            refine vone rfl (vxq (vfa rfl) rfl rfl ?_)
            refine vone rfl (vxq (vld1 rfl rfl) rfl rfl ?_)
            refine vone rfl (vxq (vfa rfl) rfl rfl ?_)
            refine vone rfl (vxq (vld1 rfl rfl) rfl rfl ?_)
            refine vone rfl (vxq (vcp rfl rfl rfl (c_ref00_Between _ _ _)) rfl rfl ?_)
            refine vknow (d := 244) (b' := true) rfl (decide_eq_true (hall _ hin)) ?_
            refine vone rfl (vxq (vnot rfl) rfl rfl ?_)
            refine vnil ?_
            refine vcondf rfl ?_
            refine vskip ?_
            refine vdraw0 [(.q, 0), (.q, 1), (.q, 2), (.q, 3), (.q, 4), (.q, 5), (.q, 6), (.q, 7), (.q, 8), (.q, 9), (.q, 10), (.q, 11), (.q, 12), (.q, 13), (.q, 14), (.q, 15)] Try.mixed (by kernel_rfl) (by kernel_rfl) ?_
            refine vdq (mone rfl) (vmv rfl) rfl rfl ?_
            refine vdq (mone rfl) (vmv rfl) rfl rfl ?_
            refine vdsplit (d := 247) rfl (fun h247 => ?_) (fun h247 => ?_)
            · skip
              refine vdno rfl rfl rfl rfl rfl ?_
              refine vdno rfl rfl rfl rfl rfl ?_
              refine vdno rfl rfl rfl rfl rfl ?_
              refine vdno rfl rfl rfl rfl rfl ?_
              refine vdq (mone rfl) (vpkt rfl rfl) rfl rfl ?_
              refine vdq (mone rfl) (vmv rfl) rfl rfl ?_
              refine vdq (mone rfl) (vmv rfl) rfl rfl ?_
              refine vdsplit (d := 254) rfl (fun h254 => ?_) (fun h254 => ?_)
              · skip
                refine vdno rfl rfl rfl rfl rfl ?_
                refine vdno rfl rfl rfl rfl rfl ?_
                refine vdno rfl rfl rfl rfl rfl ?_
                refine vdno rfl rfl rfl rfl rfl ?_
                refine vdq (mone rfl) (vpkt rfl rfl) rfl rfl ?_
                refine vdq (mone rfl) (vas rfl) rfl rfl ?_
                refine vdq (mone rfl) (vas rfl) rfl rfl ?_
                refine vdend rfl ?_
                refine vinblock ?_
                refine vregion ?_
                refine vone rfl (vxq (vmv rfl) rfl rfl ?_)
                refine vone rfl (vxq (vadd rfl rfl (by unfold InR; omega)) rfl rfl ?_)
                refine vone rfl (vxq (vas rfl) rfl rfl ?_)
                refine vnil ?_
                first
                  | exact vback (IH2 (k + 1, true, true) ⟨by omega, hse.step (fun _ => rfl) (fun _ => rfl) (fun _ => rfl) (fun _ => rfl)⟩ (by show (_ : Int).toNat < (_ : Int).toNat; omega)) ⟨rfl, rfl, rfl, rfl, rfl, rfl, rfl, rfl, True.intro⟩ (by repeat first | exact .refl _ | refine .cons_cons _ ?_ | refine .cons _ ?_ | exact sl0 _ | refine slA ?_)
                  | exact vback (IH2 (k + 1, true, (decide (d2 p ⟨i, k⟩ = o.hi))) ⟨by omega, hse.step (fun _ => rfl) (fun h => absurd (h254.symm.trans h) Bool.false_ne_true) (fun _ => rfl) (fun h => decide_eq_true h)⟩ (by show (_ : Int).toNat < (_ : Int).toNat; omega)) ⟨rfl, rfl, rfl, rfl, rfl, rfl, rfl, rfl, True.intro⟩ (by repeat first | exact .refl _ | refine .cons_cons _ ?_ | refine .cons _ ?_ | exact sl0 _ | refine slA ?_)
                  | exact vback (IH2 (k + 1, (decide (d2 p ⟨i, k⟩ = o.lo)), true) ⟨by omega, hse.step (fun h => absurd (h247.symm.trans h) Bool.false_ne_true) (fun _ => rfl) (fun h => decide_eq_true h) (fun _ => rfl)⟩ (by show (_ : Int).toNat < (_ : Int).toNat; omega)) ⟨rfl, rfl, rfl, rfl, rfl, rfl, rfl, rfl, True.intro⟩ (by repeat first | exact .refl _ | refine .cons_cons _ ?_ | refine .cons _ ?_ | exact sl0 _ | refine slA ?_)
                  | exact vback (IH2 (k + 1, (decide (d2 p ⟨i, k⟩ = o.lo)), (decide (d2 p ⟨i, k⟩ = o.hi))) ⟨by omega, hse.step (fun h => absurd (h247.symm.trans h) Bool.false_ne_true) (fun h => absurd (h254.symm.trans h) Bool.false_ne_true) (fun h => decide_eq_true h) (fun h => decide_eq_true h)⟩ (by show (_ : Int).toNat < (_ : Int).toNat; omega)) ⟨rfl, rfl, rfl, rfl, rfl, rfl, rfl, rfl, True.intro⟩ (by repeat first | exact .refl _ | refine .cons_cons _ ?_ | refine .cons _ ?_ | exact sl0 _ | refine slA ?_)
              · skip
                refine vdq (myes rfl rfl rfl) (vmv rfl) rfl rfl ?_
                refine vdq (myes rfl rfl rfl) (vfa rfl) rfl rfl ?_
                refine vdq (myes rfl rfl rfl) (vld1 rfl rfl) rfl rfl ?_
                refine vdq (myes rfl rfl rfl) (veql rfl rfl) rfl rfl ?_
                refine vdq (mone rfl) (vpkf rfl rfl) rfl rfl ?_
                refine vdq (mone rfl) (vas rfl) rfl rfl ?_
                refine vdq (mone rfl) (vas rfl) rfl rfl ?_
                refine vdend rfl ?_
                refine vinblock ?_
                refine vregion ?_
                refine vone rfl (vxq (vmv rfl) rfl rfl ?_)
                refine vone rfl (vxq (vadd rfl rfl (by unfold InR; omega)) rfl rfl ?_)
                refine vone rfl (vxq (vas rfl) rfl rfl ?_)
                refine vnil ?_
                first
                  | exact vback (IH2 (k + 1, true, true) ⟨by omega, hse.step (fun _ => rfl) (fun _ => rfl) (fun _ => rfl) (fun _ => rfl)⟩ (by show (_ : Int).toNat < (_ : Int).toNat; omega)) ⟨rfl, rfl, rfl, rfl, rfl, rfl, rfl, rfl, True.intro⟩ (by repeat first | exact .refl _ | refine .cons_cons _ ?_ | refine .cons _ ?_ | exact sl0 _ | refine slA ?_)
                  | exact vback (IH2 (k + 1, true, (decide (d2 p ⟨i, k⟩ = o.hi))) ⟨by omega, hse.step (fun _ => rfl) (fun h => absurd (h254.symm.trans h) Bool.false_ne_true) (fun _ => rfl) (fun h => decide_eq_true h)⟩ (by show (_ : Int).toNat < (_ : Int).toNat; omega)) ⟨rfl, rfl, rfl, rfl, rfl, rfl, rfl, rfl, True.intro⟩ (by repeat first | exact .refl _ | refine .cons_cons _ ?_ | refine .cons _ ?_ | exact sl0 _ | refine slA ?_)
                  | exact vback (IH2 (k + 1, (decide (d2 p ⟨i, k⟩ = o.lo)), true) ⟨by omega, hse.step (fun h => absurd (h247.symm.trans h) Bool.false_ne_true) (fun _ => rfl) (fun h => decide_eq_true h) (fun _ => rfl)⟩ (by show (_ : Int).toNat < (_ : Int).toNat; omega)) ⟨rfl, rfl, rfl, rfl, rfl, rfl, rfl, rfl, True.intro⟩ (by repeat first | exact .refl _ | refine .cons_cons _ ?_ | refine .cons _ ?_ | exact sl0 _ | refine slA ?_)
                  | exact vback (IH2 (k + 1, (decide (d2 p ⟨i, k⟩ = o.lo)), (decide (d2 p ⟨i, k⟩ = o.hi))) ⟨by omega, hse.step (fun h => absurd (h247.symm.trans h) Bool.false_ne_true) (fun h => absurd (h254.symm.trans h) Bool.false_ne_true) (fun h => decide_eq_true h) (fun h => decide_eq_true h)⟩ (by show (_ : Int).toNat < (_ : Int).toNat; omega)) ⟨rfl, rfl, rfl, rfl, rfl, rfl, rfl, rfl, True.intro⟩ (by repeat first | exact .refl _ | refine .cons_cons _ ?_ | refine .cons _ ?_ | exact sl0 _ | refine slA ?_)
            · skip
              refine vdq (myes rfl rfl rfl) (vmv rfl) rfl rfl ?_
              refine vdq (myes rfl rfl rfl) (vfa rfl) rfl rfl ?_
              refine vdq (myes rfl rfl rfl) (vld1 rfl rfl) rfl rfl ?_
              refine vdq (myes rfl rfl rfl) (veql rfl rfl) rfl rfl ?_
              refine vdq (mone rfl) (vpkf rfl rfl) rfl rfl ?_
              refine vdq (mone rfl) (vmv rfl) rfl rfl ?_
              refine vdq (mone rfl) (vmv rfl) rfl rfl ?_
              refine vdsplit (d := 254) rfl (fun h254 => ?_) (fun h254 => ?_)
              · skip
                refine vdno rfl rfl rfl rfl rfl ?_
                refine vdno rfl rfl rfl rfl rfl ?_
                refine vdno rfl rfl rfl rfl rfl ?_
                refine vdno rfl rfl rfl rfl rfl ?_
                refine vdq (mone rfl) (vpkt rfl rfl) rfl rfl ?_
                refine vdq (mone rfl) (vas rfl) rfl rfl ?_
                refine vdq (mone rfl) (vas rfl) rfl rfl ?_
                refine vdend rfl ?_
                refine vinblock ?_
                refine vregion ?_
                refine vone rfl (vxq (vmv rfl) rfl rfl ?_)
                refine vone rfl (vxq (vadd rfl rfl (by unfold InR; omega)) rfl rfl ?_)
                refine vone rfl (vxq (vas rfl) rfl rfl ?_)
                refine vnil ?_
                first
                  | exact vback (IH2 (k + 1, true, true) ⟨by omega, hse.step (fun _ => rfl) (fun _ => rfl) (fun _ => rfl) (fun _ => rfl)⟩ (by show (_ : Int).toNat < (_ : Int).toNat; omega)) ⟨rfl, rfl, rfl, rfl, rfl, rfl, rfl, rfl, True.intro⟩ (by repeat first | exact .refl _ | refine .cons_cons _ ?_ | refine .cons _ ?_ | exact sl0 _ | refine slA ?_)
                  | exact vback (IH2 (k + 1, true, (decide (d2 p ⟨i, k⟩ = o.hi))) ⟨by omega, hse.step (fun _ => rfl) (fun h => absurd (h254.symm.trans h) Bool.false_ne_true) (fun _ => rfl) (fun h => decide_eq_true h)⟩ (by show (_ : Int).toNat < (_ : Int).toNat; omega)) ⟨rfl, rfl, rfl, rfl, rfl, rfl, rfl, rfl, True.intro⟩ (by repeat first | exact .refl _ | refine .cons_cons _ ?_ | refine .cons _ ?_ | exact sl0 _ | refine slA ?_)
                  | exact vback (IH2 (k + 1, (decide (d2 p ⟨i, k⟩ = o.lo)), true) ⟨by omega, hse.step (fun h => absurd (h247.symm.trans h) Bool.false_ne_true) (fun _ => rfl) (fun h => decide_eq_true h) (fun _ => rfl)⟩ (by show (_ : Int).toNat < (_ : Int).toNat; omega)) ⟨rfl, rfl, rfl, rfl, rfl, rfl, rfl, rfl, True.intro⟩ (by repeat first | exact .refl _ | refine .cons_cons _ ?_ | refine .cons _ ?_ | exact sl0 _ | refine slA ?_)
                  | exact vback (IH2 (k + 1, (decide (d2 p ⟨i, k⟩ = o.lo)), (decide (d2 p ⟨i, k⟩ = o.hi))) ⟨by omega, hse.step (fun h => absurd (h247.symm.trans h) Bool.false_ne_true) (fun h => absurd (h254.symm.trans h) Bool.false_ne_true) (fun h => decide_eq_true h) (fun h => decide_eq_true h)⟩ (by show (_ : Int).toNat < (_ : Int).toNat; omega)) ⟨rfl, rfl, rfl, rfl, rfl, rfl, rfl, rfl, True.intro⟩ (by repeat first | exact .refl _ | refine .cons_cons _ ?_ | refine .cons _ ?_ | exact sl0 _ | refine slA ?_)
              · skip
                refine vdq (myes rfl rfl rfl) (vmv rfl) rfl rfl ?_
                refine vdq (myes rfl rfl rfl) (vfa rfl) rfl rfl ?_
                refine vdq (myes rfl rfl rfl) (vld1 rfl rfl) rfl rfl ?_
                refine vdq (myes rfl rfl rfl) (veql rfl rfl) rfl rfl ?_
                refine vdq (mone rfl) (vpkf rfl rfl) rfl rfl ?_
                refine vdq (mone rfl) (vas rfl) rfl rfl ?_
                refine vdq (mone rfl) (vas rfl) rfl rfl ?_
                refine vdend rfl ?_
                refine vinblock ?_
                refine vregion ?_
                refine vone rfl (vxq (vmv rfl) rfl rfl ?_)
                refine vone rfl (vxq (vadd rfl rfl (by unfold InR; omega)) rfl rfl ?_)
                refine vone rfl (vxq (vas rfl) rfl rfl ?_)
                refine vnil ?_
                first
                  | exact vback (IH2 (k + 1, true, true) ⟨by omega, hse.step (fun _ => rfl) (fun _ => rfl) (fun _ => rfl) (fun _ => rfl)⟩ (by show (_ : Int).toNat < (_ : Int).toNat; omega)) ⟨rfl, rfl, rfl, rfl, rfl, rfl, rfl, rfl, True.intro⟩ (by repeat first | exact .refl _ | refine .cons_cons _ ?_ | refine .cons _ ?_ | exact sl0 _ | refine slA ?_)
                  | exact vback (IH2 (k + 1, true, (decide (d2 p ⟨i, k⟩ = o.hi))) ⟨by omega, hse.step (fun _ => rfl) (fun h => absurd (h254.symm.trans h) Bool.false_ne_true) (fun _ => rfl) (fun h => decide_eq_true h)⟩ (by show (_ : Int).toNat < (_ : Int).toNat; omega)) ⟨rfl, rfl, rfl, rfl, rfl, rfl, rfl, rfl, True.intro⟩ (by repeat first | exact .refl _ | refine .cons_cons _ ?_ | refine .cons _ ?_ | exact sl0 _ | refine slA ?_)
                  | exact vback (IH2 (k + 1, (decide (d2 p ⟨i, k⟩ = o.lo)), true) ⟨by omega, hse.step (fun h => absurd (h247.symm.trans h) Bool.false_ne_true) (fun _ => rfl) (fun h => decide_eq_true h) (fun _ => rfl)⟩ (by show (_ : Int).toNat < (_ : Int).toNat; omega)) ⟨rfl, rfl, rfl, rfl, rfl, rfl, rfl, rfl, True.intro⟩ (by repeat first | exact .refl _ | refine .cons_cons _ ?_ | refine .cons _ ?_ | exact sl0 _ | refine slA ?_)
                  | exact vback (IH2 (k + 1, (decide (d2 p ⟨i, k⟩ = o.lo)), (decide (d2 p ⟨i, k⟩ = o.hi))) ⟨by omega, hse.step (fun h => absurd (h247.symm.trans h) Bool.false_ne_true) (fun h => absurd (h254.symm.trans h) Bool.false_ne_true) (fun h => decide_eq_true h) (fun h => decide_eq_true h)⟩ (by show (_ : Int).toNat < (_ : Int).toNat; omega)) ⟨rfl, rfl, rfl, rfl, rfl, rfl, rfl, rfl, True.intro⟩ (by repeat first | exact .refl _ | refine .cons_cons _ ?_ | refine .cons _ ?_ | exact sl0 _ | refine slA ?_)
          · skip
            refine vexit (k' := _) rfl ?_
            refine vinblock ?_
            refine vregion ?_
            refine vone rfl (vxq (vmv rfl) rfl rfl ?_)
            refine vone rfl (vxq (vadd rfl rfl (by unfold InR; omega)) rfl rfl ?_)
            refine vone rfl (vxq (vas rfl) rfl rfl ?_)
            refine vnil ?_
            exact vback (IH (i + 1, L, M) ⟨by omega, hse.row h213 _ (Int.le_refl _)⟩ (by show (_ : Int).toNat < (_ : Int).toNat; omega)) ⟨rfl, rfl, rfl, rfl, rfl, rfl, rfl, True.intro⟩ (by repeat first | exact .refl _ | refine .cons_cons _ ?_ | refine .cons _ ?_ | exact sl0 _ | refine slA ?_)
        · skip
          obtain ⟨rfl, rfl⟩ := hse.done h181 hlo hhi
          refine vexit (k' := _) rfl ?_
          refine vseq ?_
          refine vregion ?_
          refine vone rfl (vxq (vmv rfl) rfl rfl ?_)
          refine vone rfl (vxq (vmv rfl) rfl rfl ?_)
          refine vknow (d := 261) (b' := true) rfl rfl ?_
          refine vyes rfl rfl rfl (vxq (vmv rfl) rfl rfl ?_)
          refine vone rfl (vxq (vpkt rfl rfl) rfl rfl ?_)
          refine vone rfl (vxq (vmv rfl) rfl rfl ?_)
          refine vknow (d := 264) (b' := true) rfl rfl ?_
          refine vyes rfl rfl rfl (vxq (vcp rfl rfl rfl (c_works)) rfl rfl ?_)
          refine vone rfl (vxq (vpkt rfl rfl) rfl rfl ?_)
          refine vone rfl (vxq (vas rfl) rfl rfl ?_)
          refine vnil ?_
          refine vret (vr1 (H' := H) Try.func14 rfl (.tmp rfl) (by repeat first | exact .refl _ | refine .cons_cons _ ?_ | refine .cons _ ?_ | exact sl0 _ | refine slA ?_) ?_)
          exact ⟨rfl, rfl⟩

theorem l_RegionPeaks (r : Rg) (v p : Pt) (n : Int) (hn : InR n) (H : Heap) : VHas Try.prog 14 [vR r, vP v, .agg [I p.x, I p.y, I n].toArray] (.bool true) H H := by
  rcases tight_cases r with ⟨t, hr, ht, h1⟩ | ⟨e, he, h1⟩
  · have hs := totR_self ht
    have hto := tight_ok ht hr
    have h5 : cntE r = (cntF (rows r), 0)   := by unfold cntE; exact if_pos hr
    rcases ext_cases hr ht v with ⟨k, hv, h2, h3, h4, ka, kt, ao, bo, hq⟩ | ⟨k, h2⟩
    · exact l_Peaks1 r t v p n _ _ _ k hn hr ht hs hto h1 h5 rfl hv h2 h3 h4 ka kt ao bo hq H
    · exact l_Peaks2 r t v p n _ _ _ k hn hr ht hs hto h1 h5 rfl h2 H
  · exact l_Peaks0 r zR v p n e h1 he H

end Go.Proofs.Ytffpfcomikcimaa
