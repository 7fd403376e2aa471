/-
  Plain Lean: the cases of the statements about regions. No condition, no program.
-/
import Derived.Test.YtffpfcomikcimaaPlm
import Derived.Test.YtffpfcomikcimaaPlh
namespace Go.Proofs.Ytffpfcomikcimaa

theorem optE_ok {h : Option Rg} {t : Rg} (e : h = some t) : optE h = (t, 0) := by subst e; rfl
theorem optE_no {h : Option Rg} (e : h = none) : optE h = (zR, 4) := by subst e; rfl
theorem tmod_emod {n m : Int} (hm : 0 < m) : (if n.tmod m < 0 then n.tmod m + m else n.tmod m) = n % m := by
  rcases Int.le_total 0 n with h0 | h0
  · have h1 := Int.tmod_nonneg m h0
    rw [if_neg (by omega), Int.tmod_eq_emod_of_nonneg h0]
  · have h1 : 0 ≤ (-n).tmod m := Int.tmod_nonneg m (by omega)
    have h2 : (-n).tmod m < m := Int.tmod_lt_of_pos _ hm
    rw [Int.neg_tmod] at h1 h2
    have h3 := Int.mul_tdiv_add_tmod n m
    have h4 := Int.mul_ediv_add_emod n m
    have h5 := Int.emod_nonneg n (show m ≠ 0 by omega)
    have h6 := Int.emod_lt_of_pos n hm
    have e : m * (n / m - n.tdiv m) = n.tmod m - n % m := by rw [Int.mul_sub]; omega
    generalize n / m - n.tdiv m = k at e
    split
    · rename_i hneg
      have : k = -1 := by
        rcases Int.lt_trichotomy k (-1) with h | h | h
        · have := Int.mul_le_mul_of_nonneg_left (show k ≤ -2 by omega) (show 0 ≤ m by omega); omega
        · exact h
        · have := Int.mul_le_mul_of_nonneg_left (show 0 ≤ k by omega) (show 0 ≤ m by omega); omega
      subst this; omega
    · have : k = 0 := by
        rcases Int.lt_trichotomy k 0 with h | h | h
        · have := Int.mul_le_mul_of_nonneg_left (show k ≤ -1 by omega) (show 0 ≤ m by omega); omega
        · exact h
        · have := Int.mul_le_mul_of_nonneg_left (show 1 ≤ k by omega) (show 0 ≤ m by omega); omega
      subst this; omega

/-! ### RegionShift -/
structure ShiftOk (r : Rg) (v : Pt) (t m : Rg) : Prop where
  rok : r.ok
  vok : v.okV
  tt : tightP r = some t
  me : m = t.map2 Bd.plus (ofP v)
  fx : m.x.fits 32768
  fy : m.y.fits 32768
theorem shift_cases (r : Rg) (v : Pt) : (∃ t m, ShiftOk r v t m ∧ tightE r = (t, 0) ∧ moveE r v = (m, 0)) ∨ (∃ t e f, tightE r = (t, e) ∧ moveE r v = (zR, f) ∧ f ≠ 0) := by
  unfold moveE
  by_cases h1 : r.ok
  · rw [if_pos h1]
    have ht : tightE r = optE (tightP r) := if_pos h1
    cases h3 : tightP r with
    | none =>
      right
      by_cases h2 : v.okV
      · rw [if_pos h2]; exact ⟨zR, 4, 4, by rw [ht, h3]; rfl, rfl, by decide⟩
      · rw [if_neg h2]; exact ⟨zR, 4, 7, by rw [ht, h3]; rfl, rfl, by decide⟩
    | some t =>
      by_cases h2 : v.okV
      · rw [if_pos h2]
        simp only [insideE]
        by_cases h4 : (t.map2 Bd.plus (ofP v)).x.fits 32768 ∧ (t.map2 Bd.plus (ofP v)).y.fits 32768
        · left
          refine ⟨t, _, ⟨h1, h2, h3, rfl, h4.1, h4.2⟩, by rw [ht, h3]; rfl, if_pos h4⟩
        · right
          exact ⟨t, 0, 7, by rw [ht, h3]; rfl, if_neg h4, by decide⟩
      · right
        rw [if_neg h2]
        exact ⟨t, 0, 7, by rw [ht, h3]; rfl, rfl, by decide⟩
  · rw [if_neg h1]
    right
    exact ⟨zR, 11, 11, if_neg h1, rfl, by decide⟩
theorem ShiftOk.self {r : Rg} {v : Pt} {t m : Rg} (h : ShiftOk r v t m) : TotR t t ∧ TotR m m ∧ m.ok := by
  have h1 := totR_self h.tt
  have h2 := totR_move h1 v
  refine ⟨h1, by rw [h.me]; exact h2, ?_⟩
  have := plus_ok h1 (totR_ofP v) (by rw [← h.me]; exact ⟨h.fx, h.fy⟩)
  rw [h.me]; exact this
theorem move_back {t : Rg} (v : Pt) : (t.map2 Bd.plus (ofP v)).map2 Bd.plus (ofP ⟨-v.x, -v.y⟩) = t := by
  obtain ⟨⟨a, b⟩, ⟨c, d⟩, ⟨e, f⟩, ⟨g, i⟩⟩ := t
  simp only [Rg.map2, Bd.plus, ofP]
  congr 1 <;> congr 1 <;> omega
theorem ShiftOk.back {r : Rg} {v : Pt} {t m : Rg} (h : ShiftOk r v t m) : moveE m ⟨-v.x, -v.y⟩ = (t, 0) := by
  obtain ⟨h1, h2, h3⟩ := h.self
  have hv := h.vok
  have hf : t.ok := tight_ok h.tt h.rok
  unfold moveE
  rw [if_pos h3, if_pos (by unfold Pt.okV at *; simp only; omega), totR_tight h2]
  simp only [insideE]
  rw [h.me, move_back, if_pos ⟨hf.1, hf.2.1⟩]
theorem ShiftOk.cnt {r : Rg} {v : Pt} {t m : Rg} (h : ShiftOk r v t m) : ∃ n, cntE r = (n, 0) ∧ cntE m = (n, 0) := by
  obtain ⟨h1, h2, h3⟩ := h.self
  refine ⟨cntF (rows r), if_pos h.rok, ?_⟩
  unfold cntE
  rw [if_pos h3, h.me, cnt_move, tight_rows h.tt]
theorem minus_move (t : Rg) (v : Pt) : (t.map2 Bd.plus (ofP v)).map2 Bd.minus (t.map2 Bd.plus (ofP v)) = t.map2 Bd.minus t := by
  obtain ⟨⟨a, b⟩, ⟨c, d⟩, ⟨e, f⟩, ⟨g, i⟩⟩ := t
  simp only [Rg.map2, Bd.plus, Bd.minus, ofP]
  congr 1 <;> congr 1 <;> omega
theorem ShiftOk.gap {r : Rg} {v : Pt} {t m : Rg} (h : ShiftOk r v t m) : ∃ g, gapE r t = (g, 0) ∧ gapE m m = (g, 0) := by
  obtain ⟨h1, h2, h3⟩ := h.self
  have e1 := twoE_of h.rok (tight_ok h.tt h.rok) h.tt (tight_idem h.tt)
  have e2 := twoE_of h3 h3 (totR_tight h2) (totR_tight h2)
  refine ⟨_, by unfold gapE; rw [e1, if_pos rfl], ?_⟩
  unfold gapE
  rw [e2, if_pos rfl]
  simp only
  rw [h.me, minus_move]
def distI (r : Rg) (p : Pt) : BE := if p.ok then (match sqP r p with | some b => (b, 0) | none => (zB, 4)) else (zB, 10)
theorem distE_in {r : Rg} (h : r.ok) {p : Pt} : distE r p = distI r p := if_pos h
theorem ShiftOk.dist {r : Rg} {v : Pt} {t m : Rg} (h : ShiftOk r v t m) (p q : Pt) (hq : p.ok → q = ⟨p.x + v.x, p.y + v.y⟩) : ∃ b1 e1 b2 e2, distE r p = (b1, e1) ∧ distE m q = (b2, e2) ∧ (e1 = 0 → e2 = 0 → b1 = b2) := by
  obtain ⟨h1, h2, h3⟩ := h.self
  refine ⟨(distE r p).1, (distE r p).2, (distE m q).1, (distE m q).2, rfl, rfl, fun a b => ?_⟩
  rw [distE_in h.rok] at *
  rw [distE_in h3] at *
  unfold distI at *
  by_cases hp : p.ok
  · have hq := hq hp
    rw [if_pos hp] at *
    by_cases hqo : q.ok
    · rw [if_pos hqo] at *
      have e := sqP_eq (r := r) (r' := m) (p := p) (p' := q) v (fun z => by rw [h.me, inR_move, tight_in h.tt]) hq
      rw [e]
    · rw [if_neg hqo] at b; simp at b
  · rw [if_neg hp] at a; simp at a

/-! ### RegionEnds -/
theorem ends_cases (r : Rg) : (∃ t n, r.ok ∧ tightP r = some t ∧ tightE r = (t, 0) ∧ tightE t = (t, 0) ∧ cntE r = (n, 0) ∧ cntE t = (n, 0) ∧ 1 ≤ n) ∨ (∃ e, tightE r = (zR, 11) ∧ cntE r = (0, 11) ∧ e = 0) ∨ (tightE r = (zR, 4) ∧ cntE r = (0, 0)) := by
  by_cases h1 : r.ok
  · cases h3 : tightP r with
    | none => exact .inr (.inr ⟨by unfold tightE; rw [if_pos h1, h3]; rfl, by unfold cntE; rw [if_pos h1, cnt_zero h3]⟩)
    | some t =>
      left
      have hto := tight_ok h3 h1
      obtain ⟨p, hp⟩ := tight_ne h3
      refine ⟨t, cntF (rows r), h1, rfl, by unfold tightE; rw [if_pos h1, h3]; rfl, by unfold tightE; rw [if_pos hto, tight_idem h3]; rfl, if_pos h1, ?_, cnt_pos hp⟩
      unfold cntE
      rw [if_pos hto, tight_rows h3]
  · exact .inr (.inl ⟨0, if_neg h1, if_neg h1, rfl⟩)
theorem end_cnt {t : Rg} (h : TotR t t) (ho : t.ok) (i : Nat) : ∃ n, cntE (endR t i) = (n, 0) ∧ 1 ≤ n := by
  obtain ⟨p, hp⟩ := end_in h i
  exact ⟨_, if_pos (end_ok ho i), cnt_pos hp⟩

/-! ### Has -/
theorem has_cases (r : Rg) (p : Pt) : (r.ok ∧ p.ok ∧ hasE r p = (decide (inR r p), 0)) ∨ ∃ e, e ≠ 0 ∧ hasE r p = (false, e) := by
  unfold hasE
  by_cases h1 : r.ok
  · by_cases h2 : p.ok
    · exact .inl ⟨h1, h2, by rw [if_pos h1, if_pos h2]⟩
    · exact .inr ⟨10, by decide, by rw [if_pos h1, if_neg h2]⟩
  · exact .inr ⟨11, by decide, by rw [if_neg h1]⟩
theorem has_ok {r : Rg} {p : Pt} (h1 : r.ok) (h2 : p.ok) : hasE r p = (decide (inR r p), 0) := by unfold hasE; rw [if_pos h1, if_pos h2]

/-! ### RegionBoth -/
/-- What is known of a place that is asked in two regions. -/
theorem both_meet {a b : Rg} {p : Pt} (ha : a.ok) (hb : b.ok) (hp : p.ok) : (∃ m, meetE a b = (m, 0) ∧ meetE b a = (m, 0) ∧ hasE m p = (decide (inR a p) && decide (inR b p), 0)) ∨ (∃ m, meetE a b = (m, 4) ∧ meetE b a = (m, 4) ∧ (decide (inR a p) && decide (inR b p)) = false) := by
  have hc := meet_comm a b
  have h0 : meetE a b = optE (tightP (a.map2 Bd.cut b)) := by unfold meetE; rw [if_pos (chk2_zero.2 ⟨ha, hb⟩)]
  cases ht : tightP (a.map2 Bd.cut b) with
  | none =>
    right
    rw [ht, optE_no rfl] at h0
    refine ⟨zR, h0, by rw [← hc]; exact h0, ?_⟩
    have := tight_none.1 ht p
    rw [inR_cut] at this
    simp only [Bool.and_eq_false_iff, decide_eq_false_iff_not]
    by_cases h : inR a p
    · exact .inr fun h2 => this ⟨h, h2⟩
    · exact .inl h
  | some t =>
    left
    rw [ht, optE_ok rfl] at h0
    refine ⟨t, h0, by rw [← hc]; exact h0, ?_⟩
    have hok : t.ok := by
      obtain ⟨q, hq⟩ := tight_ne ht
      have hs := tight_sub ht
      have h1 : a.ok := ha
      unfold Rg.ok Bd.fits at *
      unfold Rg.map2 Bd.cut at hs
      simp only at hs
      obtain ⟨s1, s2, s3, s4⟩ := hs
      obtain ⟨a1, a2, a3, a4⟩ := ha
      exact ⟨by omega, by omega, by omega, by omega⟩
    rw [has_ok hok hp]
    congr 1
    rw [← Bool.decide_and]
    exact decide_eq_decide.2 (by rw [tight_in ht, inR_cut])
theorem both_join {a b : Rg} {p : Pt} (ha : a.ok) (hb : b.ok) (hp : p.ok) : (∃ j z, joinE a b = (j, 0) ∧ joinE b a = (j, 0) ∧ hasE j p = (z, 0) ∧ (decide (inR a p) = true ∨ decide (inR b p) = true → z = true)) ∨ (∃ j, joinE a b = (j, 4) ∧ joinE b a = (j, 4) ∧ decide (inR a p) = false ∧ decide (inR b p) = false) := by
  have hc := join_comm a b
  have h0 : joinE a b = optE (hullP (endsOf a ++ endsOf b)) := by unfold joinE; rw [if_pos (chk2_zero.2 ⟨ha, hb⟩)]
  cases ht : hullP (endsOf a ++ endsOf b) with
  | none =>
    right
    rw [ht, optE_no rfl] at h0
    obtain ⟨h1, h2⟩ := hull_none2.1 ht
    exact ⟨zR, h0, by rw [← hc]; exact h0, decide_eq_false (tight_none.1 h1 p), decide_eq_false (tight_none.1 h2 p)⟩
  | some t =>
    left
    rw [ht, optE_ok rfl] at h0
    refine ⟨t, decide (inR t p), h0, by rw [← hc]; exact h0, has_ok (hull_ok ht ha hb) hp, fun h => decide_eq_true ((hull_totR ht).1 p ?_)⟩
    rcases h with h | h
    · exact .inl (of_decide_eq_true h)
    · exact .inr (of_decide_eq_true h)

/-! ### RegionAdded -/
theorem gap_of {a b x y : Rg} (ha : a.ok) (hb : b.ok) (hx : tightP a = some x) (hy : tightP b = some y) {p q : Pt} (hp : inR x p) (hq : inR y q) :
    ∃ g, gapE a b = (g, 0) ∧ g.lo ≤ d2 zP ⟨p.x - q.x, p.y - q.y⟩ ∧ d2 zP ⟨p.x - q.x, p.y - q.y⟩ ≤ g.hi ∧ (∀ z, inR x z → g.lo ≤ d2 zP ⟨z.x - q.x, z.y - q.y⟩ ∧ d2 zP ⟨z.x - q.x, z.y - q.y⟩ ≤ g.hi) := by
  have hm := inR_minus hp hq
  obtain ⟨g, hg⟩ := sqP_some (p := zP) hm
  refine ⟨g, by unfold gapE; rw [twoE_of ha hb hx hy, if_pos rfl]; simp only; rw [hg]; rfl, (sqP_in hg hm).1, (sqP_in hg hm).2, fun z hz => sqP_in hg (inR_minus hz hq)⟩
theorem d2_swap (p q : Pt) : d2 zP ⟨p.x - q.x, p.y - q.y⟩ = d2 q p := by
  unfold d2 zP; simp only
  rw [show p.x - q.x - 0 = p.x - q.x by omega, show p.y - q.y - 0 = p.y - q.y by omega]
theorem own_of {a x : Rg} (ha : a.ok) (hx : tightP a = some x) {p q : Pt} (hp : inR x p) (hq : q.ok) : ∃ o, distE a q = (o, 0) ∧ o.lo ≤ d2 q p ∧ d2 q p ≤ o.hi ∧ (∃ z, inR x z ∧ d2 q z = o.lo) ∧ ∃ z, inR x z ∧ d2 q z = o.hi := by
  have hp' := (tight_in hx p).1 hp
  obtain ⟨o, ho⟩ := sqP_some (p := q) hp'
  refine ⟨o, by unfold distE; rw [if_pos ha, if_pos hq, ho], (sqP_in ho hp').1, (sqP_in ho hp').2, ?_, ?_⟩
  · obtain ⟨z, h1, h2⟩ := sqP_lo ho
    exact ⟨z, (tight_in hx z).2 h1, h2⟩
  · obtain ⟨z, h1, h2⟩ := sqP_hi ho
    exact ⟨z, (tight_in hx z).2 h1, h2⟩
theorem tight_cases (r : Rg) : (∃ t, r.ok ∧ tightP r = some t ∧ tightE r = (t, 0)) ∨ ∃ e, e ≠ 0 ∧ tightE r = (zR, e) := by
  by_cases h1 : r.ok
  · cases h3 : tightP r with
    | none => exact .inr ⟨4, by decide, by unfold tightE; rw [if_pos h1, h3]; rfl⟩
    | some t => exact .inl ⟨t, h1, rfl, by unfold tightE; rw [if_pos h1, h3]; rfl⟩
  · exact .inr ⟨11, by decide, if_neg h1⟩
theorem sum_cases {a b x y : Rg} (ha : a.ok) (hb : b.ok) (hx : tightP a = some x) (hy : tightP b = some y) {p q : Pt} (hp : inR x p) (hq : inR y q) :
    (∃ s, sumE a b = (s, 0) ∧ hasE s ⟨p.x + q.x, p.y + q.y⟩ = (true, 0)) ∨ ∃ s, sumE a b = (s, 7) := by
  have h0 : sumE a b = insideE (x.map2 Bd.plus y) := by unfold sumE; rw [twoE_of ha hb hx hy, if_pos rfl]
  by_cases h : (x.map2 Bd.plus y).x.fits 32768 ∧ (x.map2 Bd.plus y).y.fits 32768
  · left
    refine ⟨_, by rw [h0]; exact if_pos h, has_in (plus_ok (totR_self hx) (totR_self hy) h) (inR_plus hp hq)⟩
  · exact .inr ⟨zR, by rw [h0]; exact if_neg h⟩
theorem minus_cases {a b x y : Rg} (ha : a.ok) (hb : b.ok) (hx : tightP a = some x) (hy : tightP b = some y) {p q : Pt} (hp : inR x p) (hq : inR y q) :
    (∃ s, minusE a b = (s, 0) ∧ hasE s ⟨p.x - q.x, p.y - q.y⟩ = (true, 0)) ∨ ∃ s, minusE a b = (s, 7) := by
  have h0 : minusE a b = insideE (x.map2 Bd.minus y) := by unfold minusE; rw [twoE_of ha hb hx hy, if_pos rfl]
  by_cases h : (x.map2 Bd.minus y).x.fits 32768 ∧ (x.map2 Bd.minus y).y.fits 32768
  · left
    refine ⟨_, by rw [h0]; exact if_pos h, has_in (minus_ok (totR_self hx) (totR_self hy) h) (inR_minus hp hq)⟩
  · exact .inr ⟨zR, by rw [h0]; exact if_neg h⟩

/-! ### RegionReached -/
theorem reach_cases (r : Rg) (n : Int) : (∃ t w, r.ok ∧ tightP r = some t ∧ tightE r = (t, 0) ∧ (0 ≤ n ∧ n ≤ 32768) ∧ tightP (wideR t n (farP n)) = some w ∧ reachE r n = (w, 0)) ∨ (∃ t e w f, tightE r = (t, e) ∧ reachE r n = (w, f) ∧ (e ≠ 0 ∨ f ≠ 0)) := by
  by_cases h1 : r.ok
  · cases h3 : tightP r with
    | none => exact .inr ⟨zR, 4, _, _, by unfold tightE; rw [if_pos h1, h3]; rfl, rfl, .inl (by decide)⟩
    | some t =>
      have ht : tightE r = (t, 0) := by unfold tightE; rw [if_pos h1, h3]; rfl
      by_cases h2 : 0 ≤ n ∧ n ≤ 32768
      · left
        obtain ⟨p, hp⟩ := tight_ne (tight_idem h3)
        obtain ⟨w, hw⟩ := tight_some (wide_in (tight_ok h3 h1) h2.1 hp)
        exact ⟨t, w, h1, rfl, ht, h2, hw, by unfold reachE; rw [if_pos h1, if_pos h2, h3]; simp only; rw [hw]; rfl⟩
      · exact .inr ⟨t, 0, zR, 7, ht, by unfold reachE; rw [if_pos h1, if_neg h2], .inr (by decide)⟩
  · exact .inr ⟨zR, 11, _, _, if_neg h1, rfl, .inl (by decide)⟩
theorem reach_zero {r t : Rg} (h1 : r.ok) (h3 : tightP r = some t) : reachE r 0 = (t, 0) := by
  unfold reachE
  rw [if_pos h1, if_pos (by omega), h3]
  simp only
  rw [wide_zero (tight_ok h3 h1), tight_idem h3]; rfl
theorem reach_more {r t w : Rg} {n : Int} (h1 : r.ok) (h3 : tightP r = some t) (hn : 0 ≤ n ∧ n ≤ 32768) (hw : tightP (wideR t n (farP n)) = some w) : ∃ u, reachE r (min 32768 (n + 1)) = (u, 0) ∧ meetE w u = (w, 0) := by
  have hm : 0 ≤ min 32768 (n + 1) ∧ min 32768 (n + 1) ≤ 32768 := by omega
  obtain ⟨p, hp⟩ := tight_ne (tight_idem h3)
  obtain ⟨u, hu⟩ := tight_some (wide_in (tight_ok h3 h1) hm.1 hp)
  refine ⟨u, by unfold reachE; rw [if_pos h1, if_pos hm, h3]; simp only; rw [hu]; rfl, ?_⟩
  have hwo := wide_ok hw
  have huo := wide_ok hu
  unfold meetE
  rw [if_pos (chk2_zero.2 ⟨hwo, huo⟩)]
  have e : tightP (w.map2 Bd.cut u) = some w := by
    rw [← tight_idem hw]
    refine tight_eq fun q => ?_
    rw [inR_cut]
    refine ⟨fun h => h.1, fun h => ⟨h, ?_⟩⟩
    rw [tight_in hu]
    exact wide_sub hn.1 (by omega) ((tight_in hw q).1 h)
  rw [e]; rfl
theorem reach_has {t w : Rg} {n : Int} {p v : Pt} (hn : 0 ≤ n) (hw : tightP (wideR t n (farP n)) = some w) (hp : inR t p) (hq : (⟨p.x + v.x, p.y + v.y⟩ : Pt).ok) (h1 : -n ≤ v.x ∧ v.x ≤ n) (h2 : -n ≤ v.y ∧ v.y ≤ n) (h3 : v.x * v.x + v.y * v.y ≤ n * n) :
    hasE w ⟨p.x + v.x, p.y + v.y⟩ = (true, 0) := has_in (wide_ok hw) ((tight_in hw _).2 (inR_wide hn hp hq h1 h2 h3))

/-! ### RegionSwept -/
theorem move_cases {r t : Rg} (h1 : r.ok) (h3 : tightP r = some t) (v : Pt) : (moveE r v = (t.map2 Bd.plus (ofP v), 0) ∧ v.okV ∧ (t.map2 Bd.plus (ofP v)).ok) ∨ moveE r v = (zR, 7) := by
  unfold moveE
  rw [if_pos h1]
  by_cases h2 : v.okV
  · rw [if_pos h2, h3]
    simp only [insideE]
    by_cases h4 : (t.map2 Bd.plus (ofP v)).x.fits 32768 ∧ (t.map2 Bd.plus (ofP v)).y.fits 32768
    · exact .inl ⟨if_pos h4, h2, plus_ok (totR_self h3) (totR_ofP v) h4⟩
    · exact .inr (if_neg h4)
  · exact .inr (if_neg h2)
theorem swept_cases {r t : Rg} (h1 : r.ok) (h3 : tightP r = some t) (u s : Pt) (m : Int) (p : Pt) (hp : inR t p) :
    (∃ w, sweptE r u ⟨u.x + m * s.x, u.y + m * s.y⟩ = (w, 0) ∧ ∀ k, 0 ≤ k ∧ k ≤ m → hasE w ⟨p.x + u.x + k * s.x, p.y + u.y + k * s.y⟩ = (true, 0)) ∨ sweptE r u ⟨u.x + m * s.x, u.y + m * s.y⟩ = (zR, 7) := by
  rcases move_cases h1 h3 u with ⟨e1, _, o1⟩ | e1
  · rcases move_cases h1 h3 ⟨u.x + m * s.x, u.y + m * s.y⟩ with ⟨e2, _, o2⟩ | e2
    · left
      have hA : inR (t.map2 Bd.plus (ofP u)) ⟨p.x + u.x, p.y + u.y⟩ := inR_move.2 hp
      have hB : inR (t.map2 Bd.plus (ofP ⟨u.x + m * s.x, u.y + m * s.y⟩)) ⟨p.x + (u.x + m * s.x), p.y + (u.y + m * s.y)⟩ := inR_move.2 hp
      have hj : joinE (t.map2 Bd.plus (ofP u)) (t.map2 Bd.plus (ofP ⟨u.x + m * s.x, u.y + m * s.y⟩)) = optE (hullP (endsOf (t.map2 Bd.plus (ofP u)) ++ endsOf (t.map2 Bd.plus (ofP ⟨u.x + m * s.x, u.y + m * s.y⟩)))) := by
        unfold joinE; rw [if_pos (chk2_zero.2 ⟨o1, o2⟩)]
      cases hh : hullP (endsOf (t.map2 Bd.plus (ofP u)) ++ endsOf (t.map2 Bd.plus (ofP ⟨u.x + m * s.x, u.y + m * s.y⟩))) with
      | none => exact absurd hA (tight_none.1 (hull_none2.1 hh).1 _)
      | some w =>
        refine ⟨w, by unfold sweptE; rw [e1, e2, if_pos rfl, if_pos rfl]; simp only; rw [hj, hh]; rfl, fun k hk => ?_⟩
        have hin := (hull_totR hh).1
        refine has_in (hull_ok hh o1 o2) ?_
        refine swept_in (w := w) (p := ⟨p.x + u.x, p.y + u.y⟩) (s := s) hk (hin _ (.inl hA)) ?_
        have := hin _ (.inr hB)
        simpa [Int.add_assoc] using this
    · right; unfold sweptE; rw [e1, e2, if_pos rfl, if_neg (by decide)]
  · right; unfold sweptE; rw [e1, if_neg (by decide)]

/-! ### Extreme -/
def PkSpec (le : Vd → Vd → Prop) (l : List Vd) : Option Vd → Prop
  | none => l = []
  | some b => b ∈ l ∧ ∀ y ∈ l, le b y
theorem PkSpec.snoc {le : Vd → Vd → Prop} {better : Vd → Vd → Bool} (h1 : ∀ a b, better a b = true → le a b) (h2 : ∀ a b, better a b = false → le b a) (ht : ∀ a b c, le a b → le b c → le a c) (hr : ∀ a, le a a) {l : List Vd} {o : Option Vd} (h : PkSpec le l o) (x : Vd) : PkSpec le (l ++ [x]) (bestS better o x) := by
  cases o with
  | none =>
    have h : l = [] := h
    subst h
    refine ⟨by simp [bestS], fun y hy => ?_⟩
    have hy : y = x := by simpa using hy
    subst hy; exact hr y
  | some b =>
    obtain ⟨hb, hle⟩ := h
    unfold bestS
    simp only
    cases hx : better x b with
    | true =>
      rw [if_pos rfl]
      refine ⟨by simp, fun y hy => ?_⟩
      rcases List.mem_append.1 hy with hy | hy
      · exact ht _ _ _ (h1 _ _ hx) (hle y hy)
      · rw [List.mem_singleton.1 hy]; exact hr x
    | false =>
      rw [if_neg (by decide)]
      refine ⟨by simp [hb], fun y hy => ?_⟩
      rcases List.mem_append.1 hy with hy | hy
      · exact hle y hy
      · rw [List.mem_singleton.1 hy]; exact h2 _ _ hx
theorem PkSpec.fold {le : Vd → Vd → Prop} {better : Vd → Vd → Bool} (h1 : ∀ a b, better a b = true → le a b) (h2 : ∀ a b, better a b = false → le b a) (ht : ∀ a b c, le a b → le b c → le a c) (hr : ∀ a, le a a) : ∀ (l pre : List Vd) (o : Option Vd), PkSpec le pre o → PkSpec le (pre ++ l) (l.foldl (bestS better) o)
  | [], pre, o, h => by simpa using h
  | x :: l, pre, o, h => by
    have := PkSpec.fold h1 h2 ht hr l (pre ++ [x]) _ (h.snoc h1 h2 ht hr x)
    simpa using this
theorem less_spec (l : List Vd) : PkSpec (fun a b => a.n ≤ b.n) l (pickL lessV l) :=
  PkSpec.fold (better := lessV) (fun a b h => by have := of_decide_eq_true h; omega) (fun a b h => by have := of_decide_eq_false h; omega) (fun a b c h g => by omega) (fun a => by omega) l [] none rfl
theorem more_spec (l : List Vd) : PkSpec (fun a b => b.n ≤ a.n) l (pickL moreV l) :=
  PkSpec.fold (better := moreV) (fun a b h => by have := of_decide_eq_true h; omega) (fun a b h => by have := of_decide_eq_false h; omega) (fun a b c h g => by omega) (fun a => by omega) l [] none rfl
def dot (v p : Pt) : Int := v.x * p.x + v.y * p.y
theorem mul_between {k a b y : Int} (h1 : a ≤ y) (h2 : y ≤ b) : min (k * a) (k * b) ≤ k * y ∧ k * y ≤ max (k * a) (k * b) := by
  rcases Int.le_total 0 k with h0 | h0
  · have := Int.mul_le_mul_of_nonneg_left h1 h0
    have := Int.mul_le_mul_of_nonneg_left h2 h0
    omega
  · have := Int.mul_le_mul_of_nonpos_left h0 h1
    have := Int.mul_le_mul_of_nonpos_left h0 h2
    omega
theorem ext_cases {r t : Rg} (h1 : r.ok) (h3 : tightP r = some t) (v : Pt) : (∃ k, v.okS ∧ extE r v = (k, 0) ∧ hasE r k.a = (true, 0) ∧ hasE r k.t = (true, 0) ∧ dot v k.a = k.lo ∧ dot v k.t = k.hi ∧ k.a.ok ∧ k.t.ok ∧ ∀ q, inR t q → k.lo ≤ dot v q ∧ dot v q ≤ k.hi) ∨ ∃ k, extE r v = (k, 7) := by
  by_cases h2 : v.okS
  · left
    have hl := less_spec (vals r v)
    have hm := more_spec (vals r v)
    have hne : vals r v ≠ [] := by
      intro e
      have : endsOf r = [] := by unfold vals at e; simpa using e
      have hn : tightP r = none := by unfold tightP; rw [hullP_none]; exact this
      rw [hn] at h3; cases h3
    cases hA : pickL lessV (vals r v) with
    | none => rw [hA] at hl; exact absurd hl hne
    | some a =>
      cases hB : pickL moreV (vals r v) with
      | none => rw [hB] at hm; exact absurd hm hne
      | some b =>
        rw [hA] at hl
        rw [hB] at hm
        obtain ⟨ma, la⟩ := hl
        obtain ⟨mb, lb⟩ := hm
        obtain ⟨pa, ha1, ha2⟩ := List.mem_map.1 ma
        obtain ⟨pb, hb1, hb2⟩ := List.mem_map.1 mb
        have ea : a.p = pa := by rw [← ha2]; rfl
        have eb : b.p = pb := by rw [← hb2]; rfl
        have na : dot v a.p = a.n := by rw [← ha2]; rfl
        have nb : dot v b.p = b.n := by rw [← hb2]; rfl
        have ia : inR r a.p := by rw [ea]; exact ends_in ha1
        have ib : inR r b.p := by rw [eb]; exact ends_in hb1
        refine ⟨⟨a.n, b.n, a.p, b.p⟩, h2, by unfold extE; rw [if_pos h1, if_pos h2, hA, hB], has_in h1 ia, has_in h1 ib, na, nb, ok_inR h1 ia, ok_inR h1 ib, fun q hq => ?_⟩
        have hq' := (tight_in h3 q).1 hq
        obtain ⟨e1, e2⟩ := row_ends hq'
        have hr := inR_row.1 hq'
        have m1 : val v ⟨q.x, (rowOf r q.x).a⟩ ∈ vals r v := List.mem_map.2 ⟨_, e1, rfl⟩
        have m2 : val v ⟨q.x, (rowOf r q.x).b⟩ ∈ vals r v := List.mem_map.2 ⟨_, e2, rfl⟩
        have a1 := la _ m1
        have a2 := la _ m2
        have b1 := lb _ m1
        have b2 := lb _ m2
        have hb := mul_between (k := v.y) hr.2.1 hr.2.2
        unfold val at a1 a2 b1 b2
        unfold dot
        simp only at *
        omega
  · exact .inr ⟨zK, by unfold extE; rw [if_pos h1, if_neg h2]⟩

/-! ### Clash -/
theorem clash_cases (l : List Rg) : (∃ e, clashE l = ([], e) ∧ e ≠ 0 ∧ e ≠ 4) ∨ (clashE l = ([], 4) ∧ l.length ≤ 12 ∧ (∀ r ∈ l, r.ok) ∧ (l ≠ [] → ∃ p, p.ok ∧ Common l p)) ∨
    ∃ js : List Nat, clashE l = (js.map (fun (j : Nat) => (j : Int)), 0) ∧ l.length ≤ 12 ∧ (∀ r ∈ l, r.ok) ∧ (1 ≤ js.length ∧ js.length ≤ 4) ∧ Incr l.length 0 js ∧ (∀ p, ¬ ∀ j ∈ js, inR (atR l j) p) ∧ ∀ ks, Incr l.length 0 ks → ks.length + 1 = js.length → ks ≠ [] → ∃ p, ∀ j ∈ ks, inR (atR l j) p := by
  by_cases h1 : 12 < l.length
  · exact .inl ⟨3, clE_3 h1, by decide, by decide⟩
  · by_cases h2 : ∀ r ∈ l, r.ok
    · right
      have hE := clE_of h1 h2
      by_cases hc : ∃ p, Common l p
      · left
        obtain ⟨p, hp⟩ := hc
        by_cases hl : l = []
        · subst hl
          exact ⟨by rw [hE, clP_none_of (p := ⟨0, 0⟩) (by decide) (fun r hr => by cases hr)], by omega, h2, fun h => absurd rfl h⟩
        · have hpo : p.ok := by
            cases l with
            | nil => exact absurd rfl hl
            | cons r l => exact ok_inR (h2 r (by simp)) (hp r (by simp))
          exact ⟨by rw [hE, clP_none_of hpo hp], by omega, h2, fun _ => ⟨p, hpo, hp⟩⟩
      · right
        obtain ⟨n, out, hn, hs, hno, hP⟩ := clP_some_of h2 (fun p hp => hc ⟨p, hp⟩)
        obtain ⟨js, j1, j2, j3, j4⟩ := srch_some l _ _ _ _ _ hs
        refine ⟨js, by rw [hE, hP]; simp only; rw [j3]; rfl, by omega, h2, by omega, j2, fun p hp => ?_, fun ks k1 k2 k3 => ?_⟩
        · refine tight_none.1 j4 p ((inR_cuts l js allR p).2 ⟨?_, hp⟩)
          cases js with
          | nil => cases j1
          | cons j js => exact inR_all.2 (ok_inR (h2 _ (atR_mem (Incr.mem j2 j (by simp)).2)) (hp j (by simp)))
        · have hpos : 0 < ks.length := List.length_pos_iff.2 k3
          have := srch_none l _ _ _ _ (hno (n - 1) (by omega)) ks (by omega) k1
          obtain ⟨p, hp⟩ := tight_exists.1 this
          exact ⟨p, ((inR_cuts l ks allR p).1 hp).2⟩
    · left
      obtain ⟨r, hr⟩ := Classical.not_forall.1 h2
      obtain ⟨hr, hn⟩ := Classical.not_imp.1 hr
      exact ⟨11, clE_11 h1 hr hn, by decide, by decide⟩
theorem Incr.erase {n : Nat} : ∀ (js : List Nat) (a i : Nat), Incr n a js → Incr n a (js.eraseIdx i)
  | [], _, _, h => by simpa using h
  | j :: js, a, 0, h => by simp only [List.eraseIdx_cons_zero]; exact Incr.mono (by have := h.1.1; omega) h.2
  | j :: js, a, i + 1, h => by simp only [List.eraseIdx_cons_succ]; exact ⟨h.1, Incr.erase js (j + 1) i h.2⟩
/-- Of a clash each one is needed. -/
theorem clash_rest {l : List Rg} {js : List Nat} (hok : ∀ r ∈ l, r.ok) (hlen : js.length ≤ 4) (hI : Incr l.length 0 js) (h : ∀ ks, Incr l.length 0 ks → ks.length + 1 = js.length → ks ≠ [] → ∃ p, ∀ j ∈ ks, inR (atR l j) p) (i : Nat) (hi : i < js.length) :
    clashE ((js.eraseIdx i).map (atR l)) = ([], 4) := by
  have hI' := Incr.erase js 0 i hI
  have hl : (js.eraseIdx i).length + 1 = js.length := by rw [List.length_eraseIdx]; split <;> omega
  have hmem : ∀ r ∈ (js.eraseIdx i).map (atR l), r.ok := by
    intro r hr
    obtain ⟨j, hj, rfl⟩ := List.mem_map.1 hr
    exact hok _ (atR_mem (Incr.mem hI' j hj).2)
  rw [clE_of (by rw [List.length_map]; omega) hmem]
  by_cases hn : js.eraseIdx i = []
  · rw [hn]; rfl
  · obtain ⟨p, hp⟩ := h _ hI' hl hn
    have hc : Common ((js.eraseIdx i).map (atR l)) p := by
      intro r hr
      obtain ⟨j, hj, rfl⟩ := List.mem_map.1 hr
      exact hp j hj
    have hpo : p.ok := by
      obtain ⟨j, hj⟩ := List.exists_mem_of_ne_nil _ hn
      exact ok_inR (hok _ (atR_mem (Incr.mem hI' j hj).2)) (hp j hj)
    rw [clP_none_of hpo hc]
/-- Meets, one after the other. -/
def MeetUp (l : List Rg) (i : Nat) (m : Rg) : Prop := m.ok ∧ ∀ q, inR m q ↔ ∀ r ∈ l.take i, inR r q
theorem meetUp_one {r : Rg} {l : List Rg} (hr : r.ok) {p : Pt} (hp : inR r p) : ∃ t, tightE r = (t, 0) ∧ MeetUp (r :: l) 1 t := by
  obtain ⟨t, ht⟩ := tight_some hp
  refine ⟨t, by unfold tightE; rw [if_pos hr, ht]; rfl, tight_ok ht hr, fun q => ?_⟩
  rw [tight_in ht]
  simp
theorem meetUp_next {l : List Rg} {i : Nat} {m z : Rg} (h : MeetUp l i m) (hz : l[i]? = some z) (hzo : z.ok) {p : Pt} (hp : Common l p) : ∃ t, meetE m z = (t, 0) ∧ MeetUp l (i + 1) t := by
  obtain ⟨ho, hm⟩ := h
  have e1 : meetE m z = optE (tightP (m.map2 Bd.cut z)) := by unfold meetE; rw [if_pos (chk2_zero.2 ⟨ho, hzo⟩)]
  have hpi : inR (m.map2 Bd.cut z) p := inR_cut.2 ⟨(hm p).2 fun r hr => hp r (List.mem_of_mem_take hr), hp z (List.mem_of_getElem? hz)⟩
  obtain ⟨t, ht⟩ := tight_some hpi
  refine ⟨t, by rw [e1, ht]; rfl, ?_, fun q => ?_⟩
  · have hs := tight_sub ht
    unfold Rg.map2 Bd.cut at hs
    simp only at hs
    obtain ⟨s1, s2, s3, s4⟩ := hs
    obtain ⟨a1, a2, a3, a4⟩ := ho
    unfold Bd.fits at a1 a2 a3 a4
    exact ⟨by unfold Bd.fits; omega, by unfold Bd.fits; omega, by unfold Bd.fits; omega, by unfold Bd.fits; omega⟩
  · rw [tight_in ht, inR_cut, hm q, List.take_add_one, hz]
    simp only [Option.toList_some, List.mem_append, List.mem_singleton]
    constructor
    · rintro ⟨h1, h2⟩ r (hr | rfl)
      · exact h1 r hr
      · exact h2
    · exact fun h => ⟨fun r hr => h r (.inl hr), h z (.inr rfl)⟩

/-! ### Fields -/
theorem inF_iff {f : List Pt} {p : Pt} : inF f p = true ↔ ∀ s ∈ sidesL f, 0 ≤ turnP s.1 s.2 p := by
  unfold inF; simp only [List.all_eq_true, decide_eq_true_eq]
/-- A way's side, along a row. -/
theorem turn_row (a b : Pt) (x y : Int) : turnP a b ⟨x, y⟩ = cutK a b * y - cutN a b x := by
  unfold turnP cutN cutK
  simp only
  rw [Int.mul_sub]; omega
theorem cut_iff {a b : Pt} {w : Rw} {y : Int} : ((cutW a b w).a ≤ y ∧ y ≤ (cutW a b w).b) ↔ (w.a ≤ y ∧ y ≤ w.b) ∧ 0 ≤ turnP a b ⟨w.x, y⟩ := by
  rw [turn_row]
  unfold cutW
  split
  · rename_i h
    simp only
    have : (-((-cutN a b w.x) / cutK a b) ≤ y) ↔ cutN a b w.x ≤ cutK a b * y := by
      have h1 : (-y ≤ (-cutN a b w.x) / cutK a b) ↔ -y * cutK a b ≤ -cutN a b w.x := Int.le_ediv_iff_mul_le h
      rw [Int.neg_mul, Int.mul_comm y] at h1
      constructor
      · intro h2; have := h1.1 (by omega); omega
      · intro h2; have := h1.2 (by omega); omega
    omega
  · split
    · rename_i h
      simp only
      have : (y ≤ (-cutN a b w.x) / (-cutK a b)) ↔ cutN a b w.x ≤ cutK a b * y := by
        have h1 : (y ≤ (-cutN a b w.x) / (-cutK a b)) ↔ y * (-cutK a b) ≤ -cutN a b w.x := Int.le_ediv_iff_mul_le (by omega)
        rw [Int.mul_neg, Int.mul_comm y] at h1
        constructor
        · intro h2; have := h1.1 h2; omega
        · intro h2; exact h1.2 (by omega)
      omega
    · have hk : cutK a b = 0 := by omega
      rw [hk, Int.zero_mul]
      split
      · simp only; omega
      · omega
theorem cuts_iff : ∀ (l : List (Pt × Pt)) (w : Rw) (y : Int), ((cutsW l w).a ≤ y ∧ y ≤ (cutsW l w).b) ↔ (w.a ≤ y ∧ y ≤ w.b) ∧ ∀ s ∈ l, 0 ≤ turnP s.1 s.2 ⟨w.x, y⟩
  | [], w, y => by simp [cutsW]
  | s :: l, w, y => by
    have := cuts_iff l (cutW s.1 s.2 w) y
    show ((cutsW l (cutW s.1 s.2 w)).a ≤ y ∧ y ≤ (cutsW l (cutW s.1 s.2 w)).b) ↔ _
    rw [this, cut_iff, cutW_x]
    simp only [List.mem_cons, forall_eq_or_imp]
    exact ⟨fun ⟨⟨h1, h2⟩, h3⟩ => ⟨h1, h2, h3⟩, fun ⟨h1, h2, h3⟩ => ⟨⟨h1, h2⟩, h3⟩⟩
theorem hitW_iff {f : List Pt} {w : Rw} : hitW f w = true ↔ ∃ y, (w.a ≤ y ∧ y ≤ w.b) ∧ inF f ⟨w.x, y⟩ = true := by
  unfold hitW
  rw [decide_eq_true_eq]
  constructor
  · intro h
    have := (cuts_iff (sidesL f) w (cutsW (sidesL f) w).a).1 ⟨Int.le_refl _, h⟩
    exact ⟨_, this.1, inF_iff.2 this.2⟩
  · rintro ⟨y, h1, h2⟩
    have := (cuts_iff (sidesL f) w y).2 ⟨h1, inF_iff.1 h2⟩
    omega
/-- The rows come by their x. -/
theorem rows_lt : ∀ (r : Rg) (n : Nat) (pre post : List Rw) (w : Rw), rowsN r n = pre ++ w :: post → ∀ u ∈ post, w.x < u.x
  | r, 0, pre, post, w, h => by simp [rowsN, xsF] at h
  | r, n + 1, pre, post, w, h => by
    intro u hu
    rw [rowsN_succ] at h
    unfold rowL at h
    split at h
    · rcases List.eq_nil_or_concat post with e | ⟨post', z, e⟩
      · subst e; cases hu
      · rw [List.concat_eq_append] at e
        subst e
        have h2 : rowsN r n ++ [rowOf r (r.x.lo + n)] = (pre ++ w :: post') ++ [z] := by rw [h]; simp
        obtain ⟨h3, h4⟩ := List.append_inj' h2 rfl
        simp only [List.cons.injEq, and_true] at h4
        have hw : w ∈ rowsN r n := by rw [h3]; simp
        have hwx : w.x < r.x.lo + n := by
          unfold rowsN at hw
          obtain ⟨x, hx, hx2⟩ := List.mem_flatMap.1 hw
          have := mem_xsF.1 hx
          unfold rowL at hx2
          split at hx2
          · rw [List.mem_singleton.1 hx2]; simp only [rowOf]; omega
          · cases hx2
        rcases List.mem_append.1 hu with hu | hu
        · exact rows_lt r n pre post' w h3 u hu
        · rw [List.mem_singleton.1 hu, ← h4]; exact hwx
    · rw [List.append_nil] at h
      exact rows_lt r n pre post w h u hu
def hitI (f : List Pt) (r : Rg) : Pt × Int := match hitP f (rows r) with | some p => (p, 0) | none => (zP, 4)
theorem hitI_s {f : List Pt} {r : Rg} {p : Pt} (h : hitP f (rows r) = some p) : hitI f r = (p, 0) := by unfold hitI; rw [h]
theorem hitI_n {f : List Pt} {r : Rg} (h : hitP f (rows r) = none) : hitI f r = (zP, 4) := by unfold hitI; rw [h]
theorem hit_cases {f : List Pt} {r t : Rg} (hf : fieldB f = true) (h1 : r.ok) (h3 : tightP r = some t) : (∃ h, hitE f r = (h, 0) ∧ hasE r h = (true, 0) ∧ h.ok ∧ inF f h = true ∧ ∀ p, inR t p → inF f p = true → h.x < p.x ∨ h.x = p.x ∧ h.y ≤ p.y) ∨ (hitE f r = (zP, 4) ∧ ∀ p, inR t p → inF f p = false) := by
  have hE : hitE f r = hitI f r := by unfold hitE; rw [if_pos hf, if_pos h1]; rfl
  cases hh : (rows r).find? (hitW f) with
  | none =>
    right
    have hp : hitP f (rows r) = none := by unfold hitP; rw [hh]; rfl
    refine ⟨by rw [hE, hitI_n hp], fun p hp => ?_⟩
    have hp' := inR_row.1 ((tight_in h3 p).1 hp)
    have hm : rowOf r p.x ∈ rows r := mem_rows.2 ⟨hp'.1, rfl, by omega⟩
    have := List.find?_eq_none.1 hh _ hm
    cases hc : inF f p with
    | false => rfl
    | true => exact absurd (hitW_iff.2 ⟨p.y, hp'.2, hc⟩) this
  | some w =>
    left
    have hp : hitP f (rows r) = some ⟨w.x, (cutsW (sidesL f) w).a⟩ := by unfold hitP; rw [hh]; rfl
    obtain ⟨hw, pre, post, e, hpre⟩ := List.find?_eq_some_iff_append.1 hh
    have hwm : w ∈ rows r := by rw [e]; simp
    obtain ⟨m1, m2, m3⟩ := mem_rows.1 hwm
    have hle : (cutsW (sidesL f) w).a ≤ (cutsW (sidesL f) w).b := of_decide_eq_true hw
    have hin := (cuts_iff (sidesL f) w (cutsW (sidesL f) w).a).1 ⟨Int.le_refl _, hle⟩
    have hR : inR r ⟨w.x, (cutsW (sidesL f) w).a⟩ := inR_row.2 ⟨m1, by rw [← m2]; exact hin.1.1, by rw [← m2]; exact hin.1.2⟩
    refine ⟨_, by rw [hE, hitI_s hp], has_in h1 hR, ok_inR h1 hR, inF_iff.2 hin.2, fun p hp hfp => ?_⟩
    have hp' := inR_row.1 ((tight_in h3 p).1 hp)
    have hm : rowOf r p.x ∈ rows r := mem_rows.2 ⟨hp'.1, rfl, by omega⟩
    have hhit : hitW f (rowOf r p.x) = true := hitW_iff.2 ⟨p.y, hp'.2, hfp⟩
    rw [e] at hm
    rcases List.mem_append.1 hm with hm | hm
    · have := hpre _ hm
      rw [hhit] at this; cases this
    · rcases List.mem_cons.1 hm with hm | hm
      · right
        have hx : w.x = p.x := by rw [← hm]; rfl
        refine ⟨hx, ?_⟩
        have := ((cuts_iff (sidesL f) w p.y).2 ⟨by rw [← hm]; exact hp'.2, by rw [hx]; exact inF_iff.1 hfp⟩).1
        exact this
      · left
        have := rows_lt r r.x.len pre post w (by unfold rows at e; exact e) _ hm
        exact this
/-- The ends of rows are enough for a field. -/
theorem covers_cases {f : List Pt} {r t : Rg} (hf : fieldB f = true) (h1 : r.ok) (h3 : tightP r = some t) : ∃ c, coversE f r = (c, 0) ∧ (c = true → ∀ p, inR t p → inF f p = true) := by
  have hne : endsOf r ≠ [] := by
    intro e
    have hn : tightP r = none := by unfold tightP; rw [hullP_none]; exact e
    rw [hn] at h3; cases h3
  refine ⟨(endsOf r).all (inF f), by unfold coversE; rw [if_pos hf, if_pos h1, if_neg hne], fun hc p hp => ?_⟩
  have hp' := (tight_in h3 p).1 hp
  obtain ⟨e1, e2⟩ := row_ends hp'
  have hr := inR_row.1 hp'
  have a1 := inF_iff.1 (List.all_eq_true.1 hc _ e1)
  have a2 := inF_iff.1 (List.all_eq_true.1 hc _ e2)
  refine inF_iff.2 fun s hs => ?_
  have b1 := a1 s hs
  have b2 := a2 s hs
  have hb := mul_between (k := cutK s.1 s.2) hr.2.1 hr.2.2
  have e3 := turn_row s.1 s.2 p.x p.y
  rw [turn_row] at b1 b2
  rw [show (⟨p.x, p.y⟩ : Pt) = p from rfl] at e3
  rw [e3]
  omega
theorem inE_ok {f : List Pt} {p : Pt} (hf : fieldB f = true) (hp : p.ok) : inE f p = (inF f p, 0) := by unfold inE; rw [if_pos hf, if_pos hp]
/-- Halfway between two places of a field. -/
theorem half_in {f : List Pt} {p q h : Pt} (hp : inF f p = true) (hq : inF f q = true) (hx : 2 * h.x = p.x + q.x) (hy : 2 * h.y = p.y + q.y) : inF f h = true := by
  refine inF_iff.2 fun s hs => ?_
  have a1 := inF_iff.1 hp s hs
  have a2 := inF_iff.1 hq s hs
  unfold turnP at *
  have e1 : 2 * ((s.2.x - s.1.x) * (h.y - s.1.y)) = (s.2.x - s.1.x) * (p.y - s.1.y) + (s.2.x - s.1.x) * (q.y - s.1.y) := by
    rw [← Int.mul_add, Int.mul_left_comm]; congr 1; omega
  have e2 : 2 * ((s.2.y - s.1.y) * (h.x - s.1.x)) = (s.2.y - s.1.y) * (p.x - s.1.x) + (s.2.y - s.1.y) * (q.x - s.1.x) := by
    rw [← Int.mul_add, Int.mul_left_comm]; congr 1; omega
  omega
end Go.Proofs.Ytffpfcomikcimaa
