/-
  Plain Lean: sums, moved and widened regions, squared distances, fields: what the statements about regions say outright. No condition, no program.
-/
import Derived.Test.YtffpfcomikcimaaPll
namespace Go.Proofs.Ytffpfcomikcimaa

/-! ### Squared distances -/
def d2 (p q : Pt) : Int := (q.x - p.x) * (q.x - p.x) + (q.y - p.y) * (q.y - p.y)
def SqSpec (l : List Bd) : Option Bd → Prop
  | none => l = []
  | some b => (∀ i ∈ l, b.lo ≤ i.lo ∧ i.hi ≤ b.hi) ∧ (∃ i ∈ l, i.lo = b.lo) ∧ (∃ i ∈ l, i.hi = b.hi)
theorem SqSpec.snoc {l : List Bd} {o : Option Bd} (h : SqSpec l o) (i : Bd) : SqSpec (l ++ [i]) (sqS o i) := by
  cases o with
  | none =>
    have h : l = [] := h
    subst h
    show (∀ j ∈ [i], (i.span i).lo ≤ j.lo ∧ j.hi ≤ (i.span i).hi) ∧ (∃ j ∈ [i], j.lo = (i.span i).lo) ∧ (∃ j ∈ [i], j.hi = (i.span i).hi)
    refine ⟨fun j hj => ?_, ⟨i, by simp, ?_⟩, ⟨i, by simp, ?_⟩⟩
    · rw [List.mem_singleton.1 hj]; unfold Bd.span; simp only; omega
    · unfold Bd.span; simp only; omega
    · unfold Bd.span; simp only; omega
  | some b =>
    obtain ⟨h1, ⟨j, h2, h3⟩, k, h4, h5⟩ := h
    show (∀ j ∈ l ++ [i], (b.span i).lo ≤ j.lo ∧ j.hi ≤ (b.span i).hi) ∧ (∃ j ∈ l ++ [i], j.lo = (b.span i).lo) ∧ (∃ j ∈ l ++ [i], j.hi = (b.span i).hi)
    unfold Bd.span
    simp only
    refine ⟨fun m hm => ?_, ?_, ?_⟩
    · rcases List.mem_append.1 hm with hm | hm
      · have := h1 m hm; omega
      · rw [List.mem_singleton.1 hm]; omega
    · rcases Int.le_total b.lo i.lo with hle | hle
      · exact ⟨j, by simp [h2], by omega⟩
      · exact ⟨i, by simp, by omega⟩
    · rcases Int.le_total b.hi i.hi with hle | hle
      · exact ⟨i, by simp, by omega⟩
      · exact ⟨k, by simp [h4], by omega⟩
theorem SqSpec.fold : ∀ (l pre : List Bd) (o : Option Bd), SqSpec pre o → SqSpec (pre ++ l) (l.foldl sqS o)
  | [], pre, o, h => by simpa using h
  | i :: l, pre, o, h => by
    have := SqSpec.fold l (pre ++ [i]) _ (h.snoc i)
    simpa using this
theorem sqL_spec (l : List Bd) : SqSpec l (sqL l) := SqSpec.fold l [] none rfl
theorem sq_abs_le {a b : Int} (h : -b ≤ a ∧ a ≤ b) : a * a ≤ b * b := by
  rcases Int.le_total 0 a with h0 | h0
  · exact sq_mono h0 h.2
  · have := sq_mono (show 0 ≤ -a by omega) (show -a ≤ b by omega)
    rw [Int.neg_mul_neg] at this; exact this
/-- Within a row the nearest and the farthest point. -/
theorem sqI_in {p q : Pt} {w : Rw} (hx : q.x = w.x) (h1 : w.a ≤ q.y) (h2 : q.y ≤ w.b) : (sqI p w).lo ≤ d2 p q ∧ d2 p q ≤ (sqI p w).hi := by
  unfold sqI d2 nearY
  simp only
  rw [hx]
  have key1 : (max w.a (min p.y w.b) - p.y) * (max w.a (min p.y w.b) - p.y) ≤ (q.y - p.y) * (q.y - p.y) := by
    rcases Int.le_total 0 (max w.a (min p.y w.b) - p.y) with h0 | h0
    · rcases Int.lt_or_le 0 (max w.a (min p.y w.b) - p.y) with h3 | h3
      · exact sq_mono h0 (by omega)
      · have e : max w.a (min p.y w.b) - p.y = 0 := by omega
        rw [e]; exact sq_nn _
    · rcases Int.lt_or_le (max w.a (min p.y w.b) - p.y) 0 with h3 | h3
      · have := sq_mono (show 0 ≤ -(max w.a (min p.y w.b) - p.y) by omega) (show -(max w.a (min p.y w.b) - p.y) ≤ -(q.y - p.y) by omega)
        rw [Int.neg_mul_neg, Int.neg_mul_neg] at this; exact this
      · have e : max w.a (min p.y w.b) - p.y = 0 := by omega
        rw [e]; exact sq_nn _
  have key2 : (q.y - p.y) * (q.y - p.y) ≤ max ((w.a - p.y) * (w.a - p.y)) ((w.b - p.y) * (w.b - p.y)) := by
    rcases Int.le_total 0 (q.y - p.y) with h0 | h0
    · have := sq_mono h0 (show q.y - p.y ≤ w.b - p.y by omega); omega
    · have := sq_mono (show 0 ≤ -(q.y - p.y) by omega) (show -(q.y - p.y) ≤ -(w.a - p.y) by omega)
      rw [Int.neg_mul_neg, Int.neg_mul_neg] at this; omega
  omega
theorem sqP_none {r : Rg} {p : Pt} : sqP r p = none ↔ tightP r = none := by
  have hs := sqL_spec ((rows r).map (sqI p))
  unfold sqP
  constructor
  · intro h
    rw [h] at hs
    refine tight_none.2 fun q hq => ?_
    have h1 := inR_row.1 hq
    have hm : rowOf r q.x ∈ rows r := mem_rows.2 ⟨h1.1, rfl, by omega⟩
    have hs : (rows r).map (sqI p) = [] := hs
    have : rows r = [] := by simpa using hs
    rw [this] at hm; cases hm
  · intro h
    cases e : sqL ((rows r).map (sqI p)) with
    | none => rfl
    | some b =>
      rw [e] at hs
      obtain ⟨_, ⟨i, hi, _⟩, _⟩ := hs
      obtain ⟨w, hw, _⟩ := List.mem_map.1 hi
      obtain ⟨h1, h2, h3⟩ := mem_rows.1 hw
      refine absurd (inR_row.2 ⟨h1, ?_, ?_⟩ : inR r ⟨w.x, w.a⟩) (tight_none.1 h _) <;> (rw [← h2]; simp only; omega)
theorem sqP_in {r : Rg} {p q : Pt} {b : Bd} (h : sqP r p = some b) (hq : inR r q) : b.lo ≤ d2 p q ∧ d2 p q ≤ b.hi := by
  have hs := sqL_spec ((rows r).map (sqI p))
  unfold sqP at h
  rw [h] at hs
  have h1 := inR_row.1 hq
  have hm : rowOf r q.x ∈ rows r := mem_rows.2 ⟨h1.1, rfl, by omega⟩
  have h2 := hs.1 _ (List.mem_map.2 ⟨_, hm, rfl⟩)
  have h3 := sqI_in (p := p) (w := rowOf r q.x) (q := q) rfl h1.2.1 h1.2.2
  omega
theorem sqP_lo {r : Rg} {p : Pt} {b : Bd} (h : sqP r p = some b) : ∃ q, inR r q ∧ d2 p q = b.lo := by
  have hs := sqL_spec ((rows r).map (sqI p))
  unfold sqP at h
  rw [h] at hs
  obtain ⟨_, ⟨i, hi, e⟩, _⟩ := hs
  obtain ⟨w, hw, rfl⟩ := List.mem_map.1 hi
  obtain ⟨h1, h2, h3⟩ := mem_rows.1 hw
  refine ⟨⟨w.x, max w.a (min p.y w.b)⟩, inR_row.2 ⟨h1, ?_, ?_⟩, ?_⟩
  · rw [← h2]; simp only; omega
  · rw [← h2]; simp only; omega
  · rw [← e]; rfl
theorem sqP_hi {r : Rg} {p : Pt} {b : Bd} (h : sqP r p = some b) : ∃ q, inR r q ∧ d2 p q = b.hi := by
  have hs := sqL_spec ((rows r).map (sqI p))
  unfold sqP at h
  rw [h] at hs
  obtain ⟨_, _, ⟨i, hi, e⟩⟩ := hs
  obtain ⟨w, hw, rfl⟩ := List.mem_map.1 hi
  obtain ⟨h1, h2, h3⟩ := mem_rows.1 hw
  unfold sqI at e
  simp only at e
  rcases Int.le_total ((w.a - p.y) * (w.a - p.y)) ((w.b - p.y) * (w.b - p.y)) with hle | hle
  · refine ⟨⟨w.x, w.b⟩, inR_row.2 ⟨h1, ?_, ?_⟩, ?_⟩
    · rw [← h2]; simp only; omega
    · rw [← h2]; simp only; omega
    · rw [← e]; unfold d2; simp only; omega
  · refine ⟨⟨w.x, w.a⟩, inR_row.2 ⟨h1, ?_, ?_⟩, ?_⟩
    · rw [← h2]; simp only; omega
    · rw [← h2]; simp only; omega
    · rw [← e]; unfold d2; simp only; omega
theorem sqP_some {r : Rg} {p q : Pt} (h : inR r q) : ∃ b, sqP r p = some b := by
  cases e : sqP r p with
  | none => exact absurd h (tight_none.1 (sqP_none.1 e) q)
  | some b => exact ⟨b, rfl⟩
/-- Squared distances from regions with the same places, moved or not. -/
theorem sqP_eq {r r' : Rg} {p p' : Pt} (v : Pt) (h : ∀ q, inR r q ↔ inR r' ⟨q.x + v.x, q.y + v.y⟩) (hp : p' = ⟨p.x + v.x, p.y + v.y⟩) : sqP r p = sqP r' p' := by
  subst hp
  have hd : ∀ q : Pt, d2 ⟨p.x + v.x, p.y + v.y⟩ ⟨q.x + v.x, q.y + v.y⟩ = d2 p q := fun q => by
    unfold d2; simp only
    rw [show q.x + v.x - (p.x + v.x) = q.x - p.x by omega, show q.y + v.y - (p.y + v.y) = q.y - p.y by omega]
  have hb : ∀ q, inR r' q → inR r ⟨q.x - v.x, q.y - v.y⟩ := fun q hq => (h _).2 (by simpa using hq)
  have hd' : ∀ q : Pt, d2 ⟨p.x + v.x, p.y + v.y⟩ q = d2 p ⟨q.x - v.x, q.y - v.y⟩ := fun q => by
    rw [← hd]; simp
  cases e : sqP r p with
  | none =>
    refine (sqP_none.2 (tight_none.2 fun q hq => ?_)).symm
    exact tight_none.1 (sqP_none.1 e) _ (hb q hq)
  | some b =>
    obtain ⟨q1, m1, e1⟩ := sqP_lo e
    obtain ⟨q2, m2, e2⟩ := sqP_hi e
    obtain ⟨b', e'⟩ := sqP_some (p := ⟨p.x + v.x, p.y + v.y⟩) ((h q1).1 m1)
    obtain ⟨q3, m3, e3⟩ := sqP_lo e'
    obtain ⟨q4, m4, e4⟩ := sqP_hi e'
    rw [e']
    have a1 := sqP_in e' ((h q1).1 m1)
    have a2 := sqP_in e' ((h q2).1 m2)
    have a3 := sqP_in e (hb q3 m3)
    have a4 := sqP_in e (hb q4 m4)
    rw [hd] at a1 a2
    rw [hd'] at e3 e4
    cases b; cases b'
    simp only at *
    congr 2 <;> omega

/-! ### Sums -/
theorem inR_plus {x y : Rg} {p q : Pt} (hp : inR x p) (hq : inR y q) : inR (x.map2 Bd.plus y) ⟨p.x + q.x, p.y + q.y⟩ := by
  unfold inR Rg.map2 Bd.plus at *; simp only; omega
theorem inR_minus {x y : Rg} {p q : Pt} (hp : inR x p) (hq : inR y q) : inR (x.map2 Bd.minus y) ⟨p.x - q.x, p.y - q.y⟩ := by
  unfold inR Rg.map2 Bd.minus at *; simp only; omega
/-- A sum within the plane is a valid region. -/
theorem plus_ok {x y : Rg} (hx : TotR x x) (hy : TotR y y) (h : (x.map2 Bd.plus y).x.fits 32768 ∧ (x.map2 Bd.plus y).y.fits 32768) : (x.map2 Bd.plus y).ok := by
  have k : ∀ p q : Pt, inR x p → inR y q → (-32768 ≤ p.x + q.x ∧ p.x + q.x ≤ 32768) ∧ (-32768 ≤ p.y + q.y ∧ p.y + q.y ≤ 32768) := fun p q hp hq => by
    have := inR_plus hp hq
    unfold Bd.fits at h
    unfold inR at this
    simp only at this
    omega
  obtain ⟨p5, m5, e5⟩ := hx.slo
  obtain ⟨p6, m6, e6⟩ := hx.shi
  obtain ⟨p7, m7, e7⟩ := hx.dlo
  obtain ⟨p8, m8, e8⟩ := hx.dhi
  obtain ⟨q5, n5, f5⟩ := hy.slo
  obtain ⟨q6, n6, f6⟩ := hy.shi
  obtain ⟨q7, n7, f7⟩ := hy.dlo
  obtain ⟨q8, n8, f8⟩ := hy.dhi
  refine ⟨h.1, h.2, ⟨?_, ?_, ?_⟩, ?_, ?_, ?_⟩
  · have := k p5 q5 m5 n5; show -65536 ≤ x.s.lo + y.s.lo; omega
  · have := (show x.s.lo ≤ p6.x + p6.y ∧ p5.x + p5.y ≤ x.s.hi from by unfold inR at m5 m6; omega); have := (show y.s.lo ≤ q6.x + q6.y ∧ q5.x + q5.y ≤ y.s.hi from by unfold inR at n5 n6; omega); show x.s.lo + y.s.lo ≤ x.s.hi + y.s.hi; omega
  · have := k p6 q6 m6 n6; show x.s.hi + y.s.hi ≤ 65536; omega
  · have := k p7 q7 m7 n7; show -65536 ≤ x.d.lo + y.d.lo; omega
  · have := (show x.d.lo ≤ p8.x - p8.y ∧ p7.x - p7.y ≤ x.d.hi from by unfold inR at m7 m8; omega); have := (show y.d.lo ≤ q8.x - q8.y ∧ q7.x - q7.y ≤ y.d.hi from by unfold inR at n7 n8; omega); show x.d.lo + y.d.lo ≤ x.d.hi + y.d.hi; omega
  · have := k p8 q8 m8 n8; show x.d.hi + y.d.hi ≤ 65536; omega
theorem minus_ok {x y : Rg} (hx : TotR x x) (hy : TotR y y) (h : (x.map2 Bd.minus y).x.fits 32768 ∧ (x.map2 Bd.minus y).y.fits 32768) : (x.map2 Bd.minus y).ok := by
  have k : ∀ p q : Pt, inR x p → inR y q → (-32768 ≤ p.x - q.x ∧ p.x - q.x ≤ 32768) ∧ (-32768 ≤ p.y - q.y ∧ p.y - q.y ≤ 32768) := fun p q hp hq => by
    have := inR_minus hp hq
    unfold Bd.fits at h
    unfold inR at this
    simp only at this
    omega
  obtain ⟨p5, m5, e5⟩ := hx.slo
  obtain ⟨p6, m6, e6⟩ := hx.shi
  obtain ⟨p7, m7, e7⟩ := hx.dlo
  obtain ⟨p8, m8, e8⟩ := hx.dhi
  obtain ⟨q5, n5, f5⟩ := hy.slo
  obtain ⟨q6, n6, f6⟩ := hy.shi
  obtain ⟨q7, n7, f7⟩ := hy.dlo
  obtain ⟨q8, n8, f8⟩ := hy.dhi
  refine ⟨h.1, h.2, ⟨?_, ?_, ?_⟩, ?_, ?_, ?_⟩
  · have := k p5 q6 m5 n6; show -65536 ≤ x.s.lo - y.s.hi; omega
  · have := (show x.s.lo ≤ p6.x + p6.y ∧ p5.x + p5.y ≤ x.s.hi from by unfold inR at m5 m6; omega); have := (show y.s.lo ≤ q6.x + q6.y ∧ q5.x + q5.y ≤ y.s.hi from by unfold inR at n5 n6; omega); show x.s.lo - y.s.hi ≤ x.s.hi - y.s.lo; omega
  · have := k p6 q5 m6 n5; show x.s.hi - y.s.lo ≤ 65536; omega
  · have := k p7 q8 m7 n8; show -65536 ≤ x.d.lo - y.d.hi; omega
  · have := (show x.d.lo ≤ p8.x - p8.y ∧ p7.x - p7.y ≤ x.d.hi from by unfold inR at m7 m8; omega); have := (show y.d.lo ≤ q8.x - q8.y ∧ q7.x - q7.y ≤ y.d.hi from by unfold inR at n7 n8; omega); show x.d.lo - y.d.hi ≤ x.d.hi - y.d.lo; omega
  · have := k p8 q7 m8 n7; show x.d.hi - y.d.lo ≤ 65536; omega
theorem totR_ofP (v : Pt) : TotR (ofP v) (ofP v) := by
  have h : inR (ofP v) v := by unfold inR ofP; simp
  exact ⟨fun _ h => h, ⟨v, h, rfl⟩, ⟨v, h, rfl⟩, ⟨v, h, rfl⟩, ⟨v, h, rfl⟩, ⟨v, h, rfl⟩, ⟨v, h, rfl⟩, ⟨v, h, rfl⟩, ⟨v, h, rfl⟩⟩
theorem twoE_of {a b x y : Rg} (ha : a.ok) (hb : b.ok) (hx : tightP a = some x) (hy : tightP b = some y) : twoE a b = (x, y, 0) := by
  unfold twoE; rw [if_pos (chk2_zero.2 ⟨ha, hb⟩), hx, hy]
theorem tightE_dec {r t : Rg} {e : Int} (h : tightE r = (t, e)) (he : e = 0) : r.ok ∧ tightP r = some t := by
  subst he
  unfold tightE at h
  split at h
  · rename_i hok
    refine ⟨hok, ?_⟩
    unfold optE errO at h
    cases ht : tightP r with
    | none => rw [ht] at h; simp at h
    | some u => rw [ht] at h; simp at h; rw [h]
  · simp at h

/-! ### Moved regions -/
theorem inR_move {x : Rg} {v p : Pt} : inR (x.map2 Bd.plus (ofP v)) ⟨p.x + v.x, p.y + v.y⟩ ↔ inR x p := by
  unfold inR Rg.map2 Bd.plus ofP; simp only; omega
theorem totR_move {x : Rg} (h : TotR x x) (v : Pt) : TotR (x.map2 Bd.plus (ofP v)) (x.map2 Bd.plus (ofP v)) := by
  have f : ∀ {g : Pt → Int} {a b : Int}, (∃ p, inR x p ∧ g p = a) → (∀ p : Pt, g p = a → g ⟨p.x + v.x, p.y + v.y⟩ = b) → ∃ p, inR (x.map2 Bd.plus (ofP v)) p ∧ g p = b :=
    fun ⟨p, h1, h2⟩ h3 => ⟨_, inR_move.2 h1, h3 p h2⟩
  refine ⟨fun _ h => h, f (g := Pt.x) h.xlo ?_, f (g := Pt.x) h.xhi ?_, f (g := Pt.y) h.ylo ?_, f (g := Pt.y) h.yhi ?_, f (g := fun p => p.x + p.y) h.slo ?_, f (g := fun p => p.x + p.y) h.shi ?_, f (g := fun p => p.x - p.y) h.dlo ?_, f (g := fun p => p.x - p.y) h.dhi ?_⟩
  all_goals (intro p hp; simp only [Rg.map2, Bd.plus, ofP] at *; omega)
theorem totR_tight {t : Rg} (h : TotR t t) : tightP t = some t := by
  obtain ⟨p, hp, _⟩ := h.xlo
  obtain ⟨u, hu⟩ := tight_some hp
  rw [hu, (tight_totR hu).uniq h (fun _ => Iff.rfl)]
theorem rows_move {x : Rg} (v : Pt) : rows (x.map2 Bd.plus (ofP v)) = (rows x).map fun w => ⟨w.x + v.x, w.a + v.y, w.b + v.y⟩ := by
  have e1 : (x.map2 Bd.plus (ofP v)).x.len = x.x.len := by unfold Bd.len Rg.map2 Bd.plus ofP; simp only; omega
  have e2 : (x.map2 Bd.plus (ofP v)).x.lo = x.x.lo + v.x := rfl
  have e3 : ∀ n, xsF (x.x.lo + v.x) n = (xsF x.x.lo n).map (· + v.x) := by
    intro n
    induction n with
    | zero => rfl
    | succ n ih => simp only [xsF]; rw [ih, List.map_append]; congr 1; simp only [List.map_cons, List.map_nil, List.cons.injEq, and_true]; omega
  unfold rows rowsN
  rw [e1, e2, e3, List.flatMap_map, List.map_flatMap]
  refine flat_congr fun z _ => ?_
  have e4 : rowOf (x.map2 Bd.plus (ofP v)) (z + v.x) = ⟨(rowOf x z).x + v.x, (rowOf x z).a + v.y, (rowOf x z).b + v.y⟩ := by
    unfold rowOf Rg.map2 Bd.plus ofP; simp only
    congr 1 <;> omega
  unfold rowL
  rw [e4]
  simp only
  by_cases h : (rowOf x z).a ≤ (rowOf x z).b
  · rw [if_pos (by omega), if_pos h]; rfl
  · rw [if_neg (by omega), if_neg h]; rfl
theorem cnt_move {x : Rg} (v : Pt) : cntF (rows (x.map2 Bd.plus (ofP v))) = cntF (rows x) := by
  rw [rows_move]
  generalize rows x = l
  induction l with
  | nil => rfl
  | cons w l ih => rw [List.map_cons, cntF_cons, cntF_cons, ih]; simp only; omega

/-! ### Swept regions -/
theorem between {a b k m s : Int} (hk : 0 ≤ k ∧ k ≤ m) (h1 : a ≤ b) (h2 : a ≤ b + m * s) : a ≤ b + k * s := by
  rcases Int.le_total 0 s with h0 | h0
  · have := Int.mul_nonneg hk.1 h0; omega
  · have : m * s ≤ k * s := Int.mul_le_mul_of_nonpos_right hk.2 h0
    omega
theorem between' {a b k m s : Int} (hk : 0 ≤ k ∧ k ≤ m) (h1 : b ≤ a) (h2 : b + m * s ≤ a) : b + k * s ≤ a := by
  have := between (a := -a) (b := -b) (s := -s) hk (by omega) (by rw [Int.mul_neg]; omega)
  rw [Int.mul_neg] at this; omega
theorem swept_in {w : Rg} {p s : Pt} {k m : Int} (hk : 0 ≤ k ∧ k ≤ m) (h1 : inR w p) (h2 : inR w ⟨p.x + m * s.x, p.y + m * s.y⟩) : inR w ⟨p.x + k * s.x, p.y + k * s.y⟩ := by
  unfold inR at *
  simp only at *
  have e1 : ∀ n : Int, p.x + n * s.x + (p.y + n * s.y) = p.x + p.y + n * (s.x + s.y) := fun n => by rw [Int.mul_add]; omega
  have e2 : ∀ n : Int, p.x + n * s.x - (p.y + n * s.y) = p.x - p.y + n * (s.x - s.y) := fun n => by rw [Int.mul_sub]; omega
  rw [e1, e2] at h2 ⊢
  obtain ⟨⟨a1, a2⟩, ⟨a3, a4⟩, ⟨a5, a6⟩, a7, a8⟩ := h1
  obtain ⟨⟨b1, b2⟩, ⟨b3, b4⟩, ⟨b5, b6⟩, b7, b8⟩ := h2
  exact ⟨⟨between hk a1 b1, between' hk a2 b2⟩, ⟨between hk a3 b3, between' hk a4 b4⟩, ⟨between hk a5 b5, between' hk a6 b6⟩, between hk a7 b7, between' hk a8 b8⟩

/-! ### Widened regions -/
theorem far_mono {n m : Int} (hn : 0 ≤ n) (h : n ≤ m) : farP n ≤ farP m := by
  obtain ⟨a1, a2, a3⟩ := farP_is hn
  obtain ⟨b1, b2, b3⟩ := farP_is (show 0 ≤ m by omega)
  rcases Int.lt_or_le (farP m) (farP n) with h1 | h1
  · have := b3 _ h1
    have := sq_mono hn h
    omega
  · exact h1
theorem far_zero : farP 0 = 0 := by decide
theorem far_vec {n x y : Int} (hn : 0 ≤ n) (h : x * x + y * y ≤ n * n) : -farP n ≤ x + y ∧ x + y ≤ farP n := by
  obtain ⟨_, _, b3⟩ := farP_is hn
  have key : ∀ a b : Int, 0 ≤ a → 0 ≤ b → a * a + b * b ≤ n * n → a + b ≤ farP n := by
    intro a b ha hb hab
    rcases Int.lt_or_le (farP n) (a + b) with h1 | h1
    · have := b3 _ h1
      have := half2_least ha hb
      omega
    · exact h1
  have ab : ∀ z : Int, ∃ a, 0 ≤ a ∧ a * a = z * z ∧ z ≤ a ∧ -z ≤ a := fun z => by
    rcases Int.le_total 0 z with h0 | h0
    · exact ⟨z, h0, rfl, Int.le_refl _, by omega⟩
    · exact ⟨-z, by omega, Int.neg_mul_neg z z, by omega, by omega⟩
  obtain ⟨a, a1, a2, a3, a4⟩ := ab x
  obtain ⟨b, b1, b2, b3', b4⟩ := ab y
  have := key a b a1 b1 (by omega)
  omega
theorem inR_wide {x : Rg} {p v : Pt} {n : Int} (hn : 0 ≤ n) (hp : inR x p) (hq : (⟨p.x + v.x, p.y + v.y⟩ : Pt).ok) (h1 : -n ≤ v.x ∧ v.x ≤ n) (h2 : -n ≤ v.y ∧ v.y ≤ n) (h3 : v.x * v.x + v.y * v.y ≤ n * n) : inR (wideR x n (farP n)) ⟨p.x + v.x, p.y + v.y⟩ := by
  have h4 := far_vec hn h3
  have h5 := far_vec (x := v.x) (y := -v.y) hn (by rw [Int.neg_mul_neg]; exact h3)
  unfold inR wideR Bd.wide intoI Pt.ok at *
  simp only at *
  omega
theorem wide_zero {x : Rg} (h : x.ok) : wideR x 0 (farP 0) = x := by
  rw [far_zero]
  unfold Rg.ok Bd.fits at h
  obtain ⟨⟨a, b⟩, ⟨c, d⟩, ⟨e, f⟩, ⟨g, i⟩⟩ := x
  unfold wideR Bd.wide intoI
  simp only at *
  congr 1 <;> congr 1 <;> omega
theorem wideB_sub {b : Bd} {n m l z : Int} (h : n ≤ m) (hz : (b.wide n l).lo ≤ z ∧ z ≤ (b.wide n l).hi) : (b.wide m l).lo ≤ z ∧ z ≤ (b.wide m l).hi := by
  unfold Bd.wide intoI at *; simp only at *; omega
theorem wideB_in {b : Bd} {n l z : Int} (hb : b.fits l) (hn : 0 ≤ n) (hz : b.lo ≤ z ∧ z ≤ b.hi) : (b.wide n l).lo ≤ z ∧ z ≤ (b.wide n l).hi := by
  unfold Bd.fits at hb; unfold Bd.wide intoI at *; simp only at *; omega
theorem wide_sub {x : Rg} {n m : Int} (hn : 0 ≤ n) (h : n ≤ m) {p : Pt} (hp : inR (wideR x n (farP n)) p) : inR (wideR x m (farP m)) p := by
  have hf := far_mono hn h
  obtain ⟨h1, h2, h3, h4⟩ := hp
  exact ⟨wideB_sub h h1, wideB_sub h h2, wideB_sub hf h3, wideB_sub hf h4⟩
theorem wide_in {x : Rg} {n : Int} {p : Pt} (hx : x.ok) (hn : 0 ≤ n) (hp : inR x p) : inR (wideR x n (farP n)) p := by
  have hf := (farP_is hn).1
  obtain ⟨h1, h2, h3, h4⟩ := hp
  obtain ⟨g1, g2, g3, g4⟩ := hx
  exact ⟨wideB_in g1 hn h1, wideB_in g2 hn h2, wideB_in g3 hf h3, wideB_in g4 hf h4⟩
theorem wideB_fits {b c : Bd} {n l : Int} (hl : 0 ≤ l) (h : (b.wide n l).lo ≤ c.lo ∧ c.lo ≤ c.hi ∧ c.hi ≤ (b.wide n l).hi) : c.fits l := by
  unfold Bd.fits; unfold Bd.wide intoI at h; simp only at h; omega
theorem wide_ok {x : Rg} {n : Int} {t : Rg} (ht : tightP (wideR x n (farP n)) = some t) : t.ok := by
  obtain ⟨h1, h2, h3, h4⟩ := tight_sub ht
  exact ⟨wideB_fits (by decide) h1, wideB_fits (by decide) h2, wideB_fits (by decide) h3, wideB_fits (by decide) h4⟩
end Go.Proofs.Ytffpfcomikcimaa
