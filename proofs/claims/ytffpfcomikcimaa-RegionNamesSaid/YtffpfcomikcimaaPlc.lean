/-
  Plain Lean: what hulls and tight regions are. No condition, no program.
-/
import Derived.Test.YtffpfcomikcimaaPlb
namespace Go.Proofs.Ytffpfcomikcimaa

/-- A region is the tight one of some points. -/
structure Tot (l : List Pt) (t : Rg) : Prop where
  mem : ∀ p ∈ l, inR t p
  xlo : ∃ p ∈ l, p.x = t.x.lo
  xhi : ∃ p ∈ l, p.x = t.x.hi
  ylo : ∃ p ∈ l, p.y = t.y.lo
  yhi : ∃ p ∈ l, p.y = t.y.hi
  slo : ∃ p ∈ l, p.x + p.y = t.s.lo
  shi : ∃ p ∈ l, p.x + p.y = t.s.hi
  dlo : ∃ p ∈ l, p.x - p.y = t.d.lo
  dhi : ∃ p ∈ l, p.x - p.y = t.d.hi

theorem Tot.one (p : Pt) : Tot [p] ((ofP p).map2 Bd.span (ofP p)) := by
  refine ⟨fun q hq => ?_, ?_, ?_, ?_, ?_, ?_, ?_, ?_, ?_⟩
  · rw [List.mem_singleton.1 hq]; unfold inR ofP Rg.map2 Bd.span; simp only; omega
  all_goals exact ⟨p, by simp, by simp only [ofP, Rg.map2, Bd.span]; omega⟩

theorem pick_min {l : List Pt} {q : Pt} (f : Pt → Int) {a : Int} (h : ∃ p ∈ l, f p = a) : ∃ p ∈ l ++ [q], f p = min a (f q) := by
  obtain ⟨p, hp, e⟩ := h
  rcases Int.le_total a (f q) with h1 | h1
  · exact ⟨p, by simp [hp], by omega⟩
  · exact ⟨q, by simp, by omega⟩
theorem pick_max {l : List Pt} {q : Pt} (f : Pt → Int) {a : Int} (h : ∃ p ∈ l, f p = a) : ∃ p ∈ l ++ [q], f p = max a (f q) := by
  obtain ⟨p, hp, e⟩ := h
  rcases Int.le_total a (f q) with h1 | h1
  · exact ⟨q, by simp, by omega⟩
  · exact ⟨p, by simp [hp], by omega⟩

theorem Tot.snoc {l : List Pt} {t : Rg} (h : Tot l t) (q : Pt) : Tot (l ++ [q]) (t.map2 Bd.span (ofP q)) := by
  refine ⟨fun p hp => ?_, pick_min Pt.x h.xlo, pick_max Pt.x h.xhi, pick_min Pt.y h.ylo, pick_max Pt.y h.yhi, pick_min (fun p => p.x + p.y) h.slo, pick_max (fun p => p.x + p.y) h.shi, pick_min (fun p => p.x - p.y) h.dlo, pick_max (fun p => p.x - p.y) h.dhi⟩
  rcases List.mem_append.1 hp with hp | hp
  · have := h.mem p hp
    unfold inR ofP Rg.map2 Bd.span at *; simp only; omega
  · rw [List.mem_singleton.1 hp]; unfold inR ofP Rg.map2 Bd.span; simp only; omega

theorem tot_fold : ∀ (l pre : List Pt) (g t : Rg), Tot pre g → l.foldl addP (some g) = some t → Tot (pre ++ l) t
  | [], pre, g, t, h, e => by simp at e; subst e; simpa using h
  | q :: l, pre, g, t, h, e => by
    have := tot_fold l (pre ++ [q]) _ t (h.snoc q) e
    simpa using this
theorem hullP_tot {l : List Pt} {t : Rg} (h : hullP l = some t) : Tot l t := by
  cases l with
  | nil => simp [hullP] at h
  | cons q l => exact tot_fold l [q] _ t (Tot.one q) h
theorem fold_some : ∀ (l : List Pt) (g : Rg), ∃ t, l.foldl addP (some g) = some t
  | [], g => ⟨g, rfl⟩
  | _ :: l, _ => fold_some l _
theorem hullP_none {l : List Pt} : hullP l = none ↔ l = [] := by
  cases l with
  | nil => simp [hullP]
  | cons q l =>
    obtain ⟨t, h⟩ := fold_some l ((ofP q).map2 Bd.span (ofP q))
    have h2 : hullP (q :: l) = some t := h
    simp [h2]
/-- The tight region of a list is one alone. -/
theorem Tot.uniq {l l' : List Pt} {t t' : Rg} (h : Tot l t) (h' : Tot l' t') (e : ∀ p, p ∈ l ↔ p ∈ l') : t = t' := by
  have key : ∀ {l l' : List Pt} {t t' : Rg}, Tot l t → Tot l' t' → (∀ p, p ∈ l → p ∈ l') → (t'.x.lo ≤ t.x.lo ∧ t.x.hi ≤ t'.x.hi) ∧ (t'.y.lo ≤ t.y.lo ∧ t.y.hi ≤ t'.y.hi) ∧ (t'.s.lo ≤ t.s.lo ∧ t.s.hi ≤ t'.s.hi) ∧ (t'.d.lo ≤ t.d.lo ∧ t.d.hi ≤ t'.d.hi) := by
    intro l l' t t' h h' e
    obtain ⟨p1, m1, e1⟩ := h.xlo
    obtain ⟨p2, m2, e2⟩ := h.xhi
    obtain ⟨p3, m3, e3⟩ := h.ylo
    obtain ⟨p4, m4, e4⟩ := h.yhi
    obtain ⟨p5, m5, e5⟩ := h.slo
    obtain ⟨p6, m6, e6⟩ := h.shi
    obtain ⟨p7, m7, e7⟩ := h.dlo
    obtain ⟨p8, m8, e8⟩ := h.dhi
    have := h'.mem p1 (e _ m1)
    have := h'.mem p2 (e _ m2)
    have := h'.mem p3 (e _ m3)
    have := h'.mem p4 (e _ m4)
    have := h'.mem p5 (e _ m5)
    have := h'.mem p6 (e _ m6)
    have := h'.mem p7 (e _ m7)
    have := h'.mem p8 (e _ m8)
    unfold inR at *
    refine ⟨⟨?_, ?_⟩, ⟨?_, ?_⟩, ⟨?_, ?_⟩, ⟨?_, ?_⟩⟩ <;> omega
  have k1 := key h h' (fun p => (e p).1)
  have k2 := key h' h (fun p => (e p).2)
  obtain ⟨⟨a1, a2⟩, ⟨b1, b2⟩, ⟨c1, c2⟩, d1, d2⟩ := k1
  obtain ⟨⟨a3, a4⟩, ⟨b3, b4⟩, ⟨c3, c4⟩, d3, d4⟩ := k2
  have ex : ∀ (a b : Bd), a.lo = b.lo → a.hi = b.hi → a = b := fun a b h1 h2 => by cases a; cases b; simp_all
  have hx := ex t.x t'.x (by omega) (by omega)
  have hy := ex t.y t'.y (by omega) (by omega)
  have hs := ex t.s t'.s (by omega) (by omega)
  have hd := ex t.d t'.d (by omega) (by omega)
  cases t; cases t'; simp_all

/-! ### Tight regions -/
theorem tight_tot {r t : Rg} (h : tightP r = some t) : Tot (endsOf r) t := hullP_tot h
theorem ends_in {r : Rg} {p : Pt} (h : p ∈ endsOf r) : inR r p := (mem_ends.1 h).1
theorem Tot.sub {l : List Pt} {r t : Rg} (h : Tot l t) (hr : ∀ p ∈ l, inR r p) : (r.x.lo ≤ t.x.lo ∧ t.x.lo ≤ t.x.hi ∧ t.x.hi ≤ r.x.hi) ∧ (r.y.lo ≤ t.y.lo ∧ t.y.lo ≤ t.y.hi ∧ t.y.hi ≤ r.y.hi) ∧ (r.s.lo ≤ t.s.lo ∧ t.s.lo ≤ t.s.hi ∧ t.s.hi ≤ r.s.hi) ∧ (r.d.lo ≤ t.d.lo ∧ t.d.lo ≤ t.d.hi ∧ t.d.hi ≤ r.d.hi) := by
  obtain ⟨p1, m1, e1⟩ := h.xlo
  obtain ⟨p2, m2, e2⟩ := h.xhi
  obtain ⟨p3, m3, e3⟩ := h.ylo
  obtain ⟨p4, m4, e4⟩ := h.yhi
  obtain ⟨p5, m5, e5⟩ := h.slo
  obtain ⟨p6, m6, e6⟩ := h.shi
  obtain ⟨p7, m7, e7⟩ := h.dlo
  obtain ⟨p8, m8, e8⟩ := h.dhi
  have a1 := hr _ m1
  have a2 := hr _ m2
  have a3 := hr _ m3
  have a4 := hr _ m4
  have a5 := hr _ m5
  have a6 := hr _ m6
  have a7 := hr _ m7
  have a8 := hr _ m8
  have b := h.mem p1 m1
  unfold inR at *
  refine ⟨⟨?_, ?_, ?_⟩, ⟨?_, ?_, ?_⟩, ⟨?_, ?_, ?_⟩, ?_, ?_, ?_⟩ <;> omega
theorem tight_sub {r t : Rg} (h : tightP r = some t) : (r.x.lo ≤ t.x.lo ∧ t.x.lo ≤ t.x.hi ∧ t.x.hi ≤ r.x.hi) ∧ (r.y.lo ≤ t.y.lo ∧ t.y.lo ≤ t.y.hi ∧ t.y.hi ≤ r.y.hi) ∧ (r.s.lo ≤ t.s.lo ∧ t.s.lo ≤ t.s.hi ∧ t.s.hi ≤ r.s.hi) ∧ (r.d.lo ≤ t.d.lo ∧ t.d.lo ≤ t.d.hi ∧ t.d.hi ≤ r.d.hi) :=
  (tight_tot h).sub fun _ hp => ends_in hp
theorem tight_sm {r t : Rg} {m : Int} (h : tightP r = some t) (hs : r.sm m) : t.sm m := by
  have := tight_sub h; unfold Rg.sm Bd.sm at *; omega
theorem tight_ok {r t : Rg} (h : tightP r = some t) (hs : r.ok) : t.ok := by
  have := tight_sub h; unfold Rg.ok Bd.fits at *; omega
/-- The ends of a point's row. -/
theorem row_ends {r : Rg} {p : Pt} (h : inR r p) : (⟨p.x, (rowOf r p.x).a⟩ : Pt) ∈ endsOf r ∧ (⟨p.x, (rowOf r p.x).b⟩ : Pt) ∈ endsOf r := by
  have h1 := inR_row.1 h
  constructor
  · refine mem_ends.2 ⟨inR_row.2 ⟨h1.1, ?_, ?_⟩, .inl rfl⟩ <;> simp only <;> omega
  · refine mem_ends.2 ⟨inR_row.2 ⟨h1.1, ?_, ?_⟩, .inr rfl⟩ <;> simp only <;> omega
theorem in_between {t : Rg} {x a b y : Int} (ha : inR t ⟨x, a⟩) (hb : inR t ⟨x, b⟩) (h1 : a ≤ y) (h2 : y ≤ b) : inR t ⟨x, y⟩ := by
  unfold inR at *; simp only at *; omega
theorem tight_in {r t : Rg} (h : tightP r = some t) (p : Pt) : inR t p ↔ inR r p := by
  constructor
  · intro hp
    have := tight_sub h
    unfold inR at *; omega
  · intro hp
    obtain ⟨h1, h2⟩ := row_ends hp
    have h3 := inR_row.1 hp
    exact in_between ((tight_tot h).mem _ h1) ((tight_tot h).mem _ h2) h3.2.1 h3.2.2
theorem tight_none {r : Rg} : tightP r = none ↔ ∀ p, ¬ inR r p := by
  unfold tightP; rw [hullP_none]
  constructor
  · intro h p hp
    have := (row_ends hp).1; rw [h] at this; cases this
  · intro h
    cases he : endsOf r with
    | nil => rfl
    | cons p l => exact (h p (ends_in (by rw [he]; simp))).elim
theorem endsOf_nil {r : Rg} (h : tightP r = none) : endsOf r = [] := hullP_none.1 h

/-! ### What the functions compute -/
def chk2 (a b : Rg) : Int := if a.ok ∧ b.ok then 0 else 11
theorem chk2_zero {a b : Rg} : chk2 a b = 0 ↔ a.ok ∧ b.ok := by unfold chk2; split <;> simp_all
def meetE (a b : Rg) : RE := if chk2 a b = 0 then optE (tightP (a.map2 Bd.cut b)) else (zR, chk2 a b)
def joinE (a b : Rg) : RE := if chk2 a b = 0 then optE (hullP (endsOf a ++ endsOf b)) else (zR, chk2 a b)
/-- Two tight regions, and the error. -/
def twoE (a b : Rg) : Rg × Rg × Int := if chk2 a b = 0 then (match tightP a, tightP b with | some x, some y => (x, y, 0) | _, _ => (zR, zR, 4)) else (zR, zR, chk2 a b)
def insideE (f : Rg) : RE := if f.x.fits 32768 ∧ f.y.fits 32768 then (f, 0) else (zR, 7)
def sumE (a b : Rg) : RE := if (twoE a b).2.2 = 0 then insideE ((twoE a b).1.map2 Bd.plus (twoE a b).2.1) else (zR, (twoE a b).2.2)
def minusE (a b : Rg) : RE := if (twoE a b).2.2 = 0 then insideE ((twoE a b).1.map2 Bd.minus (twoE a b).2.1) else (zR, (twoE a b).2.2)
def Pt.okV (p : Pt) : Prop := (-65536 ≤ p.x ∧ p.x ≤ 65536) ∧ (-65536 ≤ p.y ∧ p.y ≤ 65536)
instance (p : Pt) : Decidable p.okV := by unfold Pt.okV; exact inferInstance
def moveE (r : Rg) (v : Pt) : RE := if r.ok then (if v.okV then (match tightP r with | some x => insideE (x.map2 Bd.plus (ofP v)) | none => (zR, 4)) else (zR, 7)) else (zR, 11)
def sweptE (r : Rg) (u v : Pt) : RE := if (moveE r u).2 = 0 then (if (moveE r v).2 = 0 then joinE (moveE r u).1 (moveE r v).1 else (zR, (moveE r v).2)) else (zR, (moveE r u).2)
theorem cut_sm {a b : Rg} {m : Int} (ha : a.sm m) (hb : b.sm m) : (a.map2 Bd.cut b).sm m := by
  unfold Rg.sm Bd.sm Rg.map2 Bd.cut at *; simp only; omega
theorem plus_sm {a b : Rg} {m n : Int} (ha : a.sm m) (hb : b.sm n) : (a.map2 Bd.plus b).sm (m + n) := by
  unfold Rg.sm Bd.sm Rg.map2 Bd.plus at *; simp only; omega
theorem minus_sm {a b : Rg} {m n : Int} (ha : a.sm m) (hb : b.sm n) : (a.map2 Bd.minus b).sm (m + n) := by
  unfold Rg.sm Bd.sm Rg.map2 Bd.minus at *; simp only; omega
theorem zR_sm : zR.sm 65536 := by unfold Rg.sm Bd.sm zR; simp only; omega
theorem twoE_sm (a b : Rg) : (twoE a b).1.sm 65536 ∧ (twoE a b).2.1.sm 65536 := by
  unfold twoE
  split
  · rename_i h
    have h := chk2_zero.1 h
    split
    · rename_i x y hx hy
      exact ⟨tight_sm hx h.1.sm, tight_sm hy h.2.sm⟩
    · exact ⟨zR_sm, zR_sm⟩
  · exact ⟨zR_sm, zR_sm⟩
theorem ofP_sm {p : Pt} (h : p.okV) : (ofP p).sm 131072 := by unfold Pt.okV at h; unfold Rg.sm Bd.sm ofP; simp only; omega
end Go.Proofs.Ytffpfcomikcimaa
