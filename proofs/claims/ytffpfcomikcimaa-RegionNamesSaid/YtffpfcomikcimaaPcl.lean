/-
  Plain Lean: regions that contradict each other; four are enough. No condition, no program.
-/
import Derived.Test.YtffpfcomikcimaaPls
namespace Go.Proofs.Ytffpfcomikcimaa

theorem inR_cut {a b : Rg} {p : Pt} : inR (a.map2 Bd.cut b) p ↔ inR a p ∧ inR b p := by
  unfold inR Rg.map2 Bd.cut; simp only; omega
def allR : Rg := ⟨⟨-32768, 32768⟩, ⟨-32768, 32768⟩, ⟨-65536, 65536⟩, ⟨-65536, 65536⟩⟩
theorem inR_all {p : Pt} : inR allR p ↔ p.ok := by unfold inR allR Pt.ok; simp only; omega
theorem ok_inR {r : Rg} (h : r.ok) {p : Pt} (hp : inR r p) : p.ok := by unfold Rg.ok Bd.fits at h; unfold inR at hp; unfold Pt.ok; omega
theorem allR_ok : allR.ok := by decide
/-- The common bounds of some of the regions, by their indices. -/
def cutsOf (l : List Rg) (f : Rg) (js : List Nat) : Rg := js.foldl (fun f i => f.map2 Bd.cut (atR l i)) f
theorem inR_cuts (l : List Rg) : ∀ (js : List Nat) (f : Rg) (p : Pt), inR (cutsOf l f js) p ↔ inR f p ∧ ∀ j ∈ js, inR (atR l j) p
  | [], f, p => by simp [cutsOf]
  | j :: js, f, p => by
    have := inR_cuts l js (f.map2 Bd.cut (atR l j)) p
    simp only [cutsOf, List.foldl_cons] at this ⊢
    rw [this, inR_cut]
    simp only [List.mem_cons, forall_eq_or_imp]
    exact ⟨fun ⟨⟨h1, h2⟩, h3⟩ => ⟨h1, h2, h3⟩, fun ⟨h1, h2, h3⟩ => ⟨⟨h1, h2⟩, h3⟩⟩
/-- So many increasing indices from one on. -/
def Incr (n from_ : Nat) : List Nat → Prop
  | [] => True
  | j :: js => (from_ ≤ j ∧ j < n) ∧ Incr n (j + 1) js
theorem Incr.mono {n : Nat} : ∀ {js : List Nat} {a b : Nat}, a ≤ b → Incr n b js → Incr n a js
  | [], _, _, _, _ => True.intro
  | _ :: _, _, _, hab, h => ⟨⟨by have := h.1.1; omega, h.1.2⟩, h.2⟩
theorem Incr.mem {n : Nat} : ∀ {js : List Nat} {a : Nat}, Incr n a js → ∀ j ∈ js, a ≤ j ∧ j < n
  | _ :: js, a, h, j, hj => by
    rcases List.mem_cons.1 hj with rfl | hj
    · exact h.1
    · have := Incr.mem h.2 j hj
      have := h.1.1
      omega

theorem srch_some (l : List Rg) : ∀ (k : Nat) (f : Rg) (cs : List Int) (i : Nat) (out : List Int), srch l k f cs i = some out →
    ∃ js : List Nat, js.length = k ∧ Incr l.length i js ∧ out = cs ++ js.map (fun (j : Nat) => (j : Int)) ∧ tightP (cutsOf l f js) = none
  | 0, f, cs, i, out, h => by
    unfold srch at h
    split at h
    · cases h
    · rename_i hn
      cases h
      exact ⟨[], rfl, True.intro, by simp, by simpa [cutsOf] using hn⟩
  | k + 1, f, cs, i, out, h => by
    rw [srch, List.findSome?_eq_some_iff] at h
    obtain ⟨_, j, _, e, hj, _⟩ := h
    obtain ⟨js, h1, h2, h3, h4⟩ := srch_some l k _ _ _ _ hj
    have hlt : j < l.length - i := by
      have : j ∈ List.range (l.length - i) := by rw [e]; simp
      simpa using this
    refine ⟨(i + j) :: js, by simp [h1], ⟨⟨by omega, by omega⟩, h2⟩, by rw [h3]; simp, ?_⟩
    simpa [cutsOf] using h4
theorem srch_none (l : List Rg) : ∀ (k : Nat) (f : Rg) (cs : List Int) (i : Nat), srch l k f cs i = none →
    ∀ js : List Nat, js.length = k → Incr l.length i js → tightP (cutsOf l f js) ≠ none
  | 0, f, cs, i, h, js, hl, _ => by
    have : js = [] := List.length_eq_zero_iff.1 hl
    subst this
    unfold srch at h
    split at h
    · rename_i hs
      intro e
      simp only [cutsOf, List.foldl_nil] at e
      rw [e] at hs; cases hs
    · cases h
  | k + 1, f, cs, i, h, js, hl, hi => by
    cases js with
    | nil => cases hl
    | cons j js =>
      rw [srch, List.findSome?_eq_none_iff] at h
      have hj := h (j - i) (by simp only [List.mem_range]; have := hi.1; omega)
      have e : i + (j - i) = j := by have := hi.1; omega
      rw [e] at hj
      have := srch_none l k _ _ _ hj js (by simpa using hl) hi.2
      simpa [cutsOf] using this

/-- The clash of regions: the first list of the fewest. -/
def clP (l : List Rg) : Option (List Int) := (List.range (min 4 l.length)).findSome? fun j => srch l (j + 1) allR [] 0
def Common (l : List Rg) (p : Pt) : Prop := ∀ r ∈ l, inR r p

theorem atR_of {l : List Rg} {i : Nat} {z : Rg} (h : l[i]? = some z) : atR l i = z := by unfold atR; rw [h]; rfl
theorem atR_mem {l : List Rg} {i : Nat} (h : i < l.length) : atR l i ∈ l := by
  rw [atR_of (List.getElem?_eq_getElem h)]; exact List.getElem_mem h
theorem mem_atR {l : List Rg} {r : Rg} (h : r ∈ l) : ∃ i, i < l.length ∧ atR l i = r := by
  obtain ⟨i, hi, e⟩ := List.mem_iff_getElem.1 h
  exact ⟨i, hi, by rw [atR_of (List.getElem?_eq_getElem hi), e]⟩

/-- The greatest of a list's values is that of one. -/
theorem most_at {l : List Rg} (f : Rg → Int) (h : l ≠ []) : ∃ i, i < l.length ∧ ∀ r ∈ l, f r ≤ f (atR l i) := by
  induction l with
  | nil => exact absurd rfl h
  | cons a l ih =>
    by_cases hl : l = []
    · subst hl; exact ⟨0, by simp, by intro r hr; rw [List.mem_singleton.1 hr]; exact Int.le_refl _⟩
    · obtain ⟨i, hi, hm⟩ := ih hl
      have e : atR (a :: l) (i + 1) = atR l i := by simp [atR]
      rcases Int.le_total (f a) (f (atR l i)) with h1 | h1
      · refine ⟨i + 1, by simpa using hi, fun r hr => ?_⟩
        rw [e]
        rcases List.mem_cons.1 hr with rfl | hr
        · exact h1
        · exact hm r hr
      · refine ⟨0, by simp, fun r hr => ?_⟩
        have e0 : atR (a :: l) 0 = a := by simp [atR]
        rw [e0]
        rcases List.mem_cons.1 hr with rfl | hr
        · exact Int.le_refl _
        · exact Int.le_trans (hm r hr) h1

/-- Bounds between which no point lies contradict each other, four at most. -/
theorem no_point {xl xh yl yh sl sh dl dh : Int} (h : ∀ p : Pt, ¬ inR ⟨⟨xl, xh⟩, ⟨yl, yh⟩, ⟨sl, sh⟩, ⟨dl, dh⟩⟩ p) :
    (yh < yl ∨ sh < sl ∨ dh < dl) ∨
    (xh < xl ∨ sh - yl < xl ∨ yh + dh < xl ∨ sh + dh < 2 * xl) ∨
    (xh < yl + dl ∨ sh - yl < yl + dl ∨ yh + dh < yl + dl ∨ sh + dh < 2 * (yl + dl)) ∨
    (xh < sl - yh ∨ sh - yl < sl - yh ∨ yh + dh < sl - yh ∨ sh + dh < 2 * (sl - yh)) ∨
    (2 * xh < sl + dl ∨ 2 * (sh - yl) < sl + dl ∨ 2 * (yh + dh) < sl + dl ∨ (sh + dh) / 2 < (sl + dl + 1) / 2) := by
  refine Classical.byContradiction fun hn => ?_
  let x := max (max xl (yl + dl)) (max (sl - yh) ((sl + dl + 1) / 2))
  let y := max (max yl (sl - x)) (x - dh)
  refine h ⟨x, y⟩ ?_
  have hx : x = max (max xl (yl + dl)) (max (sl - yh) ((sl + dl + 1) / 2)) := rfl
  have hy : y = max (max yl (sl - x)) (x - dh) := rfl
  clear_value x y
  unfold inR
  simp only
  omega

theorem incr_filter (n : Nat) (J : List Nat) : ∀ (m a : Nat), a + m = n → Incr n a (((List.range m).map (a + ·)).filter fun i => decide (i ∈ J))
  | 0, a, _ => by simp [Incr]
  | m + 1, a, h => by
    have ih := incr_filter n J m (a + 1) (by omega)
    have e : (List.range (m + 1)).map (a + ·) = a :: (List.range m).map (a + 1 + ·) := by
      rw [List.range_succ_eq_map, List.map_cons, List.map_map, Nat.add_zero]
      congr 1
      refine List.map_congr_left fun j _ => ?_
      simp only [Function.comp, Nat.succ_eq_add_one]; omega
    rw [e, List.filter_cons]
    split
    · exact ⟨⟨Nat.le_refl _, by omega⟩, ih⟩
    · exact Incr.mono (by omega) ih

theorem sorted_of (l : List Rg) (J : List Nat) (hJ : ∀ j ∈ J, j < l.length) : ∃ js, Incr l.length 0 js ∧ (∀ j, j ∈ js ↔ j ∈ J) ∧ js.length ≤ J.length ∧ js.length ≤ l.length := by
  have h0 : ((List.range l.length).map (0 + ·)) = List.range l.length := by simp
  refine ⟨(List.range l.length).filter fun i => decide (i ∈ J), ?_, fun j => ?_, ?_, ?_⟩
  · have := incr_filter l.length J l.length 0 (by omega)
    rw [h0] at this
    exact this
  · simp only [List.mem_filter, List.mem_range, decide_eq_true_eq]
    exact ⟨fun h => h.2, fun h => ⟨hJ j h, h⟩⟩
  · have hnd : ((List.range l.length).filter fun i => decide (i ∈ J)).Nodup := List.Pairwise.filter _ List.nodup_range
    have : ∀ (a b : List Nat), a.Nodup → (∀ i ∈ a, i ∈ b) → a.length ≤ b.length := by
      intro a
      induction a with
      | nil => simp
      | cons x a ih =>
        intro b h hs
        have hx := hs x (by simp)
        obtain ⟨h1, h2⟩ := List.nodup_cons.1 h
        have h3 := ih (b.erase x) h2 (fun i hi => (List.mem_erase_of_ne (by rintro rfl; exact h1 hi)).2 (hs i (List.mem_cons_of_mem _ hi)))
        rw [List.length_erase_of_mem hx] at h3
        have : 0 < b.length := List.length_pos_of_mem hx
        simp; omega
    exact this _ _ hnd (fun i hi => by simpa using (List.mem_filter.1 hi).2)
  · have := List.length_filter_le (fun i => decide (i ∈ J)) (List.range l.length)
    simpa using this

/-- **Four are enough.** -/
theorem four_enough {l : List Rg} (hok : ∀ r ∈ l, r.ok) (hno : ∀ p, ¬ Common l p) : ∃ J : List Nat, (∀ j ∈ J, j < l.length) ∧ (1 ≤ J.length ∧ J.length ≤ 4) ∧ ∀ p, ¬ ∀ j ∈ J, inR (atR l j) p := by
  have hl : l ≠ [] := by rintro rfl; exact hno ⟨0, 0⟩ (fun r hr => by cases hr)
  obtain ⟨i1, l1, h1⟩ := most_at (fun r => r.x.lo) hl
  obtain ⟨i2, l2, h2⟩ := most_at (fun r => -r.x.hi) hl
  obtain ⟨i3, l3, h3⟩ := most_at (fun r => r.y.lo) hl
  obtain ⟨i4, l4, h4⟩ := most_at (fun r => -r.y.hi) hl
  obtain ⟨i5, l5, h5⟩ := most_at (fun r => r.s.lo) hl
  obtain ⟨i6, l6, h6⟩ := most_at (fun r => -r.s.hi) hl
  obtain ⟨i7, l7, h7⟩ := most_at (fun r => r.d.lo) hl
  obtain ⟨i8, l8, h8⟩ := most_at (fun r => -r.d.hi) hl
  have hnp := no_point (xl := (atR l i1).x.lo) (xh := (atR l i2).x.hi) (yl := (atR l i3).y.lo) (yh := (atR l i4).y.hi) (sl := (atR l i5).s.lo) (sh := (atR l i6).s.hi) (dl := (atR l i7).d.lo) (dh := (atR l i8).d.hi) (fun p hp => hno p fun r hr => by
    have a1 := h1 r hr
    have a2 := h2 r hr
    have a3 := h3 r hr
    have a4 := h4 r hr
    have a5 := h5 r hr
    have a6 := h6 r hr
    have a7 := h7 r hr
    have a8 := h8 r hr
    unfold inR at *; simp only at *; omega)
  have key : ∀ (a b c d : Nat), a < l.length → b < l.length → c < l.length → d < l.length → (∀ p, inR (atR l a) p → inR (atR l b) p → inR (atR l c) p → inR (atR l d) p → False) →
      ∃ J : List Nat, (∀ j ∈ J, j < l.length) ∧ (1 ≤ J.length ∧ J.length ≤ 4) ∧ ∀ p, ¬ ∀ j ∈ J, inR (atR l j) p := fun a b c d ha hb hc hd h =>
    ⟨[a, b, c, d], by simp only [List.mem_cons, List.not_mem_nil, or_false]; rintro j (rfl | rfl | rfl | rfl) <;> assumption, by simp, fun p hp => h p (hp a (by simp)) (hp b (by simp)) (hp c (by simp)) (hp d (by simp))⟩
  clear hno h1 h2 h3 h4 h5 h6 h7 h8
  rcases hnp with (h | h | h) | (h | h | h | h) | (h | h | h | h) | (h | h | h | h) | (h | h | h | h)
  · exact key i3 i4 i3 i4 l3 l4 l3 l4 (fun p a b c d => by unfold inR at *; omega)
  · exact key i5 i6 i5 i6 l5 l6 l5 l6 (fun p a b c d => by unfold inR at *; omega)
  · exact key i7 i8 i7 i8 l7 l8 l7 l8 (fun p a b c d => by unfold inR at *; omega)
  · exact key i1 i2 i1 i2 l1 l2 l1 l2 (fun p a b c d => by unfold inR at *; omega)
  · exact key i1 i6 i3 i3 l1 l6 l3 l3 (fun p a b c d => by unfold inR at *; omega)
  · exact key i1 i4 i8 i8 l1 l4 l8 l8 (fun p a b c d => by unfold inR at *; omega)
  · exact key i1 i6 i8 i8 l1 l6 l8 l8 (fun p a b c d => by unfold inR at *; omega)
  · exact key i2 i3 i7 i7 l2 l3 l7 l7 (fun p a b c d => by unfold inR at *; omega)
  · exact key i6 i3 i7 i7 l6 l3 l7 l7 (fun p a b c d => by unfold inR at *; omega)
  · exact key i4 i8 i3 i7 l4 l8 l3 l7 (fun p a b c d => by unfold inR at *; omega)
  · exact key i6 i8 i3 i7 l6 l8 l3 l7 (fun p a b c d => by unfold inR at *; omega)
  · exact key i2 i5 i4 i4 l2 l5 l4 l4 (fun p a b c d => by unfold inR at *; omega)
  · exact key i6 i3 i5 i4 l6 l3 l5 l4 (fun p a b c d => by unfold inR at *; omega)
  · exact key i4 i8 i5 i5 l4 l8 l5 l5 (fun p a b c d => by unfold inR at *; omega)
  · exact key i6 i8 i5 i4 l6 l8 l5 l4 (fun p a b c d => by unfold inR at *; omega)
  · exact key i2 i5 i7 i7 l2 l5 l7 l7 (fun p a b c d => by unfold inR at *; omega)
  · exact key i6 i3 i5 i7 l6 l3 l5 l7 (fun p a b c d => by unfold inR at *; omega)
  · exact key i4 i8 i5 i7 l4 l8 l5 l7 (fun p a b c d => by unfold inR at *; omega)
  · exact key i6 i8 i5 i7 l6 l8 l5 l7 (fun p a b c d => by unfold inR at *; omega)

theorem tight_exists {r : Rg} : tightP r ≠ none ↔ ∃ p, inR r p := by
  rw [Ne, tight_none]; simp
theorem clP_none_of {l : List Rg} {p : Pt} (hp : p.ok) (h : Common l p) : clP l = none := by
  unfold clP
  rw [List.findSome?_eq_none_iff]
  intro j _
  cases hs : srch l (j + 1) allR [] 0 with
  | none => rfl
  | some out =>
    obtain ⟨js, _, h2, _, h4⟩ := srch_some l _ _ _ _ _ hs
    exact absurd ((inR_cuts l js allR p).2 ⟨inR_all.2 hp, fun j hj => h _ (atR_mem (Incr.mem h2 j hj).2)⟩) (tight_none.1 h4 p)
/-- **There is a clash exactly if no place lies in all.** -/
theorem clP_some_of {l : List Rg} (hok : ∀ r ∈ l, r.ok) (hno : ∀ p, ¬ Common l p) : ∃ n out, n < min 4 l.length ∧ srch l (n + 1) allR [] 0 = some out ∧ (∀ m, m < n → srch l (m + 1) allR [] 0 = none) ∧ clP l = some out := by
  have hex : clP l ≠ none := by
    intro hc
    unfold clP at hc
    rw [List.findSome?_eq_none_iff] at hc
    obtain ⟨J, h1, h2, h3⟩ := four_enough hok hno
    obtain ⟨js, g1, g2, g3, g4⟩ := sorted_of l J h1
    have hpos : 1 ≤ js.length := by
      cases J with
      | nil => simp at h2
      | cons a J => exact List.length_pos_of_mem ((g2 a).2 (by simp))
    have hn := hc (js.length - 1) (by rw [List.mem_range]; omega)
    have := srch_none l _ _ _ _ hn js (by omega) g1
    obtain ⟨p, hp⟩ := tight_exists.1 this
    exact h3 p fun j hj => ((inR_cuts l js allR p).1 hp).2 j ((g2 j).2 hj)
  cases hc : clP l with
  | none => exact absurd hc hex
  | some out =>
    have hc' := hc
    unfold clP at hc'
    rw [List.findSome?_eq_some_iff] at hc'
    obtain ⟨pre, n, post, e, hn, hpre⟩ := hc'
    have hlen : pre.length < min 4 l.length := by
      have := congrArg List.length e; simp at this; omega
    have hget : (List.range (min 4 l.length))[pre.length]? = some n := by rw [e]; simp
    rw [List.getElem?_range hlen] at hget
    have hnp : n = pre.length := (Option.some.inj hget).symm
    refine ⟨n, out, by omega, hn, fun m hm => hpre m ?_, rfl⟩
    have h2 : (List.range (min 4 l.length))[m]? = some m := List.getElem?_range (by omega)
    rw [e, List.getElem?_append_left (by omega)] at h2
    exact List.mem_of_getElem? h2
theorem clP_iff {l : List Rg} (hok : ∀ r ∈ l, r.ok) (hl : l ≠ []) : clP l = none ↔ ∃ p, Common l p := by
  constructor
  · intro h
    refine Classical.byContradiction fun hn => ?_
    obtain ⟨_, out, _, _, _, h2⟩ := clP_some_of hok (fun p hp => hn ⟨p, hp⟩)
    rw [h] at h2; cases h2
  · rintro ⟨p, hp⟩
    cases l with
    | nil => exact absurd rfl hl
    | cons r l => exact clP_none_of (ok_inR (hok r (by simp)) (hp r (by simp))) hp
/-- The common bounds of all. -/
theorem cuts_all (l : List Rg) (p : Pt) : inR (cutsOf l allR (List.range l.length)) p ↔ p.ok ∧ Common l p := by
  rw [inR_cuts, inR_all]
  refine and_congr_right fun _ => ⟨fun h r hr => ?_, fun h j hj => h _ (atR_mem (List.mem_range.1 hj))⟩
  obtain ⟨i, hi, e⟩ := mem_atR hr
  rw [← e]; exact h i (List.mem_range.2 hi)
/-- A clash, or none, and the error. -/
def clashE (l : List Rg) : List Int × Int := if 12 < l.length then ([], 3) else if ∀ r ∈ l, r.ok then (match clP l with | some L => (L, 0) | none => ([], 4)) else ([], 11)
theorem clE_3 {l : List Rg} (h : 12 < l.length) : clashE l = ([], 3) := if_pos h
theorem clE_11 {l : List Rg} {r : Rg} (h : ¬ 12 < l.length) (hr : r ∈ l) (hn : ¬ r.ok) : clashE l = ([], 11) := by
  unfold clashE; rw [if_neg h, if_neg (fun hh => hn (hh r hr))]
theorem clE_of {l : List Rg} (h : ¬ 12 < l.length) (hok : ∀ r ∈ l, r.ok) : clashE l = (match clP l with | some L => (L, 0) | none => ([], 4)) := by
  unfold clashE; rw [if_neg h, if_pos hok]
theorem clE_4 {l : List Rg} (h : ¬ 12 < l.length) (hok : ∀ r ∈ l, r.ok) (hn : ∀ m, m < min 4 l.length → srch l (m + 1) allR [] 0 = none) : clashE l = ([], 4) := by
  have : clP l = none := by
    unfold clP
    rw [List.findSome?_eq_none_iff]
    exact fun j hj => hn j (List.mem_range.1 hj)
  rw [clE_of h hok, this]
theorem clP_first {l : List Rg} {n : Nat} {L : List Int} (hn : n < min 4 l.length) (hno : ∀ m, m < n → srch l (m + 1) allR [] 0 = none) (hs : srch l (n + 1) allR [] 0 = some L) : clP l = some L := by
  unfold clP
  have e : List.range (min 4 l.length) = List.range n ++ n :: (List.range (min 4 l.length)).drop (n + 1) := by
    have h1 : (List.range (min 4 l.length)).take n = List.range n := by rw [List.take_range]; congr 1; omega
    rw [← h1]
    have hlt : n < (List.range (min 4 l.length)).length := by simpa using hn
    have hg : (List.range (min 4 l.length))[n] = n := by simp
    conv => lhs; rw [← List.take_append_drop n (List.range (min 4 l.length)), List.drop_eq_getElem_cons hlt, hg]
  rw [e, List.findSome?_append, List.findSome?_eq_none_iff.2 (fun j hj => hno j (List.mem_range.1 hj)), List.findSome?_cons, hs]
  rfl
theorem clE_0 {l : List Rg} {n : Nat} {L : List Int} (h : ¬ 12 < l.length) (hok : ∀ r ∈ l, r.ok) (hn : n < min 4 l.length) (hno : ∀ m, m < n → srch l (m + 1) allR [] 0 = none) (hs : srch l (n + 1) allR [] 0 = some L) : clashE l = (L, 0) := by
  rw [clE_of h hok, clP_first hn hno hs]
theorem cuts_sm {l : List Rg} (hl : ∀ r ∈ l, r.sm 65536) : ∀ (js : List Nat) (f : Rg), f.sm 65536 → (cutsOf l f js).sm 65536
  | [], _, h => h
  | j :: js, f, h => by
    refine cuts_sm hl js _ (cut_sm h ?_)
    by_cases hj : j < l.length
    · exact hl _ (atR_mem hj)
    · have : atR l j = zR := by unfold atR; rw [List.getElem?_eq_none (by omega)]; rfl
      rw [this]; exact zR_sm
theorem cuts_step {l : List Rg} {i : Nat} {z : Rg} (hz : atR l i = z) (f : Rg) : cutsOf l f (List.range (i + 1)) = (cutsOf l f (List.range i)).map2 Bd.cut z := by
  unfold cutsOf; rw [List.range_succ, List.foldl_append, List.foldl_cons, List.foldl_nil, hz]
theorem clE_none {l : List Rg} (h : ¬ 12 < l.length) (hok : ∀ r ∈ l, r.ok) (ht : tightP (cutsOf l allR (List.range l.length)) ≠ none) : clashE l = ([], 4) := by
  obtain ⟨p, hp⟩ := tight_exists.1 ht
  have hp := (cuts_all l p).1 hp
  rw [clE_of h hok, clP_none_of hp.1 hp.2]
theorem clP_is {l : List Rg} (hok : ∀ r ∈ l, r.ok) (ht : tightP (cutsOf l allR (List.range l.length)) = none) : ∃ N out, N < min 4 l.length ∧ srch l (N + 1) allR [] 0 = some out ∧ ∀ m, m < N → srch l (m + 1) allR [] 0 = none := by
  by_cases hl : l = []
  · subst hl
    exact absurd ((inR_cuts [] (List.range 0) allR ⟨0, 0⟩).2 ⟨by decide, by simp⟩) (tight_none.1 ht _)
  · obtain ⟨n, out, h1, h2, h3, _⟩ := clP_some_of hok (fun p hp => by
      cases l with
      | nil => exact hl rfl
      | cons r l => exact tight_none.1 ht p ((cuts_all _ p).2 ⟨ok_inR (hok r (by simp)) (hp r (by simp)), hp⟩))
    exact ⟨n, out, h1, h2, h3⟩
theorem sm_all {l : List Rg} (hok : ∀ r ∈ l, r.ok) : ∀ r ∈ l, r.sm 65536 := fun r hr => (hok r hr).sm
end Go.Proofs.Ytffpfcomikcimaa
