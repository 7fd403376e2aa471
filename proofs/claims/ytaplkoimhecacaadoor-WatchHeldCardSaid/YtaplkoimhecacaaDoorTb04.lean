/-
  Plain Lean: sums, moved and widened regions, squared distances, fields: what the statements about regions say outright. No condition, no program. Plain Lean of package watch: numbers, scenes, sightings, tracks, danger. No condition, no program. Plain Lean of package watch: danger, soft starts, rules, the best plan, Guard. No condition, no program. Plain Lean: the cases of the statements about regions. No condition, no program. Plain Lean of package watch: what was seen holds of the animals: their places lie in the regions that are known. No condition, no program. Plain Lean of package watch: the best plan breaks no rule and is the best one. No condition, no program. Plain Lean of package watch: rules looked up backwards, as the reference does; whole soft starts. No condition, no program. Plain Lean of package watch: milder numbers, a sighting more, the order of a gap. No condition, no program.
-/
import Derived.Test.YtaplkoimhecacaaDoorTb03
namespace Go.Proofs.YtaplkoimhecacaaDoor

/-! ### Squared distances -/
def d2 (p q : Pt) : Int := (q.x - p.x) * (q.x - p.x) + (q.y - p.y) * (q.y - p.y)
def SqSpec (l : List Bd) : Option Bd → Prop
  | none => l = []
  | some b => (∀ i ∈ l, b.lo ≤ i.lo ∧ i.hi ≤ b.hi) ∧ (∃ i ∈ l, i.lo = b.lo) ∧ (∃ i ∈ l, i.hi = b.hi)
theorem SqSpec.snoc {l : List Bd} {o : Option Bd} (h : SqSpec l o) (i : Bd) : SqSpec (l ++ [i]) (sqS o i) := by
  cases o with
  | none =>
    have h : l = [] := h
    subst h
    show (∀ j ∈ [i], (i.span i).lo ≤ j.lo ∧ j.hi ≤ (i.span i).hi) ∧ (∃ j ∈ [i], j.lo = (i.span i).lo) ∧ (∃ j ∈ [i], j.hi = (i.span i).hi)
    refine ⟨fun j hj => ?_, ⟨i, by simp, ?_⟩, ⟨i, by simp, ?_⟩⟩
    · rw [List.mem_singleton.1 hj]; unfold Bd.span; simp only; omega
    · unfold Bd.span; simp only; omega
    · unfold Bd.span; simp only; omega
  | some b =>
    obtain ⟨h1, ⟨j, h2, h3⟩, k, h4, h5⟩ := h
    show (∀ j ∈ l ++ [i], (b.span i).lo ≤ j.lo ∧ j.hi ≤ (b.span i).hi) ∧ (∃ j ∈ l ++ [i], j.lo = (b.span i).lo) ∧ (∃ j ∈ l ++ [i], j.hi = (b.span i).hi)
    unfold Bd.span
    simp only
    refine ⟨fun m hm => ?_, ?_, ?_⟩
    · rcases List.mem_append.1 hm with hm | hm
      · have := h1 m hm; omega
      · rw [List.mem_singleton.1 hm]; omega
    · rcases Int.le_total b.lo i.lo with hle | hle
      · exact ⟨j, by simp [h2], by omega⟩
      · exact ⟨i, by simp, by omega⟩
    · rcases Int.le_total b.hi i.hi with hle | hle
      · exact ⟨i, by simp, by omega⟩
      · exact ⟨k, by simp [h4], by omega⟩
theorem SqSpec.fold : ∀ (l pre : List Bd) (o : Option Bd), SqSpec pre o → SqSpec (pre ++ l) (l.foldl sqS o)
  | [], pre, o, h => by simpa using h
  | i :: l, pre, o, h => by
    have := SqSpec.fold l (pre ++ [i]) _ (h.snoc i)
    simpa using this
theorem sqL_spec (l : List Bd) : SqSpec l (sqL l) := SqSpec.fold l [] none rfl
theorem sq_abs_le {a b : Int} (h : -b ≤ a ∧ a ≤ b) : a * a ≤ b * b := by
  rcases Int.le_total 0 a with h0 | h0
  · exact sq_mono h0 h.2
  · have := sq_mono (show 0 ≤ -a by omega) (show -a ≤ b by omega)
    rw [Int.neg_mul_neg] at this; exact this
/-- Within a row the nearest and the farthest point. -/
theorem sqI_in {p q : Pt} {w : Rw} (hx : q.x = w.x) (h1 : w.a ≤ q.y) (h2 : q.y ≤ w.b) : (sqI p w).lo ≤ d2 p q ∧ d2 p q ≤ (sqI p w).hi := by
  unfold sqI d2 nearY
  simp only
  rw [hx]
  have key1 : (max w.a (min p.y w.b) - p.y) * (max w.a (min p.y w.b) - p.y) ≤ (q.y - p.y) * (q.y - p.y) := by
    rcases Int.le_total 0 (max w.a (min p.y w.b) - p.y) with h0 | h0
    · rcases Int.lt_or_le 0 (max w.a (min p.y w.b) - p.y) with h3 | h3
      · exact sq_mono h0 (by omega)
      · have e : max w.a (min p.y w.b) - p.y = 0 := by omega
        rw [e]; exact sq_nn _
    · rcases Int.lt_or_le (max w.a (min p.y w.b) - p.y) 0 with h3 | h3
      · have := sq_mono (show 0 ≤ -(max w.a (min p.y w.b) - p.y) by omega) (show -(max w.a (min p.y w.b) - p.y) ≤ -(q.y - p.y) by omega)
        rw [Int.neg_mul_neg, Int.neg_mul_neg] at this; exact this
      · have e : max w.a (min p.y w.b) - p.y = 0 := by omega
        rw [e]; exact sq_nn _
  have key2 : (q.y - p.y) * (q.y - p.y) ≤ max ((w.a - p.y) * (w.a - p.y)) ((w.b - p.y) * (w.b - p.y)) := by
    rcases Int.le_total 0 (q.y - p.y) with h0 | h0
    · have := sq_mono h0 (show q.y - p.y ≤ w.b - p.y by omega); omega
    · have := sq_mono (show 0 ≤ -(q.y - p.y) by omega) (show -(q.y - p.y) ≤ -(w.a - p.y) by omega)
      rw [Int.neg_mul_neg, Int.neg_mul_neg] at this; omega
  omega
theorem sqP_none {r : Rg} {p : Pt} : sqP r p = none ↔ tightP r = none := by
  have hs := sqL_spec ((rows r).map (sqI p))
  unfold sqP
  constructor
  · intro h
    rw [h] at hs
    refine tight_none.2 fun q hq => ?_
    have h1 := inR_row.1 hq
    have hm : rowOf r q.x ∈ rows r := mem_rows.2 ⟨h1.1, rfl, by omega⟩
    have hs : (rows r).map (sqI p) = [] := hs
    have : rows r = [] := by simpa using hs
    rw [this] at hm; cases hm
  · intro h
    cases e : sqL ((rows r).map (sqI p)) with
    | none => rfl
    | some b =>
      rw [e] at hs
      obtain ⟨_, ⟨i, hi, _⟩, _⟩ := hs
      obtain ⟨w, hw, _⟩ := List.mem_map.1 hi
      obtain ⟨h1, h2, h3⟩ := mem_rows.1 hw
      refine absurd (inR_row.2 ⟨h1, ?_, ?_⟩ : inR r ⟨w.x, w.a⟩) (tight_none.1 h _) <;> (rw [← h2]; simp only; omega)
theorem sqP_in {r : Rg} {p q : Pt} {b : Bd} (h : sqP r p = some b) (hq : inR r q) : b.lo ≤ d2 p q ∧ d2 p q ≤ b.hi := by
  have hs := sqL_spec ((rows r).map (sqI p))
  unfold sqP at h
  rw [h] at hs
  have h1 := inR_row.1 hq
  have hm : rowOf r q.x ∈ rows r := mem_rows.2 ⟨h1.1, rfl, by omega⟩
  have h2 := hs.1 _ (List.mem_map.2 ⟨_, hm, rfl⟩)
  have h3 := sqI_in (p := p) (w := rowOf r q.x) (q := q) rfl h1.2.1 h1.2.2
  omega
theorem sqP_some {r : Rg} {p q : Pt} (h : inR r q) : ∃ b, sqP r p = some b := by
  cases e : sqP r p with
  | none => exact absurd h (tight_none.1 (sqP_none.1 e) q)
  | some b => exact ⟨b, rfl⟩
/-! ### Sums -/
theorem inR_minus {x y : Rg} {p q : Pt} (hp : inR x p) (hq : inR y q) : inR (x.map2 Bd.minus y) ⟨p.x - q.x, p.y - q.y⟩ := by
  unfold inR Rg.map2 Bd.minus at *; simp only; omega
theorem twoE_of {a b x y : Rg} (ha : a.ok) (hb : b.ok) (hx : tightP a = some x) (hy : tightP b = some y) : twoE a b = (x, y, 0) := by
  unfold twoE; rw [if_pos (chk2_zero.2 ⟨ha, hb⟩), hx, hy]
/-! ### Moved regions -/
theorem inR_move {x : Rg} {v p : Pt} : inR (x.map2 Bd.plus (ofP v)) ⟨p.x + v.x, p.y + v.y⟩ ↔ inR x p := by
  unfold inR Rg.map2 Bd.plus ofP; simp only; omega
theorem totR_move {x : Rg} (h : TotR x x) (v : Pt) : TotR (x.map2 Bd.plus (ofP v)) (x.map2 Bd.plus (ofP v)) := by
  have f : ∀ {g : Pt → Int} {a b : Int}, (∃ p, inR x p ∧ g p = a) → (∀ p : Pt, g p = a → g ⟨p.x + v.x, p.y + v.y⟩ = b) → ∃ p, inR (x.map2 Bd.plus (ofP v)) p ∧ g p = b :=
    fun ⟨p, h1, h2⟩ h3 => ⟨_, inR_move.2 h1, h3 p h2⟩
  refine ⟨fun _ h => h, f (g := Pt.x) h.xlo ?_, f (g := Pt.x) h.xhi ?_, f (g := Pt.y) h.ylo ?_, f (g := Pt.y) h.yhi ?_, f (g := fun p => p.x + p.y) h.slo ?_, f (g := fun p => p.x + p.y) h.shi ?_, f (g := fun p => p.x - p.y) h.dlo ?_, f (g := fun p => p.x - p.y) h.dhi ?_⟩
  all_goals (intro p hp; simp only [Rg.map2, Bd.plus, ofP] at *; omega)
theorem totR_tight {t : Rg} (h : TotR t t) : tightP t = some t := by
  obtain ⟨p, hp, _⟩ := h.xlo
  obtain ⟨u, hu⟩ := tight_some hp
  rw [hu, (tight_totR hu).uniq h (fun _ => Iff.rfl)]
/-! ### Swept regions -/
/-! ### Widened regions -/
theorem far_vec {n x y : Int} (hn : 0 ≤ n) (h : x * x + y * y ≤ n * n) : -farP n ≤ x + y ∧ x + y ≤ farP n := by
  obtain ⟨_, _, b3⟩ := farP_is hn
  have key : ∀ a b : Int, 0 ≤ a → 0 ≤ b → a * a + b * b ≤ n * n → a + b ≤ farP n := by
    intro a b ha hb hab
    rcases Int.lt_or_le (farP n) (a + b) with h1 | h1
    · have := b3 _ h1
      have := half2_least ha hb
      omega
    · exact h1
  have ab : ∀ z : Int, ∃ a, 0 ≤ a ∧ a * a = z * z ∧ z ≤ a ∧ -z ≤ a := fun z => by
    rcases Int.le_total 0 z with h0 | h0
    · exact ⟨z, h0, rfl, Int.le_refl _, by omega⟩
    · exact ⟨-z, by omega, Int.neg_mul_neg z z, by omega, by omega⟩
  obtain ⟨a, a1, a2, a3, a4⟩ := ab x
  obtain ⟨b, b1, b2, b3', b4⟩ := ab y
  have := key a b a1 b1 (by omega)
  omega
theorem inR_wide {x : Rg} {p v : Pt} {n : Int} (hn : 0 ≤ n) (hp : inR x p) (hq : (⟨p.x + v.x, p.y + v.y⟩ : Pt).ok) (h1 : -n ≤ v.x ∧ v.x ≤ n) (h2 : -n ≤ v.y ∧ v.y ≤ n) (h3 : v.x * v.x + v.y * v.y ≤ n * n) : inR (wideR x n (farP n)) ⟨p.x + v.x, p.y + v.y⟩ := by
  have h4 := far_vec hn h3
  have h5 := far_vec (x := v.x) (y := -v.y) hn (by rw [Int.neg_mul_neg]; exact h3)
  unfold inR wideR Bd.wide intoI Pt.ok at *
  simp only at *
  omega
theorem wideB_in {b : Bd} {n l z : Int} (hb : b.fits l) (hn : 0 ≤ n) (hz : b.lo ≤ z ∧ z ≤ b.hi) : (b.wide n l).lo ≤ z ∧ z ≤ (b.wide n l).hi := by
  unfold Bd.fits at hb; unfold Bd.wide intoI at *; simp only at *; omega
theorem wide_in {x : Rg} {n : Int} {p : Pt} (hx : x.ok) (hn : 0 ≤ n) (hp : inR x p) : inR (wideR x n (farP n)) p := by
  have hf := (farP_is hn).1
  obtain ⟨h1, h2, h3, h4⟩ := hp
  obtain ⟨g1, g2, g3, g4⟩ := hx
  exact ⟨wideB_in g1 hn h1, wideB_in g2 hn h2, wideB_in g3 hf h3, wideB_in g4 hf h4⟩
theorem wideB_fits {b c : Bd} {n l : Int} (hl : 0 ≤ l) (h : (b.wide n l).lo ≤ c.lo ∧ c.lo ≤ c.hi ∧ c.hi ≤ (b.wide n l).hi) : c.fits l := by
  unfold Bd.fits; unfold Bd.wide intoI at h; simp only at h; omega
theorem wide_ok {x : Rg} {n : Int} {t : Rg} (ht : tightP (wideR x n (farP n)) = some t) : t.ok := by
  obtain ⟨h1, h2, h3, h4⟩ := tight_sub ht
  exact ⟨wideB_fits (by decide) h1, wideB_fits (by decide) h2, wideB_fits (by decide) h3, wideB_fits (by decide) h4⟩
end Go.Proofs.YtaplkoimhecacaaDoor
namespace Go.Proofs.YtaplkoimhecacaaDoor
open Go
structure Wn where
  zone : Int
  speed : Int
  hold : Int
  pre : Int
  delay : Int
  soft : Int
  pause : Int
  deriving DecidableEq
/-- A sighting. -/
structure Sg where
  st : Int
  nm : ByteArray
  oc : Int
  nr : Int
  fr : Int
structure Sc where
  ship : List Rg
  src : List Rg
  eyes : List Bool
  ears : List Bool
  sg : List Sg
def okW (w : Wn) : Prop := (0 ≤ w.zone ∧ w.zone ≤ 256) ∧ (0 ≤ w.speed ∧ w.speed ≤ 32) ∧ (0 ≤ w.hold ∧ w.hold ≤ 16) ∧ (0 ≤ w.pre ∧ w.pre ≤ 16) ∧ (0 ≤ w.delay ∧ w.delay ≤ 16) ∧ (0 ≤ w.pause ∧ w.pause ≤ 16) ∧ (1 ≤ w.soft ∧ w.soft ≤ 8)
instance (w : Wn) : Decidable (okW w) := by unfold okW; exact inferInstance
def chkW (w : Wn) : Int := if okW w then 0 else 60
def smallR (r : Rg) : Prop := r.ok ∧ r.x.hi - r.x.lo ≤ 256 ∧ r.y.hi - r.y.lo ≤ 256 ∧ (tightP r).isSome = true
instance (r : Rg) : Decidable (smallR r) := by unfold smallR; exact inferInstance
def atB (l : List Bool) (i : Int) : Bool := (l[i.toNat]?).getD false
def okSg (s : Sc) (x : Sg) : Prop := (0 ≤ x.st ∧ x.st < s.ship.length) ∧ nameP x.nm ∧ (0 ≤ x.nr ∧ x.nr ≤ x.fr ∧ x.fr ≤ 256) ∧ ((0 ≤ x.oc ∧ x.oc ≤ 7) ∧ atB s.eyes x.st = true ∨ x.oc = -1 ∧ atB s.ears x.st = true)
def sortedS (l : List Sg) : Prop := ∀ (i : Nat) (x y : Sg), l[i]? = some x → l[i + 1]? = some y → x.st ≤ y.st
def okSc (s : Sc) : Prop := (1 ≤ s.ship.length ∧ s.ship.length ≤ 64) ∧ s.src.length = s.ship.length ∧ s.eyes.length = s.ship.length ∧ s.ears.length = s.ship.length ∧ s.sg.length ≤ 32 ∧
  (∀ r ∈ s.ship, smallR r) ∧ (∀ r ∈ s.src, smallR r) ∧ (∀ x ∈ s.sg, okSg s x) ∧ sortedS s.sg
noncomputable def chkS (s : Sc) : Int := @ite _ (okSc s) (Classical.propDecidable _) 0 61
/-! ### Sightings -/
/-- The least number whose square, twice, is at least a square. -/
def halfN (n : Int) : Nat → Int → Int
  | 0, h => h
  | k + 1, h => if 2 * h * h < n * n then halfN n k (h + 1) else h
def halfP (n : Int) : Int := halfN n (n.toNat + 1) 0
def up (b : Bd) (n : Int) : Bd := ⟨max b.lo n, b.hi⟩
def dn (b : Bd) (n : Int) : Bd := ⟨b.lo, min b.hi n⟩
/-- A region, cut by what was seen from a tight region. -/
def coneR (r a : Rg) (oc n : Int) : Rg :=
  if oc = 0 then ⟨up r.x (a.x.lo + halfP n), up r.y a.y.lo, up r.s (a.s.lo + n), up r.d a.d.lo⟩
  else if oc = 1 then ⟨up r.x a.x.lo, up r.y (a.y.lo + halfP n), up r.s (a.s.lo + n), dn r.d a.d.hi⟩
  else if oc = 2 then ⟨dn r.x a.x.hi, up r.y (a.y.lo + halfP n), up r.s a.s.lo, dn r.d (a.d.hi - n)⟩
  else if oc = 3 then ⟨dn r.x (a.x.hi - halfP n), up r.y a.y.lo, dn r.s a.s.hi, dn r.d (a.d.hi - n)⟩
  else if oc = 4 then ⟨dn r.x (a.x.hi - halfP n), dn r.y a.y.hi, dn r.s (a.s.hi - n), dn r.d a.d.hi⟩
  else if oc = 5 then ⟨dn r.x a.x.hi, dn r.y (a.y.hi - halfP n), dn r.s (a.s.hi - n), up r.d a.d.lo⟩
  else if oc = 6 then ⟨up r.x a.x.lo, dn r.y (a.y.hi - halfP n), dn r.s a.s.hi, up r.d (a.d.lo + n)⟩
  else if oc = 7 then ⟨up r.x (a.x.lo + halfP n), dn r.y a.y.hi, up r.s a.s.lo, up r.d (a.d.lo + n)⟩
  else r
def reachR (r : Rg) (n : Int) : Rg := (reachE r n).1
def tgR (r : Rg) : Rg := (tightP r).getD zR
/-- The region of a sighting. -/
def sightP (s : Sc) (x : Sg) : Option Rg :=
  tightP (coneR (reachR (tgR (atR s.ship x.st.toNat)) x.fr) (tgR (atR s.ship x.st.toNat)) x.oc x.nr)
/-! ### Tracks -/
/-- What is known of an animal: where it is, and when it was sighted last. -/
abbrev Kn := Option (Rg × Int)
def seeP (s : Sc) (k : Kn) (x : Sg) : Option Kn :=
  match sightP s x with
  | none => none
  | some r => match k with
    | none => some (some (r, x.st))
    | some (a, _) => match tightP (a.map2 Bd.cut r) with
      | none => none
      | some m => some (some (m, x.st))
def seesP (s : Sc) : Kn → List Sg → Option Kn
  | k, [] => some k
  | k, x :: r => match seeP s k x with
    | none => none
    | some k' => seesP s k' r
def gapW (a b : Rg) : Bd := (gapE a b).1
def farOk (s : Sc) (k : Kn) (x : Sg) : Prop := match k with
  | none => True
  | some (a, _) => x.nr * x.nr ≤ (gapW (atR s.ship x.st.toNat) a).hi
instance (s : Sc) (k : Kn) (x : Sg) : Decidable (farOk s k x) := by unfold farOk; cases k <;> exact inferInstance
/-- The sightings of a name in a step. -/
def inStep (s : Sc) (nm : ByteArray) (t : Int) : List Sg := s.sg.filter fun x => decide (x.st = t) && decide (x.nm = nm)
def swimP (w : Wn) (k : Kn) : Kn := k.map fun a => (reachR a.1 w.speed, a.2)
/-- A step of a track: nothing if sightings contradict each other. -/
def stepT (w : Wn) (s : Sc) (nm : ByteArray) (t : Int) (k : Kn) : Option Kn :=
  match seesP s (swimP w k) (inStep s nm t) with
  | none => none
  | some k' => if ∀ x ∈ inStep s nm t, farOk s k' x then some (k'.filter fun a => decide (t - a.2 ≤ w.hold)) else none
/-- What is known behind so many steps; nothing if sightings contradict each other. -/
def kst (w : Wn) (s : Sc) (nm : ByteArray) : Nat → Option Kn
  | 0 => some none
  | n + 1 => match kst w s nm n with
    | none => none
    | some k => stepT w s nm n k
def knAt (w : Wn) (s : Sc) (nm : ByteArray) (n : Nat) : Kn := (kst w s nm n).getD none
def okT (w : Wn) (s : Sc) (nm : ByteArray) (n : Nat) : Bool := (kst w s nm n).isSome
theorem kst_none {w : Wn} {s : Sc} {nm : ByteArray} {n : Nat} (h : kst w s nm n = none) : ∀ m, kst w s nm (n + m) = none
  | 0 => h
  | m + 1 => by
    show (match kst w s nm (n + m) with | none => none | some k => stepT w s nm ((n + m : Nat) : Int) k) = none
    rw [kst_none h m]
/-! ### All names at once -/
abbrev Kf := ByteArray → Kn
def seenB (s : Sc) (nm : ByteArray) (t : Int) : Bool := s.sg.any fun x => decide (x.nm = nm) && decide (x.st = t)
def ageK (w : Wn) (s : Sc) (t : Int) (nm : ByteArray) (k : Kn) : Kn := match k with
  | none => none
  | some a => if w.hold < t - a.2 ∧ seenB s nm t = false then none else some (reachR a.1 w.speed, a.2)
def seeF (s : Sc) (t : Int) : Kf → List Sg → Option Kf
  | K, [] => some K
  | K, x :: r => if x.st ≠ t then seeF s t K r else match seeP s (K x.nm) x with
    | none => none
    | some k => seeF s t (fun n => if n = x.nm then k else K n) r
def inL (L : List Sg) (nm : ByteArray) (t : Int) : List Sg := L.filter fun x => decide (x.st = t) && decide (x.nm = nm)
theorem inL_ne {x : Sg} {L : List Sg} {nm : ByteArray} {t : Int} (h : ¬ (x.st = t ∧ x.nm = nm)) : inL (x :: L) nm t = inL L nm t := by
  unfold inL; rw [List.filter_cons, if_neg (by simpa using h)]
theorem inL_eq {x : Sg} {L : List Sg} {nm : ByteArray} {t : Int} (h : x.st = t ∧ x.nm = nm) : inL (x :: L) nm t = x :: inL L nm t := by
  unfold inL; rw [List.filter_cons, if_pos (by simpa using h)]
theorem seeF_some {s : Sc} {t : Int} : ∀ {L : List Sg} {K K' : Kf}, seeF s t K L = some K' → ∀ nm, seesP s (K nm) (inL L nm t) = some (K' nm)
  | [], K, K', h, nm => by simp only [seeF, Option.some.injEq] at h; subst h; rfl
  | x :: r, K, K', h, nm => by
    simp only [seeF] at h
    by_cases hx : x.st ≠ t
    · rw [if_pos hx] at h
      rw [inL_ne (fun hh => hx hh.1)]
      exact seeF_some h nm
    · rw [if_neg hx] at h
      have hx := Classical.not_not.1 hx
      cases hs : seeP s (K x.nm) x with
      | none => rw [hs] at h; cases h
      | some k =>
        rw [hs] at h
        have ih := seeF_some h nm
        by_cases hn : x.nm = nm
        · subst hn
          rw [inL_eq ⟨hx, rfl⟩]
          simp only [seesP, hs]
          simpa using ih
        · rw [inL_ne (fun hh => hn hh.2)]
          rwa [if_neg (fun e => hn e.symm)] at ih
theorem seeF_none {s : Sc} {t : Int} : ∀ {L : List Sg} {K : Kf}, seeF s t K L = none → ∃ x ∈ L, x.st = t ∧ seesP s (K x.nm) (inL L x.nm t) = none
  | [], K, h => by simp [seeF] at h
  | x :: r, K, h => by
    simp only [seeF] at h
    by_cases hx : x.st ≠ t
    · rw [if_pos hx] at h
      obtain ⟨y, h1, h2, h3⟩ := seeF_none h
      exact ⟨y, List.mem_cons_of_mem _ h1, h2, by rw [inL_ne (fun hh => hx hh.1)]; exact h3⟩
    · rw [if_neg hx] at h
      have hx := Classical.not_not.1 hx
      cases hs : seeP s (K x.nm) x with
      | none =>
        refine ⟨x, by simp, hx, ?_⟩
        rw [inL_eq ⟨hx, rfl⟩]
        simp only [seesP, hs]
      | some k =>
        rw [hs] at h
        obtain ⟨y, h1, h2, h3⟩ := seeF_none h
        refine ⟨y, List.mem_cons_of_mem _ h1, h2, ?_⟩
        by_cases hn : x.nm = y.nm
        · rw [inL_eq ⟨hx, hn⟩]
          simp only [seesP]
          rw [← hn, hs]
          simpa [hn] using h3
        · rw [inL_ne (fun hh => hn hh.2)]
          rwa [if_neg (fun e => hn e.symm)] at h3
def farF (s : Sc) (t : Int) (K : Kf) : Prop := ∀ x ∈ s.sg, x.st = t → farOk s (K x.nm) x
instance (s : Sc) (t : Int) (K : Kf) : Decidable (farF s t K) := by unfold farF; exact inferInstance
def ageF (w : Wn) (s : Sc) (t : Int) (K : Kf) : Kf := fun nm => ageK w s t nm (K nm)
def stepF (w : Wn) (s : Sc) (t : Int) (K : Kf) : Option Kf := match seeF s t (ageF w s t K) s.sg with
  | none => none
  | some K' => if farF s t K' then some K' else none
theorem inStep_inL (s : Sc) (nm : ByteArray) (t : Int) : inStep s nm t = inL s.sg nm t := rfl
theorem seenB_f {s : Sc} {nm : ByteArray} {t : Int} : seenB s nm t = false ↔ inStep s nm t = [] := by
  unfold seenB inStep
  rw [List.any_eq_false, List.filter_eq_nil_iff]
  constructor
  · intro h x hx; have := h x hx; simp only [Bool.and_eq_true, decide_eq_true_eq, not_and] at this ⊢; exact fun h1 h2 => this h2 h1
  · intro h x hx; have := h x hx; simp only [Bool.and_eq_true, decide_eq_true_eq, not_and] at this ⊢; exact fun h1 h2 => this h2 h1
/-- Behind a sighting the animal is known, and was sighted then. -/
theorem seesP_last {s : Sc} {t : Int} : ∀ {L : List Sg} {k k' : Kn}, L ≠ [] → (∀ x ∈ L, x.st = t) → seesP s k L = some k' → ∃ r, k' = some (r, t)
  | [], _, _, h, _, _ => absurd rfl h
  | x :: r, k, k', _, ht, h => by
    simp only [seesP] at h
    have hx := ht x (by simp)
    cases hs : seeP s k x with
    | none => rw [hs] at h; cases h
    | some k2 =>
      rw [hs] at h
      have h2 : ∃ r, k2 = some (r, t) := by
        unfold seeP at hs
        split at hs
        · cases hs
        · split at hs
          · cases hs; exact ⟨_, by rw [hx]⟩
          · split at hs
            · cases hs
            · cases hs; exact ⟨_, by rw [hx]⟩
      cases r with
      | nil => simp only [seesP, Option.some.injEq] at h; subst h; exact h2
      | cons y r => exact seesP_last (by simp) (fun z hz => ht z (by simp [hz])) h
theorem mem_inL {L : List Sg} {x : Sg} {nm : ByteArray} {t : Int} : x ∈ inL L nm t ↔ x ∈ L ∧ x.st = t ∧ x.nm = nm := by unfold inL; simp [List.mem_filter]
/-- One step for one name, out of that for all. -/
theorem stepT_unseen {w : Wn} {s : Sc} {nm : ByteArray} {t : Int} {k : Kn} (h : inStep s nm t = []) : stepT w s nm t k = some (ageK w s t nm k) := by
  unfold stepT
  rw [h]
  simp only [seesP, List.not_mem_nil, false_implies, implies_true, if_true]
  congr 1
  cases k with
  | none => rfl
  | some a =>
    show Option.filter (fun b => decide (t - b.2 ≤ w.hold)) (some (reachR a.1 w.speed, a.2)) = if w.hold < t - a.2 ∧ seenB s nm t = false then none else some (reachR a.1 w.speed, a.2)
    have e := seenB_f.2 h
    by_cases hh : t - a.2 ≤ w.hold
    · rw [if_neg (fun hx => by omega)]; simp [Option.filter, hh]
    · rw [if_pos ⟨by omega, e⟩]; simp [Option.filter, hh]
theorem ageK_seen {w : Wn} {s : Sc} {nm : ByteArray} {t : Int} {k : Kn} (h : inStep s nm t ≠ []) : ageK w s t nm k = swimP w k := by
  have : seenB s nm t ≠ false := fun e => h (seenB_f.1 e)
  cases k with
  | none => rfl
  | some a =>
    show (if w.hold < t - a.2 ∧ seenB s nm t = false then none else some (reachR a.1 w.speed, a.2)) = some (reachR a.1 w.speed, a.2)
    rw [if_neg (fun hh => this hh.2)]
theorem stepF_some {w : Wn} {s : Sc} {t : Int} {K K' : Kf} (hw : 0 ≤ w.hold) (h : stepF w s t K = some K') (nm : ByteArray) : stepT w s nm t (K nm) = some (K' nm) := by
  unfold stepF at h
  cases hs : seeF s t (ageF w s t K) s.sg with
  | none => rw [hs] at h; cases h
  | some K2 =>
    rw [hs] at h
    simp only at h
    split at h
    · rename_i hf
      cases h
      have h1 := seeF_some hs nm
      rw [← inStep_inL] at h1
      by_cases he : inStep s nm t = []
      · rw [stepT_unseen he]
        rw [he] at h1
        simpa [seesP, ageF] using h1
      · unfold stepT
        rw [show ageF w s t K nm = swimP w (K nm) from ageK_seen he] at h1
        rw [h1]
        simp only
        obtain ⟨r, hr⟩ := seesP_last he (fun x hx => (mem_inL.1 hx).2.1) h1
        rw [if_pos (fun x hx => by
          have hx := mem_inL.1 hx
          have := hf x hx.1 hx.2.1
          rwa [hx.2.2] at this)]
        rw [hr]
        simp [Option.filter, hw]
    · cases h
theorem stepF_none {w : Wn} {s : Sc} {t : Int} {K : Kf} (h : stepF w s t K = none) : ∃ x ∈ s.sg, stepT w s x.nm t (K x.nm) = none := by
  unfold stepF at h
  cases hs : seeF s t (ageF w s t K) s.sg with
  | none =>
    obtain ⟨x, h1, h2, h3⟩ := seeF_none hs
    refine ⟨x, h1, ?_⟩
    unfold stepT
    have he : inStep s x.nm t ≠ [] := List.ne_nil_of_mem (mem_inL.2 ⟨h1, h2, rfl⟩)
    rw [show ageF w s t K x.nm = swimP w (K x.nm) from ageK_seen he] at h3
    rw [inStep_inL, h3]
  | some K2 =>
    rw [hs] at h
    simp only at h
    split at h
    · cases h
    · rename_i hf
      simp only [farF, Classical.not_forall] at hf
      obtain ⟨x, h1, h2, h3⟩ := hf
      refine ⟨x, h1, ?_⟩
      have he : inStep s x.nm t ≠ [] := List.ne_nil_of_mem (mem_inL.2 ⟨h1, h2, rfl⟩)
      have h4 := seeF_some hs x.nm
      rw [show ageF w s t K x.nm = swimP w (K x.nm) from ageK_seen he, ← inStep_inL] at h4
      unfold stepT
      rw [h4]
      simp only
      rw [if_neg]
      intro hall
      exact h3 (hall x (mem_inL.2 ⟨h1, h2, rfl⟩))
/-- What is known of all names behind so many steps; nothing if some contradict each other. -/
def Kst (w : Wn) (s : Sc) : Nat → Option Kf
  | 0 => some fun _ => none
  | n + 1 => match Kst w s n with
    | none => none
    | some K => stepF w s n K
theorem Kst_some {w : Wn} {s : Sc} (hw : 0 ≤ w.hold) : ∀ {n : Nat} {K : Kf}, Kst w s n = some K → ∀ nm, kst w s nm n = some (K nm)
  | 0, K, h, nm => by simp only [Kst, Option.some.injEq] at h; subst h; rfl
  | n + 1, K, h, nm => by
    simp only [Kst] at h
    cases hk : Kst w s n with
    | none => rw [hk] at h; cases h
    | some K0 =>
      rw [hk] at h
      simp only [kst, Kst_some hw hk nm]
      exact stepF_some hw h nm
theorem Kst_none {w : Wn} {s : Sc} (hw : 0 ≤ w.hold) : ∀ {n : Nat}, Kst w s n = none → ∃ x ∈ s.sg, kst w s x.nm n = none
  | 0, h => by simp [Kst] at h
  | n + 1, h => by
    simp only [Kst] at h
    cases hk : Kst w s n with
    | none =>
      obtain ⟨x, h1, h2⟩ := Kst_none hw hk
      exact ⟨x, h1, kst_none h2 1⟩
    | some K0 =>
      rw [hk] at h
      obtain ⟨x, h1, h2⟩ := stepF_none h
      refine ⟨x, h1, ?_⟩
      simp only [kst, Kst_some hw hk x.nm]
      exact h2
def okAll (w : Wn) (s : Sc) (n : Nat) : Bool := s.sg.all fun x => okT w s x.nm n
theorem okAll_iff {w : Wn} {s : Sc} (hw : 0 ≤ w.hold) {n : Nat} : okAll w s n = true ↔ (Kst w s n).isSome = true := by
  unfold okAll okT
  rw [List.all_eq_true]
  cases hk : Kst w s n with
  | some K => simp only [Option.isSome_some, iff_true]; exact fun x _ => by rw [Kst_some hw hk]; rfl
  | none =>
    obtain ⟨x, h1, h2⟩ := Kst_none hw hk
    simp only [Option.isSome_none, Bool.false_eq_true, iff_false]
    intro h; have := h x h1; rw [h2] at this; cases this
end Go.Proofs.YtaplkoimhecacaaDoor
namespace Go.Proofs.YtaplkoimhecacaaDoor
open Go
def riskAt (w : Wn) (s : Sc) (t : Nat) (k : Kn) : Bool := match k with
  | none => false
  | some (a, _) => decide ((gapW a (atR s.src t)).lo ≤ w.zone * w.zone)
/-- In which steps there is danger. -/
def riskL (w : Wn) (s : Sc) : List Bool := (List.range s.ship.length).map fun t => s.sg.any fun x => riskAt w s t (knAt w s x.nm (t + 1))
def riskP (w : Wn) (s : Sc) : Option (List Bool) := if okAll w s s.ship.length = true then some (riskL w s) else none
/-! ### Plans -/
structure Lg where
  w : Wn
  s : Sc
  d : List Bool
def bAt (l : List Bool) (t : Int) : Bool := (l[t.toNat]?).getD false
def allTr (l : List Bool) (a b : Int) : Bool := (List.range (b - a).toNat).all fun j => bAt l (a + j)
def anyTr (l : List Bool) (a b : Int) : Bool := (List.range (b - a).toNat).any fun j => bAt l (a + j)
def startP (g : Lg) (t : Int) : Bool :=
  decide (g.w.pre ≤ t) && (allTr g.s.eyes (t - g.w.pre) t || allTr g.s.ears (t - g.w.pre) t) && !anyTr g.d (max 0 (t - g.w.delay)) (t + 1)
def lookB (g : Lg) (t : Int) : Bool := bAt g.s.eyes t || bAt g.s.ears t
structure Sta where
  md : Int
  qu : Int
  deriving DecidableEq
def sta0 : Sta := ⟨0, -1⟩
/-- The rule that a mode breaks. -/
def brokenP (g : Lg) (t : Int) (x : Sta) (m : Int) : Int :=
  if m = 0 then 0
  else if bAt g.d t = true then 1
  else if lookB g t = false then 2
  else if m = 1 ∧ startP g t = false then 3
  else if m = 1 ∧ x.md ≠ 0 ∨ (1 < m ∧ m ≤ g.w.soft ∧ x.md ≠ m - 1) then 4
  else if m = g.w.soft + 1 ∧ x.md < g.w.soft ∧ x.qu < 0 then 4
  else 0
def quietP (g : Lg) (x : Sta) : Int :=
  let q := if x.md = g.w.soft + 1 then 1 else if 0 < x.qu then x.qu + 1 else -1
  if g.w.pause < q then -1 else q
def afterP (g : Lg) (t : Int) (x : Sta) (m : Int) : Sta :=
  if m ≠ 0 ∨ bAt g.d t = true ∨ lookB g t = false then ⟨m, -1⟩ else ⟨m, quietP g x⟩
/-- The first step that breaks a rule, and the rule. -/
def judgeF (g : Lg) : Int → Sta → List Int → Int × Int
  | t, _, [] => (t, 0)
  | t, x, m :: r => if brokenP g t x m = 0 then judgeF g (t + 1) (afterP g t x m) r else (t, brokenP g t x m)
def modesL (w : Wn) : List Int := (List.range (w.soft.toNat + 2)).map fun (j : Nat) => (j : Int)
/-- The most full steps in so many steps, from a step on. -/
def mostF (g : Lg) : Nat → Int → Sta → Int
  | 0, _, _ => 0
  | n + 1, t, x => (modesL g.w).foldl (fun a m => max a (if brokenP g t x m ≠ 0 then -1 else mostF g n (t + 1) (afterP g t x m) + (if m = g.w.soft + 1 then 1 else 0))) 0
def gainF (g : Lg) (n : Nat) (t : Int) (x : Sta) (m : Int) : Int :=
  if brokenP g t x m ≠ 0 then -1 else mostF g n (t + 1) (afterP g t x m) + (if m = g.w.soft + 1 then 1 else 0)
theorem mostF_succ (g : Lg) (n : Nat) (t : Int) (x : Sta) : mostF g (n + 1) t x = (modesL g.w).foldl (fun a m => max a (gainF g n t x m)) 0 := rfl
/-- The best plan: in each step the least mode that gains the most. -/
def bestF (g : Lg) : Nat → Int → Sta → List Int
  | 0, _, _ => []
  | n + 1, t, x =>
    let m := ((modesL g.w).find? fun m => decide (gainF g n t x m = mostF g (n + 1) t x)).getD 0
    m :: bestF g n (t + 1) (afterP g t x m)
def guardN (w : Wn) (far ship : Int) : Nat → Int → Int
  | 0, k => k
  | n + 1, k => if w.zone < far - (k + 1) * (w.speed + ship) then guardN w far ship n (k + 1) else k
def guardE (w : Wn) (far ship : Int) : Int × Int :=
  if okW w then (if (0 ≤ far ∧ far ≤ 32768) ∧ (0 ≤ ship ∧ ship ≤ 1000) then (if far ≤ w.zone then (0, 4) else (guardN w far ship 1000 0, 0)) else (0, 7)) else (0, 60)
end Go.Proofs.YtaplkoimhecacaaDoor
namespace Go.Proofs.YtaplkoimhecacaaDoor

theorem optE_ok {h : Option Rg} {t : Rg} (e : h = some t) : optE h = (t, 0) := by subst e; rfl
/-! ### RegionShift -/
structure ShiftOk (r : Rg) (v : Pt) (t m : Rg) : Prop where
  rok : r.ok
  vok : v.okV
  tt : tightP r = some t
  me : m = t.map2 Bd.plus (ofP v)
  fx : m.x.fits 32768
  fy : m.y.fits 32768
/-! ### RegionEnds -/
/-! ### Has -/
/-! ### RegionBoth -/
/-! ### RegionAdded -/
theorem gap_of {a b x y : Rg} (ha : a.ok) (hb : b.ok) (hx : tightP a = some x) (hy : tightP b = some y) {p q : Pt} (hp : inR x p) (hq : inR y q) :
    ∃ g, gapE a b = (g, 0) ∧ g.lo ≤ d2 zP ⟨p.x - q.x, p.y - q.y⟩ ∧ d2 zP ⟨p.x - q.x, p.y - q.y⟩ ≤ g.hi ∧ (∀ z, inR x z → g.lo ≤ d2 zP ⟨z.x - q.x, z.y - q.y⟩ ∧ d2 zP ⟨z.x - q.x, z.y - q.y⟩ ≤ g.hi) := by
  have hm := inR_minus hp hq
  obtain ⟨g, hg⟩ := sqP_some (p := zP) hm
  refine ⟨g, by unfold gapE; rw [twoE_of ha hb hx hy, if_pos rfl]; simp only; rw [hg]; rfl, (sqP_in hg hm).1, (sqP_in hg hm).2, fun z hz => sqP_in hg (inR_minus hz hq)⟩
theorem d2_swap (p q : Pt) : d2 zP ⟨p.x - q.x, p.y - q.y⟩ = d2 q p := by
  unfold d2 zP; simp only
  rw [show p.x - q.x - 0 = p.x - q.x by omega, show p.y - q.y - 0 = p.y - q.y by omega]
theorem tight_cases (r : Rg) : (∃ t, r.ok ∧ tightP r = some t ∧ tightE r = (t, 0)) ∨ ∃ e, e ≠ 0 ∧ tightE r = (zR, e) := by
  by_cases h1 : r.ok
  · cases h3 : tightP r with
    | none => exact .inr ⟨4, by decide, by unfold tightE; rw [if_pos h1, h3]; rfl⟩
    | some t => exact .inl ⟨t, h1, rfl, by unfold tightE; rw [if_pos h1, h3]; rfl⟩
  · exact .inr ⟨11, by decide, if_neg h1⟩
/-! ### RegionReached -/
/-! ### RegionSwept -/
/-! ### Extreme -/
def PkSpec (le : Vd → Vd → Prop) (l : List Vd) : Option Vd → Prop
  | none => l = []
  | some b => b ∈ l ∧ ∀ y ∈ l, le b y
theorem PkSpec.snoc {le : Vd → Vd → Prop} {better : Vd → Vd → Bool} (h1 : ∀ a b, better a b = true → le a b) (h2 : ∀ a b, better a b = false → le b a) (ht : ∀ a b c, le a b → le b c → le a c) (hr : ∀ a, le a a) {l : List Vd} {o : Option Vd} (h : PkSpec le l o) (x : Vd) : PkSpec le (l ++ [x]) (bestS better o x) := by
  cases o with
  | none =>
    have h : l = [] := h
    subst h
    refine ⟨by simp [], fun y hy => ?_⟩
    have hy : y = x := by simpa using hy
    subst hy; exact hr y
  | some b =>
    obtain ⟨hb, hle⟩ := h
    unfold bestS
    simp only
    cases hx : better x b with
    | true =>
      rw [if_pos rfl]
      refine ⟨by simp, fun y hy => ?_⟩
      rcases List.mem_append.1 hy with hy | hy
      · exact ht _ _ _ (h1 _ _ hx) (hle y hy)
      · rw [List.mem_singleton.1 hy]; exact hr x
    | false =>
      rw [if_neg (by decide)]
      refine ⟨by simp [hb], fun y hy => ?_⟩
      rcases List.mem_append.1 hy with hy | hy
      · exact hle y hy
      · rw [List.mem_singleton.1 hy]; exact h2 _ _ hx
theorem PkSpec.fold {le : Vd → Vd → Prop} {better : Vd → Vd → Bool} (h1 : ∀ a b, better a b = true → le a b) (h2 : ∀ a b, better a b = false → le b a) (ht : ∀ a b c, le a b → le b c → le a c) (hr : ∀ a, le a a) : ∀ (l pre : List Vd) (o : Option Vd), PkSpec le pre o → PkSpec le (pre ++ l) (l.foldl (bestS better) o)
  | [], pre, o, h => by simpa using h
  | x :: l, pre, o, h => by
    have := PkSpec.fold h1 h2 ht hr l (pre ++ [x]) _ (h.snoc h1 h2 ht hr x)
    simpa using this
/-! ### Clash -/
theorem Incr.erase {n : Nat} : ∀ (js : List Nat) (a i : Nat), Incr n a js → Incr n a (js.eraseIdx i)
  | [], _, _, h => by simpa using h
  | j :: js, a, 0, h => by simp only [List.eraseIdx_cons_zero]; exact Incr.mono (by have := h.1.1; omega) h.2
  | j :: js, a, i + 1, h => by simp only [List.eraseIdx_cons_succ]; exact ⟨h.1, Incr.erase js (j + 1) i h.2⟩
/-! ### Fields -/
end Go.Proofs.YtaplkoimhecacaaDoor
namespace Go.Proofs.YtaplkoimhecacaaDoor
open Go
theorem abs_of_sq {v n : Int} (hn : 0 ≤ n) (h : v * v ≤ n * n) : -n ≤ v ∧ v ≤ n := by
  constructor
  · rcases Int.lt_or_le v (-n) with h1 | h1
    · have h2 := sq_lt hn (show n < -v by omega)
      rw [Int.neg_mul_neg] at h2; omega
    · exact h1
  · rcases Int.lt_or_le n v with h1 | h1
    · have := sq_lt hn h1; omega
    · exact h1
theorem abs_le_of_sum {x y n : Int} (hn : 0 ≤ n) (h : x * x + y * y ≤ n * n) : (-n ≤ x ∧ x ≤ n) ∧ (-n ≤ y ∧ y ≤ n) :=
  ⟨abs_of_sq hn (by have := sq_nn y; omega), abs_of_sq hn (by have := sq_nn x; omega)⟩
/-- A tight region within the plane. -/
structure Tgt1 (r : Rg) : Prop where
  ok : r.ok
  tg : tightP r = some r
theorem Tgt1.of {r t : Rg} (h : tightP r = some t) (hr : r.ok) : Tgt1 t := ⟨tight_ok h hr, tight_idem h⟩
theorem Tgt1.ne {r : Rg} (h : Tgt1 r) : ∃ p, inR r p := tight_ne h.tg
theorem reach_good {r : Rg} {n : Int} (h : Tgt1 r) (hn : 0 ≤ n ∧ n ≤ 32768) : ∃ w, tightP (wideR r n (farP n)) = some w ∧ reachE r n = (w, 0) ∧ reachR r n = w ∧ Tgt1 w := by
  obtain ⟨p, hp⟩ := h.ne
  obtain ⟨w, hw⟩ := tight_some (wide_in h.ok hn.1 hp)
  have he : reachE r n = (w, 0) := by unfold reachE; rw [if_pos h.ok, if_pos hn, h.tg]; simp only; exact optE_ok hw
  exact ⟨w, hw, he, by unfold reachR; rw [he], wide_ok hw, tight_idem hw⟩
theorem reach_tgt {r : Rg} {n : Int} (h : Tgt1 r) (hn : 0 ≤ n ∧ n ≤ 32768) : Tgt1 (reachR r n) := by
  obtain ⟨w, _, _, h3, h4⟩ := reach_good h hn
  rw [h3]; exact h4
theorem reach_in {r : Rg} {n : Int} (h : Tgt1 r) (hn : 0 ≤ n ∧ n ≤ 32768) {p q : Pt} (hp : inR r p) (hq : q.ok) (hd : d2 p q ≤ n * n) : inR (reachR r n) q := by
  obtain ⟨w, h1, _, h3, h4⟩ := reach_good h hn
  rw [h3, tight_in h1]
  unfold d2 at hd
  obtain ⟨b1, b2⟩ := abs_le_of_sum hn.1 hd
  have e : q = ⟨p.x + (q.x - p.x), p.y + (q.y - p.y)⟩ := by
    obtain ⟨qx, qy⟩ := q
    simp only [Pt.mk.injEq]; omega
  rw [e] at hq ⊢
  exact inR_wide (v := ⟨q.x - p.x, q.y - p.y⟩) hn.1 hp hq b1 b2 hd
/-! ### Octants -/
theorem halfN_spec {n : Int} (hn : 0 ≤ n) : ∀ (k : Nat) (h : Int), 0 ≤ h → (∀ j, 0 ≤ j → j < h → 2 * j * j < n * n) → n ≤ h + k → h ≤ halfN n k h ∧ n * n ≤ 2 * halfN n k h * halfN n k h ∧ ∀ j, 0 ≤ j → j < halfN n k h → 2 * j * j < n * n
  | 0, h, h0, hlt, hk => by
    simp only [halfN]
    refine ⟨Int.le_refl _, ?_, hlt⟩
    have h1 := sq_mono hn (show n ≤ h by omega)
    have h2 := sq_nn h
    rw [Int.mul_assoc]; omega
  | k + 1, h, h0, hlt, hk => by
    simp only [halfN]
    split
    · rename_i hb
      obtain ⟨g1, g2, g3⟩ := halfN_spec hn k (h + 1) (by omega) (fun j hj hj2 => by
        by_cases e : j = h
        · subst e; exact hb
        · exact hlt j hj (by omega)) (by omega)
      exact ⟨by omega, g2, g3⟩
    · rename_i hb
      exact ⟨Int.le_refl _, by omega, hlt⟩
theorem halfP_spec {n : Int} (hn : 0 ≤ n) : 0 ≤ halfP n ∧ n * n ≤ 2 * halfP n * halfP n ∧ ∀ j, 0 ≤ j → j < halfP n → 2 * j * j < n * n := by
  have := halfN_spec hn (n.toNat + 1) 0 (Int.le_refl _) (fun j h1 h2 => by omega) (by omega)
  exact this
theorem halfP_eq {n h : Int} (hn : 0 ≤ n) (h0 : 0 ≤ h) (h1 : n * n ≤ 2 * h * h) (h2 : ∀ j, 0 ≤ j → j < h → 2 * j * j < n * n) : halfP n = h := by
  obtain ⟨g0, g1, g2⟩ := halfP_spec hn
  rcases Int.lt_trichotomy (halfP n) h with h3 | h3 | h3
  · have := h2 _ g0 h3; omega
  · exact h3
  · have := g2 _ h0 h3; omega
/-- The greater part of a way is at least as long as the half says. -/
theorem half_le {n x y : Int} (hn : 0 ≤ n) (hx : 0 ≤ x) (hy : -x ≤ y ∧ y ≤ x) (h : n * n ≤ x * x + y * y) : halfP n ≤ x := by
  obtain ⟨g0, g1, g2⟩ := halfP_spec hn
  rcases Int.lt_or_le x (halfP n) with h1 | h1
  · have h2 := g2 x hx h1
    have h3 := sq_abs_le hy
    rw [Int.mul_assoc] at h2; omega
  · exact h1
/-- Both parts together are at least as long as the way. -/
theorem sum_le {n x y : Int} (_hn : 0 ≤ n) (hx : 0 ≤ x) (hy : 0 ≤ y) (h : n * n ≤ x * x + y * y) : n ≤ x + y := by
  rcases Int.lt_or_le (x + y) n with h1 | h1
  · have h2 := sq_lt (show 0 ≤ x + y by omega) h1
    have h3 := Int.mul_nonneg hx hy
    have e : (x + y) * (x + y) = x * x + y * y + 2 * (x * y) := by rw [Int.add_mul, Int.mul_add, Int.mul_add, Int.mul_comm y x]; omega
    omega
  · exact h1
/-- A way leads into an octant. -/
def octT (oc x y : Int) : Prop :=
  (oc = 0 ∧ 0 ≤ y ∧ y ≤ x) ∨ (oc = 1 ∧ 0 ≤ x ∧ x ≤ y) ∨ (oc = 2 ∧ x ≤ 0 ∧ 0 ≤ x + y) ∨ (oc = 3 ∧ 0 ≤ y ∧ x + y ≤ 0) ∨ (oc = 4 ∧ y ≤ 0 ∧ x ≤ y) ∨ (oc = 5 ∧ x ≤ 0 ∧ y ≤ x) ∨ (oc = 6 ∧ 0 ≤ x ∧ x + y ≤ 0) ∨ (oc = 7 ∧ y ≤ 0 ∧ 0 ≤ x + y)
theorem cone_in {r a : Rg} {oc n : Int} {o q : Pt} (hn : 0 ≤ n) (ho : inR a o) (hq : inR r q) (hd : n * n ≤ d2 o q) (hoc : octT oc (q.x - o.x) (q.y - o.y) ∨ oc = -1) : inR (coneR r a oc n) q := by
  unfold d2 at hd
  rcases hoc with hoc | rfl
  · generalize hx : q.x - o.x = x at hd hoc
    generalize hy : q.y - o.y = y at hd hoc
    have nxx : (-x) * (-x) = x * x := Int.neg_mul_neg x x
    have nyy : (-y) * (-y) = y * y := Int.neg_mul_neg y y
    unfold inR at ho hq
    rcases hoc with ⟨rfl, h1, h2⟩ | ⟨rfl, h1, h2⟩ | ⟨rfl, h1, h2⟩ | ⟨rfl, h1, h2⟩ | ⟨rfl, h1, h2⟩ | ⟨rfl, h1, h2⟩ | ⟨rfl, h1, h2⟩ | ⟨rfl, h1, h2⟩
    · have g1 := half_le hn (x := x) (y := y) (by omega) (by omega) (by omega)
      have g2 := sum_le hn (x := x) (y := y) (by omega) (by omega) (by omega)
      simp only [coneR, if_true, inR, up]; omega
    · have g1 := half_le hn (x := y) (y := x) (by omega) (by omega) (by omega)
      have g2 := sum_le hn (x := x) (y := y) (by omega) (by omega) (by omega)
      simp [coneR, inR, up, dn]; omega
    · have g1 := half_le hn (x := y) (y := x) (by omega) (by omega) (by omega)
      have g2 := sum_le hn (x := -x) (y := y) (by omega) (by omega) (by omega)
      simp [coneR, inR, up, dn]; omega
    · have g1 := half_le hn (x := -x) (y := y) (by omega) (by omega) (by omega)
      have g2 := sum_le hn (x := -x) (y := y) (by omega) (by omega) (by omega)
      simp [coneR, inR, up, dn]; omega
    · have g1 := half_le hn (x := -x) (y := y) (by omega) (by omega) (by omega)
      have g2 := sum_le hn (x := -x) (y := -y) (by omega) (by omega) (by omega)
      simp [coneR, inR, dn]; omega
    · have g1 := half_le hn (x := -y) (y := x) (by omega) (by omega) (by omega)
      have g2 := sum_le hn (x := -x) (y := -y) (by omega) (by omega) (by omega)
      simp [coneR, inR, up, dn]; omega
    · have g1 := half_le hn (x := -y) (y := x) (by omega) (by omega) (by omega)
      have g2 := sum_le hn (x := x) (y := -y) (by omega) (by omega) (by omega)
      simp [coneR, inR, up, dn]; omega
    · have g1 := half_le hn (x := x) (y := y) (by omega) (by omega) (by omega)
      have g2 := sum_le hn (x := x) (y := -y) (by omega) (by omega) (by omega)
      simp [coneR, inR, up, dn]; omega
  · have e : coneR r a (-1) n = r := by unfold coneR; simp
    rw [e]; exact hq
/-! ### Truth -/
/-- What a sighting says is true of a place of the ship and one of the animal. -/
def trueS (x : Sg) (o q : Pt) : Prop := (0 ≤ x.nr ∧ x.nr * x.nr ≤ d2 o q) ∧ (0 ≤ x.fr ∧ x.fr ≤ 256 ∧ d2 o q ≤ x.fr * x.fr) ∧ (octT x.oc (q.x - o.x) (q.y - o.y) ∨ x.oc = -1)
theorem tgR_tgt {r : Rg} (h : r.ok) {o : Pt} (ho : inR r o) : Tgt1 (tgR r) ∧ inR (tgR r) o := by
  obtain ⟨t, ht⟩ := tight_some ho
  unfold tgR
  rw [ht]
  exact ⟨Tgt1.of ht h, (tight_in ht o).2 ho⟩
theorem coneB {r a : Rg} {oc n : Int} {p : Pt} (h : inR (coneR r a oc n) p) : inR r p := by
  unfold coneR at h
  repeat' split at h
  all_goals (simp only [inR, up, dn] at *; omega)
/-- The region of a sighting is tight; the place of the animal lies in it. -/
theorem sight_in {s : Sc} {x : Sg} {o q : Pt} (hr : (atR s.ship x.st.toNat).ok) (ho : inR (atR s.ship x.st.toNat) o) (hq : q.ok) (h : trueS x o q) : ∃ r, sightP s x = some r ∧ inR r q := by
  obtain ⟨⟨h1, h2⟩, ⟨h3, h4, h5⟩, h6⟩ := h
  obtain ⟨ht, ho'⟩ := tgR_tgt hr ho
  have hin := reach_in ht (by omega) ho' hq h5
  have hc := cone_in h1 ho' hin h2 h6
  obtain ⟨r, hr⟩ := tight_some hc
  exact ⟨r, hr, (tight_in hr q).2 hc⟩
theorem sub_bd {r t : Rg} (h : tightP r = some t) (hall : ∀ p, inR r p → p.ok) : t.ok := by
  have ht := tight_totR h
  obtain ⟨⟨p1, a1, a2⟩, ⟨p2, b1, b2⟩, ⟨p3, c1, c2⟩, ⟨p4, d1, d2⟩, ⟨p5, e1, e2⟩, ⟨p6, f1, f2⟩, ⟨p7, g1, g2⟩, ⟨p8, i1, i2⟩⟩ := And.intro ht.xlo (And.intro ht.xhi (And.intro ht.ylo (And.intro ht.yhi (And.intro ht.slo (And.intro ht.shi (And.intro ht.dlo ht.dhi))))))
  have k1 := hall _ a1
  have k2 := hall _ b1
  have k3 := hall _ c1
  have k4 := hall _ d1
  have k5 := hall _ e1
  have k6 := hall _ f1
  have k7 := hall _ g1
  have k8 := hall _ i1
  have hs := tight_sub h
  unfold Pt.ok at *
  unfold Rg.ok Bd.fits
  omega
/-- The region of a sighting, if there is one, is tight and within the plane. -/
theorem sight_tgt {s : Sc} {x : Sg} {r : Rg} (hr : smallR (atR s.ship x.st.toNat)) (hf : 0 ≤ x.fr ∧ x.fr ≤ 256) (h : sightP s x = some r) : Tgt1 r := by
  obtain ⟨h1, _, _, h4⟩ := hr
  obtain ⟨t, ht⟩ := Option.isSome_iff_exists.1 h4
  have htg : Tgt1 (tgR (atR s.ship x.st.toNat)) := by unfold tgR; rw [ht]; exact Tgt1.of ht h1
  have hrc := reach_tgt htg (show 0 ≤ x.fr ∧ x.fr ≤ 32768 by omega)
  exact ⟨sub_bd h fun p hp => ok_inR hrc.ok (coneB hp), tight_idem h⟩
/-- What is known of an animal is a tight region. -/
def tgtK (k : Kn) : Prop := ∀ a, k = some a → Tgt1 a.1
def okShips (s : Sc) : Prop := ∀ x ∈ s.sg, smallR (atR s.ship x.st.toNat) ∧ 0 ≤ x.fr ∧ x.fr ≤ 256
theorem swim_tgt {w : Wn} {k : Kn} (hw : 0 ≤ w.speed ∧ w.speed ≤ 32) (h : tgtK k) : tgtK (swimP w k) := by
  intro a ha
  unfold swimP at ha
  cases k with
  | none => cases ha
  | some b => cases ha; exact reach_tgt (h b rfl) (by omega)
theorem see_tgt {s : Sc} {k k' : Kn} {x : Sg} (hx : smallR (atR s.ship x.st.toNat) ∧ 0 ≤ x.fr ∧ x.fr ≤ 256) (h : tgtK k) (hs : seeP s k x = some k') : tgtK k' := by
  unfold seeP at hs
  cases hr : sightP s x with
  | none => rw [hr] at hs; cases hs
  | some r =>
    rw [hr] at hs
    have ht := sight_tgt hx.1 hx.2 hr
    cases k with
    | none => simp only [Option.some.injEq] at hs; subst hs; intro a ha; cases ha; exact ht
    | some b =>
      simp only at hs
      cases hm : tightP (b.1.map2 Bd.cut r) with
      | none => rw [hm] at hs; cases hs
      | some m =>
        rw [hm] at hs
        simp only [Option.some.injEq] at hs
        subst hs
        intro a ha; cases ha
        exact ⟨sub_bd hm fun p hp => ok_inR ht.ok (inR_cut.1 hp).2, tight_idem hm⟩
theorem sees_tgt {s : Sc} : ∀ {L : List Sg} {k k' : Kn}, (∀ x ∈ L, smallR (atR s.ship x.st.toNat) ∧ 0 ≤ x.fr ∧ x.fr ≤ 256) → tgtK k → seesP s k L = some k' → tgtK k'
  | [], k, k', _, h, hs => by simp only [seesP, Option.some.injEq] at hs; subst hs; exact h
  | x :: r, k, k', hL, h, hs => by
    simp only [seesP] at hs
    cases h1 : seeP s k x with
    | none => rw [h1] at hs; cases hs
    | some k2 =>
      rw [h1] at hs
      exact sees_tgt (fun y hy => hL y (by simp [hy])) (see_tgt (hL x (by simp)) h h1) hs
theorem inStep_mem {s : Sc} {nm : ByteArray} {t : Int} {x : Sg} (h : x ∈ inStep s nm t) : x ∈ s.sg ∧ x.st = t ∧ x.nm = nm := mem_inL.1 h
theorem stepT_tgt {w : Wn} {s : Sc} {nm : ByteArray} {t : Int} {k k' : Kn} (hw : 0 ≤ w.speed ∧ w.speed ≤ 32) (hs : okShips s) (h : tgtK k) (he : stepT w s nm t k = some k') : tgtK k' := by
  unfold stepT at he
  cases h1 : seesP s (swimP w k) (inStep s nm t) with
  | none => rw [h1] at he; cases he
  | some k2 =>
    rw [h1] at he
    simp only at he
    split at he
    · simp only [Option.some.injEq] at he
      subst he
      have h2 := sees_tgt (fun x hx => hs x (inStep_mem hx).1) (swim_tgt hw h) h1
      intro a ha
      exact h2 a (Option.eq_some_of_filter_eq_some ha)
    · cases he
theorem kst_tgt {w : Wn} {s : Sc} {nm : ByteArray} (hw : 0 ≤ w.speed ∧ w.speed ≤ 32) (hs : okShips s) : ∀ {n : Nat} {k : Kn}, kst w s nm n = some k → tgtK k
  | 0, k, h => by simp only [kst, Option.some.injEq] at h; subst h; intro a ha; cases ha
  | n + 1, k, h => by
    simp only [kst] at h
    cases h1 : kst w s nm n with
    | none => rw [h1] at h; cases h
    | some k0 => rw [h1] at h; exact stepT_tgt hw hs (kst_tgt hw hs h1) h
theorem okSc.ships {s : Sc} (h : okSc s) : okShips s := by
  obtain ⟨h1, h2, h3, h4, h5, h6, h7, h8, h9⟩ := h
  intro x hx
  obtain ⟨⟨g1, g2⟩, g3, ⟨g4, g5, g6⟩, g7⟩ := h8 x hx
  exact ⟨h6 _ (atR_mem (by omega)), by omega, g6⟩

/-- The truth: where the ship and an animal are in each step. -/
structure Live (w : Wn) (s : Sc) (nm : ByteArray) (n : Nat) (o q : Nat → Pt) : Prop where
  ship : ∀ t, t < n → (atR s.ship t).ok ∧ inR (atR s.ship t) (o t)
  ok : ∀ t, t < n → (q t).ok
  swim : ∀ t, t + 1 < n → d2 (q t) (q (t + 1)) ≤ w.speed * w.speed
  seen : ∀ x ∈ s.sg, x.nm = nm → (0 ≤ x.st ∧ x.st.toNat < n) ∧ trueS x (o x.st.toNat) (q x.st.toNat)
def inK (k : Kn) (q : Pt) : Prop := ∀ a, k = some a → inR a.1 q
theorem see_in {s : Sc} {k : Kn} {x : Sg} {o q : Pt} (hr : (atR s.ship x.st.toNat).ok) (ho : inR (atR s.ship x.st.toNat) o) (hq : q.ok) (h : trueS x o q) (hk : inK k q) : ∃ k', seeP s k x = some k' ∧ inK k' q := by
  obtain ⟨r, h1, h2⟩ := sight_in hr ho hq h
  unfold seeP
  rw [h1]
  cases k with
  | none => exact ⟨_, rfl, fun a ha => by cases ha; exact h2⟩
  | some b =>
    have hb := hk b rfl
    obtain ⟨m, hm⟩ := tight_some (inR_cut.2 ⟨hb, h2⟩)
    simp only [hm]
    exact ⟨_, rfl, fun a ha => by cases ha; exact (tight_in hm q).2 (inR_cut.2 ⟨hb, h2⟩)⟩
theorem sees_in {s : Sc} {o q : Pt} (hq : q.ok) : ∀ {L : List Sg} {k : Kn}, (∀ x ∈ L, (atR s.ship x.st.toNat).ok ∧ inR (atR s.ship x.st.toNat) o ∧ trueS x o q) → inK k q → ∃ k', seesP s k L = some k' ∧ inK k' q
  | [], k, _, hk => ⟨k, rfl, hk⟩
  | x :: r, k, h, hk => by
    obtain ⟨h1, h2, h3⟩ := h x (by simp)
    obtain ⟨k1, g1, g2⟩ := see_in h1 h2 hq h3 hk
    obtain ⟨k2, g3, g4⟩ := sees_in (L := r) hq (fun y hy => h y (by simp [hy])) g2
    exact ⟨k2, by simp only [seesP, g1]; exact g3, g4⟩
theorem gapW_in {a b : Rg} (ha : a.ok) (hb : Tgt1 b) {p q : Pt} (hp : inR a p) (hq : inR b q) : (gapW a b).lo ≤ d2 p q ∧ d2 p q ≤ (gapW a b).hi := by
  obtain ⟨x, hx⟩ := tight_some hp
  obtain ⟨g, h1, h2, h3, _⟩ := gap_of ha hb.ok hx hb.tg ((tight_in hx p).2 hp) hq
  unfold gapW
  rw [h1]
  rw [d2_swap] at h2 h3
  have e : d2 q p = d2 p q := by
    unfold d2
    rw [show p.x - q.x = -(q.x - p.x) by omega, show p.y - q.y = -(q.y - p.y) by omega, Int.neg_mul_neg, Int.neg_mul_neg]
  rw [e] at h2 h3
  exact ⟨h2, h3⟩
theorem Live.kst {w : Wn} {s : Sc} {nm : ByteArray} {n : Nat} {o q : Nat → Pt} (hw : 0 ≤ w.speed ∧ w.speed ≤ 32) (hs : okShips s) (h : Live w s nm n o q) : ∀ {t : Nat}, t ≤ n → ∃ k, kst w s nm t = some k ∧ (0 < t → inK k (q (t - 1))) ∧ (t = 0 → k = none)
  | 0, _ => ⟨none, rfl, fun h => by omega, fun _ => rfl⟩
  | t + 1, ht => by
    obtain ⟨k, h1, h2, h2'⟩ := Live.kst hw hs h (t := t) (by omega)
    have htg := kst_tgt hw hs h1
    have hq := h.ok t (by omega)
    have hk : inK (swimP w k) (q t) := by
      intro a ha
      unfold swimP at ha
      cases k with
      | none => cases ha
      | some b =>
        cases ha
        have ht0 : 0 < t := by
          rcases Nat.eq_zero_or_pos t with e | e
          · have := h2' e; cases this
          · exact e
        have h3 := h2 ht0 b rfl
        have h4 := h.swim (t - 1) (by omega)
        rw [show t - 1 + 1 = t by omega] at h4
        exact reach_in (htg b rfl) (by omega) h3 hq h4
    have hL : ∀ x ∈ inStep s nm t, (atR s.ship x.st.toNat).ok ∧ inR (atR s.ship x.st.toNat) (o t) ∧ trueS x (o t) (q t) := by
      intro x hx
      obtain ⟨g1, g2, g3⟩ := inStep_mem hx
      obtain ⟨g4, g5⟩ := h.seen x g1 g3
      have e : x.st.toNat = t := by omega
      rw [e] at g5 ⊢
      exact ⟨(h.ship t (by omega)).1, (h.ship t (by omega)).2, g5⟩
    obtain ⟨k1, g1, g2⟩ := sees_in hq hL hk
    have htg1 := sees_tgt (fun x hx => hs x (inStep_mem hx).1) (swim_tgt hw htg) g1
    refine ⟨k1.filter fun a => decide ((t : Int) - a.2 ≤ w.hold), ?_, fun _ a ha => ?_, fun e => by omega⟩
    · simp only [Go.Proofs.YtaplkoimhecacaaDoor.kst, h1, stepT, g1]
      rw [if_pos]
      intro x hx
      unfold farOk
      cases k1 with
      | none => trivial
      | some a =>
        simp only
        obtain ⟨g3, g4, g5⟩ := hL x hx
        have := gapW_in g3 (htg1 a rfl) g4 (g2 a rfl)
        have h5 := g5.1.2
        omega
    · rw [show t + 1 - 1 = t by omega]
      exact g2 a (Option.eq_some_of_filter_eq_some ha)
end Go.Proofs.YtaplkoimhecacaaDoor
namespace Go.Proofs.YtaplkoimhecacaaDoor
open Go
theorem mem_modes {w : Wn} (h : 0 ≤ w.soft) {m : Int} : m ∈ modesL w ↔ 0 ≤ m ∧ m ≤ w.soft + 1 := by
  unfold modesL
  rw [List.mem_map]
  constructor
  · rintro ⟨j, hj, rfl⟩
    have := List.mem_range.1 hj
    omega
  · intro hm
    exact ⟨m.toNat, List.mem_range.2 (by omega), by omega⟩
theorem foldl_max_ge (f : Int → Int) : ∀ (l : List Int) (a : Int), a ≤ l.foldl (fun a m => max a (f m)) a
  | [], a => Int.le_refl a
  | m :: r, a => by
    simp only [List.foldl_cons]
    have := foldl_max_ge f r (max a (f m))
    omega
theorem foldl_max_mem (f : Int → Int) : ∀ (l : List Int) (a : Int), ∀ m ∈ l, f m ≤ l.foldl (fun a m => max a (f m)) a
  | [], _, m, h => by cases h
  | x :: r, a, m, h => by
    simp only [List.foldl_cons]
    rcases List.mem_cons.1 h with rfl | h
    · have := foldl_max_ge f r (max a (f m)); omega
    · exact foldl_max_mem f r _ m h
theorem foldl_max_at (f : Int → Int) : ∀ (l : List Int) (a : Int), l.foldl (fun a m => max a (f m)) a = a ∨ ∃ m ∈ l, l.foldl (fun a m => max a (f m)) a = f m
  | [], a => .inl rfl
  | x :: r, a => by
    simp only [List.foldl_cons]
    rcases foldl_max_at f r (max a (f x)) with h | ⟨m, h1, h2⟩
    · rw [h]
      rcases Int.le_total a (f x) with h3 | h3
      · exact .inr ⟨x, by simp, by omega⟩
      · exact .inl (by omega)
    · exact .inr ⟨m, List.mem_cons_of_mem _ h1, h2⟩
theorem mostF_nn (g : Lg) : ∀ (n : Nat) (t : Int) (x : Sta), 0 ≤ mostF g n t x
  | 0, _, _ => Int.le_refl 0
  | _n + 1, _t, _x => foldl_max_ge _ _ _
theorem mostF_le (g : Lg) : ∀ (n : Nat) (t : Int) (x : Sta), mostF g n t x ≤ n
  | 0, _, _ => Int.le_refl 0
  | n + 1, t, x => by
    rw [mostF_succ]
    rcases foldl_max_at (gainF g n t x) (modesL g.w) 0 with h | ⟨m, _, h⟩
    · rw [h]; omega
    · rw [h]
      unfold gainF
      have := mostF_le g n (t + 1) (afterP g t x m)
      split
      · omega
      · split <;> omega
theorem broken0 (g : Lg) (t : Int) (x : Sta) : brokenP g t x 0 = 0 := if_pos rfl
/-- Some mode gains the most. -/
theorem gain_at (g : Lg) (hs : 0 ≤ g.w.soft) (n : Nat) (t : Int) (x : Sta) : ∃ m ∈ modesL g.w, gainF g n t x m = mostF g (n + 1) t x := by
  rw [mostF_succ]
  rcases foldl_max_at (gainF g n t x) (modesL g.w) 0 with h | ⟨m, h1, h2⟩
  · have h0 : (0 : Int) ∈ modesL g.w := (mem_modes hs).2 (by omega)
    refine ⟨0, h0, ?_⟩
    have h1 := foldl_max_mem (gainF g n t x) (modesL g.w) 0 0 h0
    have h2 : 0 ≤ gainF g n t x 0 := by
      unfold gainF
      rw [broken0, if_neg (by simp)]
      have := mostF_nn g n (t + 1) (afterP g t x 0)
      split <;> omega
    omega
  · exact ⟨m, h1, h2.symm⟩
def bestM (g : Lg) (n : Nat) (t : Int) (x : Sta) : Int := ((modesL g.w).find? fun m => decide (gainF g n t x m = mostF g (n + 1) t x)).getD 0
theorem bestF_succ (g : Lg) (n : Nat) (t : Int) (x : Sta) : bestF g (n + 1) t x = bestM g n t x :: bestF g n (t + 1) (afterP g t x (bestM g n t x)) := rfl
end Go.Proofs.YtaplkoimhecacaaDoor
namespace Go.Proofs.YtaplkoimhecacaaDoor
open Go
def mdAt (ms : List Int) (t : Nat) : Int := (ms[t]?).getD 0
/-- The state behind so many steps of a plan. -/
def stAt (g : Lg) (ms : List Int) : Nat → Sta
  | 0 => sta0
  | n + 1 => afterP g n (stAt g ms n) (mdAt ms n)
theorem mdAt_of {ms : List Int} {t : Nat} {m : Int} (h : ms[t]? = some m) : mdAt ms t = m := by unfold mdAt; rw [h]; rfl
theorem quietP_full {g : Lg} {x : Sta} (h : x.md = g.w.soft + 1) : quietP g x = if g.w.pause < 1 then -1 else 1 := by unfold quietP; simp [h]
theorem quietP_qu {g : Lg} {x : Sta} (h : x.md ≠ g.w.soft + 1) (hq : 0 < x.qu) : quietP g x = if g.w.pause < x.qu + 1 then -1 else x.qu + 1 := by unfold quietP; simp [h, hq]
theorem quietP_no {g : Lg} {x : Sta} (h : x.md ≠ g.w.soft + 1) (hq : ¬ 0 < x.qu) : quietP g x = -1 := by unfold quietP; simp [h, hq]
/-! ### Whole soft starts -/
/-- Each step up to k breaks no rule. -/
def okUp (g : Lg) (ms : List Int) (n : Nat) : Prop := ∀ t, t < n → brokenP g t (stAt g ms t) (mdAt ms t) = 0
/-- The first step that breaks a rule, by the states. -/
theorem judgeF_at (g : Lg) (ms : List Int) : ∀ (n : Nat) (t : Nat), ms.length = t + n → okUp g ms t → ∃ T : Nat, (judgeF g t (stAt g ms t) (ms.drop t)).1 = T ∧ T ≤ ms.length ∧ okUp g ms T ∧
    (T < ms.length → (judgeF g t (stAt g ms t) (ms.drop t)).2 = brokenP g T (stAt g ms T) (mdAt ms T) ∧ brokenP g T (stAt g ms T) (mdAt ms T) ≠ 0) ∧ (T = ms.length → (judgeF g t (stAt g ms t) (ms.drop t)).2 = 0)
  | 0, t, hn, hok => by
    rw [List.drop_eq_nil_of_le (by omega)]
    exact ⟨t, rfl, by omega, hok, fun h => by omega, fun _ => rfl⟩
  | n + 1, t, hn, hok => by
    have hlt : t < ms.length := by omega
    rw [List.drop_eq_getElem_cons hlt]
    have hm : mdAt ms t = ms[t] := mdAt_of (List.getElem?_eq_getElem hlt)
    simp only [judgeF]
    by_cases hb : brokenP g t (stAt g ms t) (ms[t]) = 0
    · rw [if_pos hb]
      have ih := judgeF_at g ms n (t + 1) (by omega) (fun j hj => by
        by_cases e : j = t
        · subst e; rw [hm]; exact hb
        · exact hok j (by omega))
      have e : stAt g ms (t + 1) = afterP g t (stAt g ms t) ms[t] := by simp only [stAt, hm]
      rw [e] at ih
      push_cast at ih
      exact ih
    · rw [if_neg hb]
      exact ⟨t, rfl, by omega, hok, fun _ => ⟨by rw [hm], by rw [hm]; exact hb⟩, fun h => by omega⟩
end Go.Proofs.YtaplkoimhecacaaDoor
namespace Go.Proofs.YtaplkoimhecacaaDoor
open Go
theorem tight_of_ends {a t u : Rg} (h : tightP a = some t) (e : ∀ p, inR a p → inR u p) : (u.x.lo ≤ t.x.lo ∧ t.x.hi ≤ u.x.hi) ∧ (u.y.lo ≤ t.y.lo ∧ t.y.hi ≤ u.y.hi) ∧ (u.s.lo ≤ t.s.lo ∧ t.s.hi ≤ u.s.hi) ∧ (u.d.lo ≤ t.d.lo ∧ t.d.hi ≤ u.d.hi) := by
  have h := tight_totR h
  obtain ⟨p1, m1, e1⟩ := h.xlo
  obtain ⟨p2, m2, e2⟩ := h.xhi
  obtain ⟨p3, m3, e3⟩ := h.ylo
  obtain ⟨p4, m4, e4⟩ := h.yhi
  obtain ⟨p5, m5, e5⟩ := h.slo
  obtain ⟨p6, m6, e6⟩ := h.shi
  obtain ⟨p7, m7, e7⟩ := h.dlo
  obtain ⟨p8, m8, e8⟩ := h.dhi
  have := e p1 m1
  have := e p2 m2
  have := e p3 m3
  have := e p4 m4
  have := e p5 m5
  have := e p6 m6
  have := e p7 m7
  have := e p8 m8
  unfold inR at *
  refine ⟨⟨?_, ?_⟩, ⟨?_, ?_⟩, ⟨?_, ?_⟩, ⟨?_, ?_⟩⟩ <;> omega
/-- What is known is more. -/
def leK : Kn → Kn → Prop
  | none, none => True
  | some a', some a => a'.2 = a.2 ∧ ∀ p, inR a'.1 p → inR a.1 p
  | _, _ => False
theorem leK.refl (k : Kn) : leK k k := by cases k with
  | none => exact True.intro
  | some a => exact ⟨rfl, fun _ h => h⟩
/-! ### Gaps -/
/-! ### Milder numbers -/
structure Less (w' w : Wn) : Prop where
  zone : 0 ≤ w'.zone ∧ w'.zone ≤ w.zone
  speed : 0 ≤ w'.speed ∧ w'.speed ≤ w.speed ∧ w.speed ≤ 32
  hold : w'.hold = w.hold
  pre : w'.pre = w.pre
  delay : 0 ≤ w'.delay ∧ w'.delay ≤ w.delay
  soft : w'.soft = w.soft
  pause : w.pause ≤ w'.pause
structure LessG (g' g : Lg) : Prop where
  w : Less g'.w g.w
  s : g'.s = g.s
  d : ∀ t : Int, bAt g'.d t = true → bAt g.d t = true
theorem anyTr_iff {l : List Bool} {a b : Int} : anyTr l a b = true ↔ ∃ j : Nat, (j : Int) < b - a ∧ bAt l (a + j) = true := by
  unfold anyTr
  rw [List.any_eq_true]
  constructor
  · rintro ⟨j, h1, h2⟩; exact ⟨j, by have := List.mem_range.1 h1; omega, h2⟩
  · rintro ⟨j, h1, h2⟩; exact ⟨j, List.mem_range.2 (by omega), h2⟩
/-! ### A sighting more -/
end Go.Proofs.YtaplkoimhecacaaDoor
