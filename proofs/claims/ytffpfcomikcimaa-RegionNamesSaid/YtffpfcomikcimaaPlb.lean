/-
  Plain Lean: rows, ends, hulls. No condition, no program.
-/
import Derived.Test.YtffpfcomikcimaaPla
namespace Go.Proofs.Ytffpfcomikcimaa

structure Rw where
  x : Int
  a : Int
  b : Int
  deriving DecidableEq

def xsF (lo : Int) : Nat → List Int
  | 0 => []
  | n + 1 => xsF lo n ++ [lo + n]
def Bd.len (b : Bd) : Nat := (b.hi + 1 - b.lo).toNat
def rowOf (r : Rg) (x : Int) : Rw := ⟨x, max (max r.y.lo (r.s.lo - x)) (x - r.d.hi), min (min r.y.hi (r.s.hi - x)) (x - r.d.lo)⟩
def rowL (r : Rg) (x : Int) : List Rw := if (rowOf r x).a ≤ (rowOf r x).b then [rowOf r x] else []
def rowsN (r : Rg) (n : Nat) : List Rw := (xsF r.x.lo n).flatMap (rowL r)
def rows (r : Rg) : List Rw := rowsN r r.x.len
def endL (w : Rw) : List Pt := if w.a = w.b then [⟨w.x, w.a⟩] else [⟨w.x, w.a⟩, ⟨w.x, w.b⟩]
def endsOf (r : Rg) : List Pt := (rows r).flatMap endL

theorem mem_xsF {lo x : Int} : ∀ {n : Nat}, x ∈ xsF lo n ↔ lo ≤ x ∧ x < lo + n
  | 0 => by simp [xsF]
  | n + 1 => by simp [xsF, mem_xsF (n := n)]; omega

theorem rowsN_succ (r : Rg) (n : Nat) : rowsN r (n + 1) = rowsN r n ++ rowL r (r.x.lo + n) := by simp [rowsN, xsF]
theorem xsF_split (lo : Int) (n : Nat) : ∀ m, n < m → ∃ post, xsF lo m = xsF lo n ++ (lo + n) :: post
  | 0, h => by omega
  | m + 1, h => by
    by_cases e : n = m
    · subst e; exact ⟨[], rfl⟩
    · obtain ⟨post, hp⟩ := xsF_split lo n m (by omega)
      exact ⟨post ++ [lo + m], by simp [xsF, hp]⟩
theorem rows_split (r : Rg) (n : Nat) (h : n < r.x.len) (hr : (rowOf r (r.x.lo + n)).a ≤ (rowOf r (r.x.lo + n)).b) : ∃ post, rows r = rowsN r n ++ rowOf r (r.x.lo + n) :: post := by
  obtain ⟨post, hp⟩ := xsF_split r.x.lo n _ h
  refine ⟨post.flatMap (rowL r), ?_⟩
  simp only [rows, rowsN, hp, List.flatMap_append, List.flatMap_cons]
  congr 1
  simp [rowL, hr]

theorem mem_rows {r : Rg} {w : Rw} : w ∈ rows r ↔ (r.x.lo ≤ w.x ∧ w.x ≤ r.x.hi) ∧ w = rowOf r w.x ∧ w.a ≤ w.b := by
  unfold rows rowsN rowL
  simp only [List.mem_flatMap, mem_xsF, Bd.len]
  constructor
  · rintro ⟨x, hx, hw⟩
    split at hw
    · rename_i h
      simp only [List.mem_singleton] at hw
      subst hw
      refine ⟨by simp only [rowOf]; omega, rfl, h⟩
    · cases hw
  · rintro ⟨hx, hw, hab⟩
    refine ⟨w.x, by omega, ?_⟩
    rw [← hw, if_pos hab]; simp

/-- A point lies in four bounds. -/
def inR (r : Rg) (p : Pt) : Prop := (r.x.lo ≤ p.x ∧ p.x ≤ r.x.hi) ∧ (r.y.lo ≤ p.y ∧ p.y ≤ r.y.hi) ∧ (r.s.lo ≤ p.x + p.y ∧ p.x + p.y ≤ r.s.hi) ∧ (r.d.lo ≤ p.x - p.y ∧ p.x - p.y ≤ r.d.hi)
instance (r : Rg) (p : Pt) : Decidable (inR r p) := by unfold inR; exact inferInstance
theorem inR_row {r : Rg} {p : Pt} : inR r p ↔ (r.x.lo ≤ p.x ∧ p.x ≤ r.x.hi) ∧ (rowOf r p.x).a ≤ p.y ∧ p.y ≤ (rowOf r p.x).b := by
  unfold inR rowOf; simp only; omega

theorem mem_ends {r : Rg} {p : Pt} : p ∈ endsOf r ↔ inR r p ∧ (p.y = (rowOf r p.x).a ∨ p.y = (rowOf r p.x).b) := by
  rw [inR_row]
  unfold endsOf
  simp only [List.mem_flatMap, mem_rows]
  constructor
  · rintro ⟨w, ⟨hx, hw, hab⟩, hp⟩
    unfold endL at hp
    split at hp <;> simp only [List.mem_cons, List.not_mem_nil, or_false] at hp
    · subst hp
      simp only
      rw [← hw]; omega
    · rcases hp with rfl | rfl <;> (simp only; rw [← hw]; omega)
  · rintro ⟨⟨hx, h1⟩, h2⟩
    refine ⟨rowOf r p.x, ⟨hx, rfl, by omega⟩, ?_⟩
    obtain ⟨px, py⟩ := p
    unfold endL
    simp only at h2 ⊢
    have hx : (rowOf r px).x = px := rfl
    split <;> rcases h2 with h2 | h2 <;> simp [h2, hx] <;> omega

/-! ### Hulls -/
def ofP (p : Pt) : Rg := ⟨⟨p.x, p.x⟩, ⟨p.y, p.y⟩, ⟨p.x + p.y, p.x + p.y⟩, ⟨p.x - p.y, p.x - p.y⟩⟩
def Bd.span (a b : Bd) : Bd := ⟨min a.lo b.lo, max a.hi b.hi⟩
def Bd.cut (a b : Bd) : Bd := ⟨max a.lo b.lo, min a.hi b.hi⟩
def Bd.plus (a b : Bd) : Bd := ⟨a.lo + b.lo, a.hi + b.hi⟩
def Bd.minus (a b : Bd) : Bd := ⟨a.lo - b.hi, a.hi - b.lo⟩
def Rg.map2 (f : Bd → Bd → Bd) (a b : Rg) : Rg := ⟨f a.x b.x, f a.y b.y, f a.s b.s, f a.d b.d⟩
def zR : Rg := ⟨⟨0, 0⟩, ⟨0, 0⟩, ⟨0, 0⟩, ⟨0, 0⟩⟩
/-- A point more. The hull so far is none: 'Option.none'. -/
def addP (h : Option Rg) (p : Pt) : Option Rg := some ((h.getD (ofP p)).map2 Bd.span (ofP p))
def hullP (l : List Pt) : Option Rg := l.foldl addP Option.none
def tightP (r : Rg) : Option Rg := hullP (endsOf r)

theorem addP_twice (h : Option Rg) (p : Pt) : addP (addP h p) p = addP h p := by
  simp only [addP, Option.getD_some]
  congr 1
  simp only [Rg.map2, Bd.span, ofP]
  congr 1 <;> congr 1 <;> omega

/-- Numbers of a magnitude for which nothing can overflow. -/
def Bd.sm (b : Bd) (m : Int) : Prop := (-m ≤ b.lo ∧ b.lo ≤ m) ∧ -m ≤ b.hi ∧ b.hi ≤ m
def Rg.sm (r : Rg) (m : Int) : Prop := r.x.sm m ∧ r.y.sm m ∧ r.s.sm m ∧ r.d.sm m
def Pt.sm (p : Pt) (m : Int) : Prop := (-m ≤ p.x ∧ p.x ≤ m) ∧ -m ≤ p.y ∧ p.y ≤ m
theorem Rg.sm.mono {r : Rg} {m n : Int} (h : r.sm m) (hmn : m ≤ n) : r.sm n := by
  unfold Rg.sm Bd.sm at *; omega
theorem Rg.ok.sm {r : Rg} (h : r.ok) : r.sm 65536 := by
  unfold Rg.ok Bd.fits at h; unfold Rg.sm Bd.sm; omega
theorem rows_sm {r : Rg} {m : Int} (h : r.sm m) {w : Rw} (hw : w ∈ rows r) : (-m ≤ w.x ∧ w.x ≤ m) ∧ (-m ≤ w.a ∧ w.a ≤ m) ∧ -m ≤ w.b ∧ w.b ≤ m := by
  obtain ⟨hx, hw, hab⟩ := mem_rows.1 hw
  have h1 : w.a = (rowOf r w.x).a := by rw [← hw]
  have h2 : w.b = (rowOf r w.x).b := by rw [← hw]
  unfold rowOf at h1 h2; unfold Rg.sm Bd.sm at h; simp only at h1 h2; omega
theorem ends_sm {r : Rg} {m : Int} (h : r.sm m) {p : Pt} (hp : p ∈ endsOf r) : p.sm m := by
  obtain ⟨h1, h2⟩ := mem_ends.1 hp
  unfold inR at h1; unfold Rg.sm Bd.sm at h; unfold Pt.sm; omega
theorem hullP_snoc (l : List Pt) (p : Pt) : hullP (l ++ [p]) = addP (hullP l) p := by simp [hullP]
theorem optN {α : Type} {h : Option α} (e : (!h.isSome) = true) : h = none := by cases h <;> simp_all
theorem optS {α : Type} {h : Option α} (e : (!h.isSome) = false) : ∃ g, h = some g := by cases h <;> simp_all
def errO (h : Option Rg) : Int := if h.isSome then 0 else 4
/-- A region, or none, and the error. -/
abbrev RE := Rg × Int
def optE (h : Option Rg) : RE := (h.getD zR, errO h)
def tightE (r : Rg) : RE := if r.ok then optE (tightP r) else (zR, 11)
theorem chkR_ok {r : Rg} (h : r.ok) : chkR r = 0 := if_pos h
theorem chkR_no {r : Rg} (h : ¬ r.ok) : chkR r = 11 := if_neg h
theorem chkR_zero {r : Rg} : chkR r = 0 ↔ r.ok := by unfold chkR; split <;> simp_all
theorem chkR_nz {r : Rg} : chkR r ≠ 0 ↔ ¬ r.ok := by rw [← chkR_zero]
theorem chkP_zero {p : Pt} : chkP p = 0 ↔ p.ok := by unfold chkP; split <;> simp_all
theorem chkP_nz {p : Pt} : chkP p ≠ 0 ↔ ¬ p.ok := by rw [← chkP_zero]
theorem chkP_no {p : Pt} (h : ¬ p.ok) : chkP p = 10 := if_neg h
theorem Pt.ok.sm {p : Pt} (h : p.ok) : p.sm 32768 := by unfold Pt.ok at h; unfold Pt.sm; omega
theorem Pt.sm.mono {r : Pt} {m n : Int} (h : r.sm m) (hmn : m ≤ n) : r.sm n := by unfold Pt.sm at *; omega
theorem errO_none {h : Option Rg} (e : h = none) : errO h = 4 := by subst e; rfl
theorem errO_some {h : Option Rg} {g : Rg} (e : h = some g) : errO h = 0 := by subst e; rfl
end Go.Proofs.Ytffpfcomikcimaa
