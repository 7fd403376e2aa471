/-
  Plain Lean: fields. No condition, no program.
-/
import Derived.Test.YtffpfcomikcimaaPlx
namespace Go.Proofs.Ytffpfcomikcimaa

def turnP (a b c : Pt) : Int := (b.x - a.x) * (c.y - a.y) - (b.y - a.y) * (c.x - a.x)
def atP (f : List Pt) (i : Nat) : Pt := (f[i]?).getD zP
def nxt (f : List Pt) (i : Nat) : Nat := (i + 1) % f.length
def sidesL (f : List Pt) : List (Pt × Pt) := (List.range f.length).map fun i => (atP f i, atP f (nxt f i))
def inF (f : List Pt) (p : Pt) : Bool := (sidesL f).all fun s => decide (0 ≤ turnP s.1 s.2 p)
def fieldB (f : List Pt) : Bool := decide (3 ≤ f.length ∧ f.length ≤ 8) && (f.all (fun p => decide p.ok) &&
  (List.range f.length).all fun i => (List.range f.length).all fun j => decide (j = i) || (decide (j = nxt f i) || decide (0 < turnP (atP f i) (atP f (nxt f i)) (atP f j))))
def chkF (f : List Pt) : Int := if fieldB f = true then 0 else 12
def FieldOk (f : List Pt) : Prop := (3 ≤ f.length ∧ f.length ≤ 8) ∧ (∀ p ∈ f, p.ok) ∧ ∀ i j, i < f.length → j < f.length → j ≠ i → j ≠ nxt f i → 0 < turnP (atP f i) (atP f (nxt f i)) (atP f j)
theorem fieldB_iff {f : List Pt} : fieldB f = true ↔ FieldOk f := by
  unfold fieldB FieldOk
  simp only [Bool.and_eq_true, decide_eq_true_eq, List.all_eq_true, List.mem_range, Bool.or_eq_true]
  constructor
  · rintro ⟨h1, h2, h3⟩
    exact ⟨h1, h2, fun i j hi hj h4 h5 => by rcases h3 i hi j hj with h | h | h; exact absurd h h4; exact absurd h h5; exact h⟩
  · rintro ⟨h1, h2, h3⟩
    refine ⟨h1, h2, fun i hi j hj => ?_⟩
    by_cases h4 : j = i
    · exact .inl h4
    · by_cases h5 : j = nxt f i
      · exact .inr (.inl h5)
      · exact .inr (.inr (h3 i j hi hj h4 h5))
theorem chkF_zero {f : List Pt} : chkF f = 0 ↔ FieldOk f := by rw [← fieldB_iff]; unfold chkF; split <;> simp_all
theorem chkF_no {f : List Pt} (h : ¬ FieldOk f) : chkF f = 12 := by rw [← fieldB_iff] at h; exact if_neg h
theorem chkF_ok {f : List Pt} (h : FieldOk f) : chkF f = 0 := chkF_zero.2 h
theorem chkF_nz {f : List Pt} : chkF f ≠ 0 ↔ ¬ FieldOk f := by rw [← chkF_zero]
theorem atP_of {f : List Pt} {i : Nat} {z : Pt} (h : f[i]? = some z) : atP f i = z := by unfold atP; rw [h]; rfl
theorem sides_get {f : List Pt} {i : Nat} (h : i < f.length) : (sidesL f)[i]? = some (atP f i, atP f (nxt f i)) := by
  unfold sidesL; rw [List.getElem?_map, List.getElem?_range h]; rfl
theorem sides_len (f : List Pt) : (sidesL f).length = f.length := by simp [sidesL]
theorem inF_snoc {l : List (Pt × Pt)} : ∀ {s : Pt × Pt} {p : Pt}, (l ++ [s]).all (fun s => decide (0 ≤ turnP s.1 s.2 p)) = (l.all (fun s => decide (0 ≤ turnP s.1 s.2 p)) && decide (0 ≤ turnP s.1 s.2 p)) := by
  intro s p; simp
theorem mod_bd {i n : Int} (hn : 0 < n) : 0 ≤ i % n ∧ i % n < n := ⟨Int.emod_nonneg _ (by omega), Int.emod_lt_of_pos _ hn⟩
theorem nxt_lt {f : List Pt} {i : Nat} (h : i < f.length) : nxt f i < f.length := Nat.mod_lt _ (by omega)
theorem nxt_int {f : List Pt} {n : Nat} {i : Int} (hn : f.length = n) (h0 : 0 ≤ i) : ((i + 1) % (n : Int)).toNat = nxt f i.toNat := by
  unfold nxt
  obtain ⟨m, rfl⟩ := Int.eq_ofNat_of_zero_le h0
  rw [hn]
  simp only [Int.ofNat_eq_natCast, Int.toNat_natCast]
  rw [show ((m : Int) + 1) = ((m + 1 : Nat) : Int) by omega, ← Int.natCast_emod, Int.toNat_natCast]
def inE (f : List Pt) (p : Pt) : Bool × Int := if fieldB f = true then (if p.ok then (inF f p, 0) else (false, 10)) else (false, 12)
def coversE (f : List Pt) (r : Rg) : Bool × Int := if fieldB f = true then (if r.ok then (if endsOf r = [] then (false, 4) else ((endsOf r).all (inF f), 0)) else (false, 11)) else (false, 12)
end Go.Proofs.Ytffpfcomikcimaa
