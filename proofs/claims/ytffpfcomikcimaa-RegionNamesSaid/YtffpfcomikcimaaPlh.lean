/-
  Plain Lean: rows cut by the sides of a field. No condition, no program.
-/
import Derived.Test.YtffpfcomikcimaaPlf
namespace Go.Proofs.Ytffpfcomikcimaa

theorem ediv_uniq {x y b : Int} (hb : 0 < b) (h1 : y * b ≤ x) (h2 : x < (y + 1) * b) : x / b = y := by
  have a1 : y ≤ x / b := (Int.le_ediv_iff_mul_le hb).2 h1
  have a2 : x / b < y + 1 := (Int.ediv_lt_iff_lt_mul hb).2 h2
  omega
theorem tdiv_m (a b : Int) : a.tdiv b * b + a.tmod b = a := by rw [Int.mul_comm]; exact Int.mul_tdiv_add_tmod a b
/-- A quotient, rounded down (the divisor is greater than 0). -/
theorem down_eq {a b : Int} (hb : 0 < b) : (if a.tmod b < 0 then a.tdiv b - 1 else a.tdiv b) = a / b := by
  have h := tdiv_m a b
  rcases Int.le_total 0 a with h0 | h0
  · have h1 := Int.tmod_nonneg b h0
    rw [if_neg (by omega), Int.tdiv_eq_ediv_of_nonneg h0]
  · have h1 : 0 ≤ (-a).tmod b := Int.tmod_nonneg b (by omega)
    have h2 : (-a).tmod b < b := Int.tmod_lt_of_pos _ hb
    rw [Int.neg_tmod] at h1 h2
    symm
    split
    · rename_i hneg
      refine ediv_uniq hb ?_ ?_
      · rw [Int.sub_mul, Int.one_mul]; omega
      · rw [show a.tdiv b - 1 + 1 = a.tdiv b by omega]; omega
    · refine ediv_uniq hb ?_ ?_
      · omega
      · rw [Int.add_mul, Int.one_mul]; omega
theorem down_eqn {a b : Int} (hb : b < 0) : (if a.tmod b ≠ 0 ∧ ¬ a < 0 then a.tdiv b - 1 else a.tdiv b) = (-a) / (-b) := by
  have h := down_eq (a := -a) (b := -b) (by omega)
  rw [Int.neg_tdiv, Int.tdiv_neg, Int.neg_neg, Int.neg_tmod, Int.tmod_neg] at h
  rw [← h]
  have hs : 0 ≤ a → 0 ≤ a.tmod b := fun h0 => Int.tmod_nonneg b h0
  have hn : a ≤ 0 → a.tmod b ≤ 0 := fun h0 => by
    have := Int.tmod_nonneg b (show 0 ≤ -a by omega)
    rw [Int.neg_tmod] at this; omega
  by_cases h0 : a < 0
  · have := hn (by omega)
    rw [if_neg (by omega), if_neg (by omega)]
  · have := hs (by omega)
    by_cases h1 : a.tmod b = 0
    · rw [if_neg (by omega), if_neg (by omega)]
    · rw [if_pos ⟨h1, h0⟩, if_pos (by omega)]
theorem down_eqp {a b : Int} (hb : 0 < b) : (if a.tmod b ≠ 0 ∧ a < 0 then a.tdiv b - 1 else a.tdiv b) = a / b := by
  rw [← down_eq hb]
  have hs : 0 ≤ a → 0 ≤ a.tmod b := fun h0 => Int.tmod_nonneg b h0
  have hn : a ≤ 0 → a.tmod b ≤ 0 := fun h0 => by
    have := Int.tmod_nonneg b (show 0 ≤ -a by omega)
    rw [Int.neg_tmod] at this; omega
  by_cases h0 : a < 0
  · have := hn (by omega)
    by_cases h1 : a.tmod b = 0
    · rw [if_neg (by omega), if_neg (by omega)]
    · rw [if_pos ⟨h1, h0⟩, if_pos (by omega)]
  · have := hs (by omega)
    rw [if_neg (by omega), if_neg (by omega)]
theorem ediv_bd {n k m : Int} (hk : 0 < k) (hm : 0 ≤ m) (h : -m ≤ n ∧ n ≤ m) : -m ≤ n / k ∧ n / k ≤ m := by
  rcases Int.le_total 0 n with h0 | h0
  · have h1 := Int.ediv_nonneg h0 (show 0 ≤ k by omega)
    have h2 := Int.ediv_le_self k h0
    omega
  · have h1 : n ≤ n / k := (Int.le_ediv_iff_mul_le hk).2 (by
      have := Int.mul_le_mul_of_nonneg_right (show 1 ≤ k by omega) (show 0 ≤ -n by omega)
      rw [Int.one_mul, Int.mul_neg] at this
      rw [Int.mul_comm]; omega)
    have h2 : n / k < 1 := (Int.ediv_lt_iff_lt_mul hk).2 (by omega)
    omega

def cutK (a b : Pt) : Int := b.x - a.x
def cutN (a b : Pt) (x : Int) : Int := cutK a b * a.y + (b.y - a.y) * (x - a.x)
def cutW (a b : Pt) (w : Rw) : Rw :=
  if 0 < cutK a b then ⟨w.x, max w.a (-((-cutN a b w.x) / cutK a b)), w.b⟩
  else if cutK a b < 0 then ⟨w.x, w.a, min w.b ((-cutN a b w.x) / (-cutK a b))⟩
  else if 0 < cutN a b w.x then ⟨w.x, w.a, w.a - 1⟩ else w
theorem cutW_x (a b : Pt) (w : Rw) : (cutW a b w).x = w.x := by unfold cutW; split; rfl; split; rfl; split <;> rfl
def cutsW (l : List (Pt × Pt)) (w : Rw) : Rw := l.foldl (fun w s => cutW s.1 s.2 w) w
theorem cutsW_snoc (l : List (Pt × Pt)) (s : Pt × Pt) (w : Rw) : cutsW (l ++ [s]) w = cutW s.1 s.2 (cutsW l w) := by simp [cutsW]
theorem cut_empty {a b : Pt} {w : Rw} (h : w.b < w.a) : (cutW a b w).b < (cutW a b w).a := by
  unfold cutW; split
  · simp only; omega
  · split
    · simp only; omega
    · split
      · simp only; omega
      · exact h
theorem cuts_empty : ∀ (l : List (Pt × Pt)) {w : Rw}, w.b < w.a → (cutsW l w).b < (cutsW l w).a
  | [], _, h => h
  | _ :: l, _, h => cuts_empty l (cut_empty h)
theorem cutsW_x : ∀ (l : List (Pt × Pt)) (w : Rw), (cutsW l w).x = w.x
  | [], _ => rfl
  | s :: l, w => by
    show (cutsW l (cutW s.1 s.2 w)).x = w.x
    rw [cutsW_x l, cutW_x]
/-- A row of which nothing is left at one side has nothing at all. -/
theorem cuts_none {l pre post : List (Pt × Pt)} {s : Pt × Pt} {w : Rw} (h : l = pre ++ s :: post) (hk : cutK s.1 s.2 = 0) (hn : 0 < cutN s.1 s.2 w.x) : (cutsW l w).b < (cutsW l w).a := by
  rw [h, show pre ++ s :: post = (pre ++ [s]) ++ post by simp]
  have : (cutsW (pre ++ [s]) w).b < (cutsW (pre ++ [s]) w).a := by
    rw [cutsW_snoc]
    unfold cutW
    rw [if_neg (by omega), if_neg (by omega), if_pos (by rw [cutsW_x]; exact hn)]
    simp only; omega
  unfold cutsW at *
  rw [List.foldl_append]
  exact cuts_empty post this
def hitW (f : List Pt) (w : Rw) : Bool := decide ((cutsW (sidesL f) w).a ≤ (cutsW (sidesL f) w).b)
def hitP (f : List Pt) (l : List Rw) : Option Pt := (l.find? (hitW f)).map fun w => ⟨w.x, (cutsW (sidesL f) w).a⟩
theorem hitP_some {f : List Pt} {l pre post : List Rw} {w : Rw} (h : l = pre ++ w :: post) (hno : ∀ u ∈ pre, hitW f u = false) (hw : hitW f w = true) : hitP f l = some ⟨w.x, (cutsW (sidesL f) w).a⟩ := by
  unfold hitP
  rw [h, List.find?_append, List.find?_eq_none.2 (by simpa using hno), List.find?_cons_of_pos hw]; rfl
theorem hitP_none {f : List Pt} {l : List Rw} (hno : ∀ u ∈ l, hitW f u = false) : hitP f l = none := by
  unfold hitP; rw [List.find?_eq_none.2 (by simpa using hno)]; rfl
def hitE (f : List Pt) (r : Rg) : Pt × Int := if fieldB f = true then (if r.ok then (match hitP f (rows r) with | some p => (p, 0) | none => (zP, 4)) else (zP, 11)) else (zP, 12)
/-- Bounds that the cuts keep. -/
def Rw.bd (w : Rw) : Prop := (-2097152 ≤ w.x ∧ w.x ≤ 2097152) ∧ (-1099511627776 ≤ w.a ∧ w.a ≤ 1099511627776) ∧ (-1099511627777 ≤ w.b ∧ w.b ≤ 1099511627777)
end Go.Proofs.Ytffpfcomikcimaa
