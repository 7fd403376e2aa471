/-
  Plain Lean: roots, and how far x + y of a vector of a length can be. No condition, no program.
-/
import Derived.Test.YtffpfcomikcimaaPlc
namespace Go.Proofs.Ytffpfcomikcimaa

theorem sq_mono {a b : Int} (ha : 0 ≤ a) (h : a ≤ b) : a * a ≤ b * b := Int.mul_le_mul h h ha (by omega)
theorem sq_lt {a b : Int} (ha : 0 ≤ a) (h : a < b) : a * a < b * b := by
  have h1 : a * a ≤ a * b := Int.mul_le_mul_of_nonneg_left (by omega) ha
  have h2 : a * b < b * b := Int.mul_lt_mul_of_pos_right h (by omega)
  omega
theorem sq_le_iff {a b : Int} (ha : 0 ≤ a) (hb : 0 ≤ b) : a * a ≤ b * b ↔ a ≤ b := by
  constructor
  · intro h
    rcases Int.lt_or_le b a with h1 | h1
    · have := sq_lt hb h1; omega
    · exact h1
  · exact sq_mono ha
theorem sq_nn (a : Int) : 0 ≤ a * a := by
  rcases Int.le_total 0 a with h | h
  · exact Int.mul_nonneg h h
  · have := Int.mul_nonneg (show 0 ≤ -a by omega) (show 0 ≤ -a by omega)
    rwa [Int.neg_mul_neg] at this

def IsRt (n r : Int) : Prop := 0 ≤ r ∧ r * r ≤ n ∧ n < (r + 1) * (r + 1)
theorem IsRt.uniq {n r s : Int} (h : IsRt n r) (h' : IsRt n s) : r = s := by
  obtain ⟨a1, a2, a3⟩ := h
  obtain ⟨b1, b2, b3⟩ := h'
  have h1 : r < s + 1 := by
    rcases Int.lt_or_le r (s + 1) with h | h
    · exact h
    · have := sq_mono (by omega) h; omega
  have h2 : s < r + 1 := by
    rcases Int.lt_or_le s (r + 1) with h | h
    · exact h
    · have := sq_mono (by omega) h; omega
  omega
def rootN : Nat → Int
  | 0 => 0
  | n + 1 => if (rootN n + 1) * (rootN n + 1) ≤ (n : Int) + 1 then rootN n + 1 else rootN n
theorem rootN_is : ∀ n : Nat, IsRt n (rootN n)
  | 0 => ⟨by simp [rootN], by simp [rootN], by simp [rootN]⟩
  | n + 1 => by
    obtain ⟨h1, h2, h3⟩ := rootN_is n
    have e : ((n + 1 : Nat) : Int) = (n : Int) + 1 := by omega
    unfold rootN
    split
    · rename_i h
      refine ⟨by omega, by rw [e]; exact h, ?_⟩
      have := sq_lt (show 0 ≤ rootN n + 1 by omega) (show rootN n + 1 < rootN n + 1 + 1 by omega)
      omega
    · exact ⟨h1, by omega, by omega⟩
def rootP (n : Int) : Int := rootN n.toNat
theorem rootP_is {n : Int} (h : 0 ≤ n) : IsRt n (rootP n) := by
  have := rootN_is n.toNat
  rwa [show ((n.toNat : Nat) : Int) = n by omega] at this
theorem rootP_eq {n r : Int} (h : IsRt n r) : rootP n = r := by
  have h0 : 0 ≤ n := by have := sq_nn r; unfold IsRt at h; omega
  exact (rootP_is h0).uniq h
def rootE (n : Int) : Int × Int := if 0 ≤ n ∧ n ≤ 1099511627776 then (rootP n, 0) else (0, 7)

def pw : Nat → Int
  | 0 => 1
  | j + 1 => 2 * pw j
theorem pw_pos : ∀ j, 1 ≤ pw j
  | 0 => by simp [pw]
  | j + 1 => by have := pw_pos j; simp only [pw]; omega
def bv : Nat → Int
  | 0 => 0
  | j + 1 => pw j
theorem bv_half (j : Nat) : bv (j + 1) / 2 = bv j := by
  cases j with
  | zero => simp [bv, pw]
  | succ j => simp only [bv, pw]; omega
/-- What the search for a root keeps. -/
def RtInv (n r bit : Int) : Prop := ∃ j, bit = bv j ∧ r + pw j ≤ 2097152 ∧ 0 ≤ r ∧ r * r ≤ n ∧ n < (r + pw j) * (r + pw j)
theorem RtInv.start {n : Int} (h : 0 ≤ n ∧ n ≤ 1099511627776 * 2) : RtInv n 0 1048576 := ⟨21, by decide, by decide, by omega, by omega, by
  have : pw 21 = 2097152 := by decide
  rw [this]; omega⟩
theorem RtInv.yes {n r bit : Int} (h : RtInv n r bit) (hb : bit > 0) (hle : (r + bit) * (r + bit) ≤ n) : RtInv n (r + bit) (bit / 2) := by
  obtain ⟨j, rfl, h1, h2, h3, h4⟩ := h
  cases j with
  | zero => simp [bv] at hb
  | succ j =>
    have hp := pw_pos j
    refine ⟨j, bv_half j, ?_, ?_, hle, ?_⟩
    · simp only [bv, pw] at *; omega
    · simp only [bv, pw] at *; omega
    · have e : r + bv (j + 1) + pw j = r + pw (j + 1) := by simp only [bv, pw]; omega
      rw [e]; exact h4
theorem RtInv.no {n r bit : Int} (h : RtInv n r bit) (hb : bit > 0) (hle : ¬ (r + bit) * (r + bit) ≤ n) : RtInv n r (bit / 2) := by
  obtain ⟨j, rfl, h1, h2, h3, h4⟩ := h
  cases j with
  | zero => simp [bv] at hb
  | succ j =>
    have hp := pw_pos j
    refine ⟨j, bv_half j, ?_, h2, h3, ?_⟩
    · simp only [pw] at *; omega
    · simp only [bv] at hle; omega
theorem RtInv.done {n r bit : Int} (h : RtInv n r bit) (hb : ¬ bit > 0) : IsRt n r := by
  obtain ⟨j, rfl, h1, h2, h3, h4⟩ := h
  cases j with
  | zero => exact ⟨h2, h3, h4⟩
  | succ j => have := pw_pos j; simp only [bv] at hb; omega
theorem RtInv.bd {n r bit : Int} (h : RtInv n r bit) : (0 ≤ r ∧ r ≤ 2097152) ∧ 0 ≤ bit ∧ bit ≤ 2097152 ∧ r + bit ≤ 2097152 := by
  obtain ⟨j, rfl, h1, h2, h3, h4⟩ := h
  have := pw_pos j
  cases j with
  | zero => simp only [bv, pw] at *; omega
  | succ j => have := pw_pos j; simp only [bv, pw] at *; omega
theorem mul_bd {a b m : Int} (ha : 0 ≤ a ∧ a ≤ m) (hb : 0 ≤ b ∧ b ≤ m) : 0 ≤ a * b ∧ a * b ≤ m * m := ⟨Int.mul_nonneg ha.1 hb.1, Int.mul_le_mul ha.2 hb.2 hb.1 (by omega)⟩

/-! ### How far -/
def half2 (s : Int) : Int := s / 2 * (s / 2) + (s - s / 2) * (s - s / 2)
theorem half2_least {x y : Int} (hx : 0 ≤ x) (hy : 0 ≤ y) : half2 (x + y) ≤ x * x + y * y := by
  -- with s = x + y and h its half: (x - h)(x - h) and the like
  have key : ∀ h g d : Int, g = h ∨ g = h + 1 → x = h + d → y = g - d → h * h + g * g ≤ x * x + y * y := by
    intro h g d hg e1 e2
    subst e1; subst e2
    have hd : 0 ≤ d * d := sq_nn d
    have ex : (h + d) * (h + d) + (g - d) * (g - d) = h * h + g * g + 2 * (d * d) - 2 * ((g - h) * d) := by
      simp only [Int.add_mul, Int.mul_add, Int.sub_mul, Int.mul_sub, Int.mul_comm d h, Int.mul_comm d g]; omega
    rw [ex]
    rcases hg with rfl | rfl
    · simp; omega
    · have : (h + 1 - h) * d = d := by rw [show h + 1 - h = 1 by omega, Int.one_mul]
      rw [this]
      have hdd : d ≤ d * d := by
        rcases Int.le_total d 0 with h0 | h0
        · omega
        · rcases Int.lt_or_le d 1 with h1 | h1
          · have : d = 0 := by omega
            subst this; omega
          · have := Int.mul_le_mul_of_nonneg_right h1 h0; omega
      omega
  unfold half2
  exact key _ _ (x - (x + y) / 2) (by omega) (by omega) (by omega)
theorem half2_mono {s t : Int} (hs : 0 ≤ s) (h : s ≤ t) : half2 s ≤ half2 t := by
  unfold half2
  have h1 := sq_mono (show 0 ≤ s / 2 by omega) (show s / 2 ≤ t / 2 by omega)
  have h2 := sq_mono (show 0 ≤ s - s / 2 by omega) (show s - s / 2 ≤ t - t / 2 by omega)
  omega
theorem half2_two (s : Int) : s * s ≤ 2 * half2 s := by
  unfold half2
  have e : s = s / 2 + (s - s / 2) := by omega
  generalize s / 2 = a at e ⊢
  generalize hb : s - a = b at e ⊢
  subst e
  have : 0 ≤ (a - b) * (a - b) := sq_nn _
  simp only [Int.add_mul, Int.mul_add, Int.sub_mul, Int.mul_sub, Int.mul_comm b a] at *
  omega
/-- s is the greatest one that can be. -/
def IsFar (n s : Int) : Prop := 0 ≤ s ∧ half2 s ≤ n * n ∧ ∀ s', s < s' → n * n < half2 s'
theorem IsFar.uniq {n s t : Int} (h : IsFar n s) (h' : IsFar n t) : s = t := by
  obtain ⟨_, a2, a3⟩ := h
  obtain ⟨_, b2, b3⟩ := h'
  rcases Int.lt_or_le s t with h1 | h1
  · have := a3 t h1; omega
  · rcases Int.lt_or_le t s with h2 | h2
    · have := b3 s h2; omega
    · omega
def farN (n : Int) : Nat → Int
  | 0 => 0
  | k + 1 => if half2 ((k : Int) + 1) ≤ n * n then (k : Int) + 1 else farN n k
def farP (n : Int) : Int := farN n (2 * n).toNat
theorem farN_is (n : Int) : ∀ k : Nat, (∀ s', (k : Int) < s' → n * n < half2 s') → IsFar n (farN n k)
  | 0, h => ⟨by simp [farN], by have := sq_nn n; simp only [farN]; rw [show half2 0 = 0 by decide]; exact this, fun s' hs => h s' (by simpa [farN] using hs)⟩
  | k + 1, h => by
    unfold farN
    split
    · rename_i hle
      exact ⟨by omega, hle, fun s' hs => h s' (by omega)⟩
    · rename_i hle
      refine farN_is n k fun s' hs => ?_
      by_cases e : s' = (k : Int) + 1
      · subst e; omega
      · exact h s' (by omega)
theorem farP_is {n : Int} (h : 0 ≤ n) : IsFar n (farP n) := by
  refine farN_is n _ fun s' hs => ?_
  have h1 : 2 * n < s' := by omega
  have h2 := sq_lt (show 0 ≤ 2 * n by omega) h1
  have h3 := half2_two s'
  have h4 : 2 * n * (2 * n) = 4 * (n * n) := by
    rw [Int.mul_assoc, Int.mul_left_comm n 2 n, ← Int.mul_assoc]
    rfl
  have := sq_nn n
  omega
theorem farP_eq {n s : Int} (h0 : 0 ≤ n) (h : IsFar n s) : farP n = s := (farP_is h0).uniq h
/-- From a root of twice the square on, nothing is near enough. -/
theorem far_start {n s : Int} (h : IsRt (2 * n * n) s) : ∀ s', s < s' → n * n < half2 s' := by
  intro s' hs
  obtain ⟨h1, h2, h3⟩ := h
  have h4 := sq_mono (show 0 ≤ s + 1 by omega) (show s + 1 ≤ s' by omega)
  have h5 := half2_two s'
  rw [Int.mul_assoc] at h3
  omega
theorem far_bd {n s : Int} (h : IsFar n s) (hn : 0 ≤ n) : s ≤ 2 * n := by
  obtain ⟨h1, h2, _⟩ := h
  rcases Int.lt_or_le (2 * n) s with h3 | h3
  · exfalso
    have h4 := sq_lt (show 0 ≤ 2 * n by omega) h3
    have h5 := half2_two s
    have h6 : 2 * n * (2 * n) = 4 * (n * n) := by
      rw [Int.mul_assoc, Int.mul_left_comm n 2 n, ← Int.mul_assoc]; rfl
    have := sq_nn n
    omega
  · exact h3
/-- The widest of the reference. -/
theorem far_of_widest {n s : Int} (hn : 0 ≤ n) (hs : ∃ a b, 0 ≤ a ∧ 0 ≤ b ∧ a * a + b * b ≤ n * n ∧ a + b = s) (hall : ∀ a b, 0 ≤ a → 0 ≤ b → a * a + b * b ≤ n * n → a + b ≤ s) : IsFar n s := by
  obtain ⟨a, b, ha, hb, hab, rfl⟩ := hs
  refine ⟨by omega, Int.le_trans (half2_least ha hb) hab, fun s' hs => ?_⟩
  rcases Int.lt_or_le (n * n) (half2 s') with h | h
  · exact h
  · have := hall (s' / 2) (s' - s' / 2) (by omega) (by omega) h; omega

def intoI (l n : Int) : Int := max (-l) (min n l)
def Bd.wide (b : Bd) (n l : Int) : Bd := ⟨intoI l (b.lo - n), intoI l (b.hi + n)⟩
def wideR (x : Rg) (n m : Int) : Rg := ⟨x.x.wide n 32768, x.y.wide n 32768, x.s.wide m 65536, x.d.wide m 65536⟩
theorem wideR_sm (x : Rg) (n m : Int) : (wideR x n m).sm 65536 := by
  unfold Rg.sm Bd.sm wideR Bd.wide intoI; simp only; omega
def reachE (r : Rg) (n : Int) : RE := if r.ok then (if 0 ≤ n ∧ n ≤ 32768 then (match tightP r with | some x => optE (tightP (wideR x n (farP n))) | none => (zR, 4)) else (zR, 7)) else (zR, 11)
end Go.Proofs.Ytffpfcomikcimaa
