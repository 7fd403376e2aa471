/-
  Parts of the proof: rules of the engine, walks of functions, plain Lean. No condition.
-/
import Derived.Test.YtoebpndlbldfcaaGreatDoorTd02
import Derived.Laws.AppendOwn
import Derived.Laws.Cover3
import Derived.Laws.IdiomRangeMap
import Derived.ProofKit
import Derived.OpenShut
namespace Go.Proofs.YtoebpndlbldfcaaGreatDoor
theorem sq_mono {a b : Int} (ha : 0 ≤ a) (h : a ≤ b) : a * a ≤ b * b := Int.mul_le_mul h h ha (by omega)
theorem sq_lt {a b : Int} (ha : 0 ≤ a) (h : a < b) : a * a < b * b := by
  have h1 : a * a ≤ a * b := Int.mul_le_mul_of_nonneg_left (by omega) ha
  have h2 : a * b < b * b := Int.mul_lt_mul_of_pos_right h (by omega)
  omega
theorem sq_nn (a : Int) : 0 ≤ a * a := by
  rcases Int.le_total 0 a with h | h
  · exact Int.mul_nonneg h h
  · have := Int.mul_nonneg (show 0 ≤ -a by omega) (show 0 ≤ -a by omega)
    rwa [Int.neg_mul_neg] at this
def IsRt (n r : Int) : Prop := 0 ≤ r ∧ r * r ≤ n ∧ n < (r + 1) * (r + 1)
theorem IsRt.uniq {n r s : Int} (h : IsRt n r) (h' : IsRt n s) : r = s := by
  obtain ⟨a1, a2, a3⟩ := h
  obtain ⟨b1, b2, b3⟩ := h'
  have h1 : r < s + 1 := by
    rcases Int.lt_or_le r (s + 1) with h | h
    · exact h
    · have := sq_mono (by omega) h; omega
  have h2 : s < r + 1 := by
    rcases Int.lt_or_le s (r + 1) with h | h
    · exact h
    · have := sq_mono (by omega) h; omega
  omega
def rootN : Nat → Int
  | 0 => 0
  | n + 1 => if (rootN n + 1) * (rootN n + 1) ≤ (n : Int) + 1 then rootN n + 1 else rootN n
theorem rootN_is : ∀ n : Nat, IsRt n (rootN n)
  | 0 => ⟨by simp [rootN], by simp [rootN], by simp [rootN]⟩
  | n + 1 => by
    obtain ⟨h1, h2, h3⟩ := rootN_is n
    have e : ((n + 1 : Nat) : Int) = (n : Int) + 1 := by omega
    unfold rootN
    split
    · rename_i h
      refine ⟨by omega, by rw [e]; exact h, ?_⟩
      have := sq_lt (show 0 ≤ rootN n + 1 by omega) (show rootN n + 1 < rootN n + 1 + 1 by omega)
      omega
    · exact ⟨h1, by omega, by omega⟩
def rootP (n : Int) : Int := rootN n.toNat
theorem rootP_is {n : Int} (h : 0 ≤ n) : IsRt n (rootP n) := by
  have := rootN_is n.toNat
  rwa [show ((n.toNat : Nat) : Int) = n by omega] at this
theorem rootP_eq {n r : Int} (h : IsRt n r) : rootP n = r := by
  have h0 : 0 ≤ n := by have := sq_nn r; unfold IsRt at h; omega
  exact (rootP_is h0).uniq h
def rootE (n : Int) : Int × Int := if 0 ≤ n ∧ n ≤ 1099511627776 then (rootP n, 0) else (0, 7)
def pw : Nat → Int
  | 0 => 1
  | j + 1 => 2 * pw j
theorem pw_pos : ∀ j, 1 ≤ pw j
  | 0 => by simp [pw]
  | j + 1 => by have := pw_pos j; simp only [pw]; omega
def bv : Nat → Int
  | 0 => 0
  | j + 1 => pw j
theorem bv_half (j : Nat) : bv (j + 1) / 2 = bv j := by
  cases j with
  | zero => simp [bv, pw]
  | succ j => simp only [bv, pw]; omega
def RtInv (n r bit : Int) : Prop := ∃ j, bit = bv j ∧ r + pw j ≤ 2097152 ∧ 0 ≤ r ∧ r * r ≤ n ∧ n < (r + pw j) * (r + pw j)
theorem RtInv.start {n : Int} (h : 0 ≤ n ∧ n ≤ 1099511627776 * 2) : RtInv n 0 1048576 := ⟨21, by decide, by decide, by omega, by omega, by
  have : pw 21 = 2097152 := by decide
  rw [this]; omega⟩
theorem RtInv.yes {n r bit : Int} (h : RtInv n r bit) (hb : bit > 0) (hle : (r + bit) * (r + bit) ≤ n) : RtInv n (r + bit) (bit / 2) := by
  obtain ⟨j, rfl, h1, h2, h3, h4⟩ := h
  cases j with
  | zero => simp [bv] at hb
  | succ j =>
    have hp := pw_pos j
    refine ⟨j, bv_half j, ?_, ?_, hle, ?_⟩
    · simp only [bv, pw] at *; omega
    · simp only [bv, pw] at *; omega
    · have e : r + bv (j + 1) + pw j = r + pw (j + 1) := by simp only [bv, pw]; omega
      rw [e]; exact h4
theorem RtInv.no {n r bit : Int} (h : RtInv n r bit) (hb : bit > 0) (hle : ¬ (r + bit) * (r + bit) ≤ n) : RtInv n r (bit / 2) := by
  obtain ⟨j, rfl, h1, h2, h3, h4⟩ := h
  cases j with
  | zero => simp [bv] at hb
  | succ j =>
    have hp := pw_pos j
    refine ⟨j, bv_half j, ?_, h2, h3, ?_⟩
    · simp only [pw] at *; omega
    · simp only [bv] at hle; omega
theorem RtInv.done {n r bit : Int} (h : RtInv n r bit) (hb : ¬ bit > 0) : IsRt n r := by
  obtain ⟨j, rfl, h1, h2, h3, h4⟩ := h
  cases j with
  | zero => exact ⟨h2, h3, h4⟩
  | succ j => have := pw_pos j; simp only [bv] at hb; omega
theorem RtInv.bd {n r bit : Int} (h : RtInv n r bit) : (0 ≤ r ∧ r ≤ 2097152) ∧ 0 ≤ bit ∧ bit ≤ 2097152 ∧ r + bit ≤ 2097152 := by
  obtain ⟨j, rfl, h1, h2, h3, h4⟩ := h
  have := pw_pos j
  cases j with
  | zero => simp only [bv, pw] at *; omega
  | succ j => have := pw_pos j; simp only [bv, pw] at *; omega
theorem mul_bd {a b m : Int} (ha : 0 ≤ a ∧ a ≤ m) (hb : 0 ≤ b ∧ b ≤ m) : 0 ≤ a * b ∧ a * b ≤ m * m := ⟨Int.mul_nonneg ha.1 hb.1, Int.mul_le_mul ha.2 hb.2 hb.1 (by omega)⟩
def half2 (s : Int) : Int := s / 2 * (s / 2) + (s - s / 2) * (s - s / 2)
theorem half2_least {x y : Int} (hx : 0 ≤ x) (hy : 0 ≤ y) : half2 (x + y) ≤ x * x + y * y := by
  -- with s = x + y and h its half: (x - h)(x - h) and the like
  have key : ∀ h g d : Int, g = h ∨ g = h + 1 → x = h + d → y = g - d → h * h + g * g ≤ x * x + y * y := by
    intro h g d hg e1 e2
    subst e1; subst e2
    have hd : 0 ≤ d * d := sq_nn d
    have ex : (h + d) * (h + d) + (g - d) * (g - d) = h * h + g * g + 2 * (d * d) - 2 * ((g - h) * d) := by
      simp only [Int.add_mul, Int.mul_add, Int.sub_mul, Int.mul_sub, Int.mul_comm d h, Int.mul_comm d g]; omega
    rw [ex]
    rcases hg with rfl | rfl
    · simp; omega
    · have : (h + 1 - h) * d = d := by rw [show h + 1 - h = 1 by omega, Int.one_mul]
      rw [this]
      have hdd : d ≤ d * d := by
        rcases Int.le_total d 0 with h0 | h0
        · omega
        · rcases Int.lt_or_le d 1 with h1 | h1
          · have : d = 0 := by omega
            subst this; omega
          · have := Int.mul_le_mul_of_nonneg_right h1 h0; omega
      omega
  unfold half2
  exact key _ _ (x - (x + y) / 2) (by omega) (by omega) (by omega)
theorem half2_two (s : Int) : s * s ≤ 2 * half2 s := by
  unfold half2
  have e : s = s / 2 + (s - s / 2) := by omega
  generalize s / 2 = a at e ⊢
  generalize hb : s - a = b at e ⊢
  subst e
  have : 0 ≤ (a - b) * (a - b) := sq_nn _
  simp only [Int.add_mul, Int.mul_add, Int.sub_mul, Int.mul_sub, Int.mul_comm b a] at *
  omega
def IsFar (n s : Int) : Prop := 0 ≤ s ∧ half2 s ≤ n * n ∧ ∀ s', s < s' → n * n < half2 s'
theorem IsFar.uniq {n s t : Int} (h : IsFar n s) (h' : IsFar n t) : s = t := by
  obtain ⟨_, a2, a3⟩ := h
  obtain ⟨_, b2, b3⟩ := h'
  rcases Int.lt_or_le s t with h1 | h1
  · have := a3 t h1; omega
  · rcases Int.lt_or_le t s with h2 | h2
    · have := b3 s h2; omega
    · omega
def farN (n : Int) : Nat → Int
  | 0 => 0
  | k + 1 => if half2 ((k : Int) + 1) ≤ n * n then (k : Int) + 1 else farN n k
def farP (n : Int) : Int := farN n (2 * n).toNat
theorem farN_is (n : Int) : ∀ k : Nat, (∀ s', (k : Int) < s' → n * n < half2 s') → IsFar n (farN n k)
  | 0, h => ⟨by simp [farN], by have := sq_nn n; simp only [farN]; rw [show half2 0 = 0 by decide]; exact this, fun s' hs => h s' (by simpa [farN] using hs)⟩
  | k + 1, h => by
    unfold farN
    split
    · rename_i hle
      exact ⟨by omega, hle, fun s' hs => h s' (by omega)⟩
    · rename_i hle
      refine farN_is n k fun s' hs => ?_
      by_cases e : s' = (k : Int) + 1
      · subst e; omega
      · exact h s' (by omega)
theorem farP_is {n : Int} (h : 0 ≤ n) : IsFar n (farP n) := by
  refine farN_is n _ fun s' hs => ?_
  have h1 : 2 * n < s' := by omega
  have h2 := sq_lt (show 0 ≤ 2 * n by omega) h1
  have h3 := half2_two s'
  have h4 : 2 * n * (2 * n) = 4 * (n * n) := by
    rw [Int.mul_assoc, Int.mul_left_comm n 2 n, ← Int.mul_assoc]
    rfl
  have := sq_nn n
  omega
theorem farP_eq {n s : Int} (h0 : 0 ≤ n) (h : IsFar n s) : farP n = s := (farP_is h0).uniq h
theorem far_start {n s : Int} (h : IsRt (2 * n * n) s) : ∀ s', s < s' → n * n < half2 s' := by
  intro s' hs
  obtain ⟨h1, h2, h3⟩ := h
  have h4 := sq_mono (show 0 ≤ s + 1 by omega) (show s + 1 ≤ s' by omega)
  have h5 := half2_two s'
  rw [Int.mul_assoc] at h3
  omega
theorem far_bd {n s : Int} (h : IsFar n s) (hn : 0 ≤ n) : s ≤ 2 * n := by
  obtain ⟨h1, h2, _⟩ := h
  rcases Int.lt_or_le (2 * n) s with h3 | h3
  · exfalso
    have h4 := sq_lt (show 0 ≤ 2 * n by omega) h3
    have h5 := half2_two s
    have h6 : 2 * n * (2 * n) = 4 * (n * n) := by
      rw [Int.mul_assoc, Int.mul_left_comm n 2 n, ← Int.mul_assoc]; rfl
    have := sq_nn n
    omega
  · exact h3
theorem far_of_widest {n s : Int} (hn : 0 ≤ n) (hs : ∃ a b, 0 ≤ a ∧ 0 ≤ b ∧ a * a + b * b ≤ n * n ∧ a + b = s) (hall : ∀ a b, 0 ≤ a → 0 ≤ b → a * a + b * b ≤ n * n → a + b ≤ s) : IsFar n s := by
  obtain ⟨a, b, ha, hb, hab, rfl⟩ := hs
  refine ⟨by omega, Int.le_trans (half2_least ha hb) hab, fun s' hs => ?_⟩
  rcases Int.lt_or_le (n * n) (half2 s') with h | h
  · exact h
  · have := hall (s' / 2) (s' - s' / 2) (by omega) (by omega) h; omega
def intoI (l n : Int) : Int := max (-l) (min n l)
def Bd.wide (b : Bd) (n l : Int) : Bd := ⟨intoI l (b.lo - n), intoI l (b.hi + n)⟩
def wideR (x : Rg) (n m : Int) : Rg := ⟨x.x.wide n 32768, x.y.wide n 32768, x.s.wide m 65536, x.d.wide m 65536⟩
theorem wideR_sm (x : Rg) (n m : Int) : (wideR x n m).sm 65536 := by
  unfold Rg.sm Bd.sm wideR Bd.wide intoI; simp only; omega
def reachE (r : Rg) (n : Int) : RE := if r.ok then (if 0 ≤ n ∧ n ≤ 32768 then (match tightP r with | some x => optE (tightP (wideR x n (farP n))) | none => (zR, 4)) else (zR, 7)) else (zR, 11)
end Go.Proofs.YtoebpndlbldfcaaGreatDoor
namespace Go.Proofs.YtoebpndlbldfcaaGreatDoor
def bestS {α : Type} (better : α → α → Bool) (b : Option α) (x : α) : Option α := match b with | none => some x | some y => if better x y = true then some x else some y
def pickL {α : Type} (better : α → α → Bool) (l : List α) : Option α := l.foldl (bestS better) none
theorem pick_n {α : Type} {better : α → α → Bool} {pre : List α} {x : α} (h : (!(pickL better pre).isSome) = true) : pickL better (pre ++ [x]) = some x := by
  simp only [pickL, List.foldl_append, List.foldl_cons, List.foldl_nil]
  have := optN h; unfold pickL at this; rw [this]; rfl
theorem pick_y {α : Type} {better : α → α → Bool} {z : α} {pre : List α} {x : α} (h : (!(pickL better pre).isSome) = false) (hb : better x ((pickL better pre).getD z) = true) : pickL better (pre ++ [x]) = some x := by
  simp only [pickL, List.foldl_append, List.foldl_cons, List.foldl_nil]
  obtain ⟨g, hg⟩ := optS h
  rw [hg] at hb
  unfold pickL at hg; rw [hg]
  exact if_pos hb
theorem pick_k {α : Type} {better : α → α → Bool} {z : α} {pre : List α} {x : α} (h : (!(pickL better pre).isSome) = false) (hb : better x ((pickL better pre).getD z) = false) : pickL better (pre ++ [x]) = pickL better pre := by
  simp only [pickL, List.foldl_append, List.foldl_cons, List.foldl_nil]
  obtain ⟨g, hg⟩ := optS h
  rw [hg] at hb
  unfold pickL at hg; rw [hg]
  exact if_neg (by simp at hb; simp [hb])
structure Vd where
  n : Int
  p : Pt
  deriving DecidableEq
def zP : Pt := ⟨0, 0⟩
def zB : Bd := ⟨0, 0⟩
def val (v p : Pt) : Vd := ⟨v.x * p.x + v.y * p.y, p⟩
def lessV (a b : Vd) : Bool := decide (a.n < b.n)
def moreV (a b : Vd) : Bool := decide (a.n > b.n)
structure Pk where
  lo : Int
  hi : Int
  a : Pt
  t : Pt
  deriving DecidableEq
def zK : Pk := ⟨0, 0, zP, zP⟩
def Pt.okS (p : Pt) : Prop := (-1000 ≤ p.x ∧ p.x ≤ 1000) ∧ (-1000 ≤ p.y ∧ p.y ≤ 1000)
instance (p : Pt) : Decidable p.okS := by unfold Pt.okS; exact inferInstance
def vals (r : Rg) (v : Pt) : List Vd := (endsOf r).map (val v)
def extE (r : Rg) (v : Pt) : Pk × Int := if r.ok then (if v.okS then (match pickL lessV (vals r v), pickL moreV (vals r v) with | some a, some b => (⟨a.n, b.n, a.p, b.p⟩, 0) | _, _ => (zK, 4)) else (zK, 7)) else (zK, 11)
def nearY (p : Pt) (w : Rw) : Int := max w.a (min p.y w.b) - p.y
def sqI (p : Pt) (w : Rw) : Bd := ⟨(w.x - p.x) * (w.x - p.x) + nearY p w * nearY p w, (w.x - p.x) * (w.x - p.x) + max ((w.a - p.y) * (w.a - p.y)) ((w.b - p.y) * (w.b - p.y))⟩
def sqS (b : Option Bd) (i : Bd) : Option Bd := some ((b.getD i).span i)
def sqL (l : List Bd) : Option Bd := l.foldl sqS none
def sqP (r : Rg) (p : Pt) : Option Bd := sqL ((rows r).map (sqI p))
def lessB (a b : Bd) : Bool := decide (a.lo < b.lo)
def moreB (a b : Bd) : Bool := decide (a.hi > b.hi)
def SqR : Option Bd → Option Bd → Option Bd → Prop
  | none, none, none => True
  | some a, some b, some o => a.lo = o.lo ∧ b.hi = o.hi
  | _, _, _ => False
theorem sq_step {a b o : Option Bd} (h : SqR a b o) (i : Bd) : SqR (bestS lessB a i) (bestS moreB b i) (sqS o i) := by
  cases a <;> cases b <;> cases o <;> simp only [SqR] at h
  · simp only [bestS, sqS, SqR, Option.getD_none, Bd.span]; omega
  · rename_i a b o
    simp only [bestS, sqS, Option.getD_some, lessB, moreB, decide_eq_true_eq]
    split <;> split <;> simp only [SqR, Bd.span] <;> omega
theorem sq_fold : ∀ (l : List Bd) {a b o : Option Bd}, SqR a b o → SqR (l.foldl (bestS lessB) a) (l.foldl (bestS moreB) b) (l.foldl sqS o)
  | [], _, _, _, h => h
  | i :: l, _, _, _, h => sq_fold l (sq_step h i)
theorem sq_pick (l : List Bd) : SqR (pickL lessB l) (pickL moreB l) (sqL l) := sq_fold l (a := none) (b := none) (o := none) True.intro
theorem sq_pick_lo (l : List Bd) : ((pickL lessB l).getD zB).lo = ((sqL l).getD zB).lo := by
  have := sq_pick l
  cases h1 : pickL lessB l <;> cases h2 : pickL moreB l <;> cases h3 : sqL l <;> simp_all [SqR]
theorem sq_pick_hi (l : List Bd) : ((pickL moreB l).getD zB).hi = ((sqL l).getD zB).hi := by
  have := sq_pick l
  cases h1 : pickL lessB l <;> cases h2 : pickL moreB l <;> cases h3 : sqL l <;> simp_all [SqR]
theorem sq_pick_some (l : List Bd) : (pickL lessB l).isSome = (sqL l).isSome := by
  have := sq_pick l
  cases h1 : pickL lessB l <;> cases h2 : pickL moreB l <;> cases h3 : sqL l <;> simp_all [SqR]
abbrev BE := Bd × Int
def gapE (a b : Rg) : BE := if (twoE a b).2.2 = 0 then ((sqP ((twoE a b).1.map2 Bd.minus (twoE a b).2.1) zP).getD zB, 0) else (zB, (twoE a b).2.2)
end Go.Proofs.YtoebpndlbldfcaaGreatDoor
namespace Go.Proofs.YtoebpndlbldfcaaGreatDoor
open Go
class TSg (P : Program) (T : TypeId) : Prop where
  und : P.underlying T = some .string
def byteAt (s : ByteArray) (i : Nat) : Int := match s[i]? with | some b => (b.toNat : Int) | Option.none => 0
section
variable {P : Program} {f : FuncId} {ro : Option Nat} {N : Nat} {k : List Item} {E : Env} {D : List Deferred} {H : Heap} {Q : Out → Heap → Prop}
variable {d : Nat} {x y : Operand} {T T' ty : TypeId} {pos : String} {af : Array Edge} {g : Option (Nat × Bool)} {a b : Int} {kd : IntKind}
theorem vlens {s : ByteArray} {ats : List TypeId} [hT : TSg P T] (hx : ev E x = some (.string s)) :
    OQ P N E D H ⟨some d, .call ⟨.builtin .len, #[x], (T :: ats).toArray⟩, ty, pos, af, g⟩ (.int .i64 (s.size : Int)) :=
  ov (by simp) (fun t w hA hE => by simp [execOp, resolve, invoke, builtin, Builtin.len_, ev_eval hA hx, run_underlying hT.und, goInt])
theorem vixs {s : ByteArray} {i : Int} [hT : TSg P T] (hx : ev E x = some (.string s)) (hy : ev E y = some (.int kd i)) (hi : 0 ≤ i ∧ i < s.size) :
    OQ P N E D H ⟨some d, .index T x y, ty, pos, af, g⟩ (.int .u8 (byteAt s i.toNat)) :=
  ov (by simp) (fun t w hA hE => by
    have hlt : i.toNat < s.size := by omega
    have hg : s[i.toNat]? = some s[i.toNat] := getElem?_pos s i.toNat hlt
    have hb : byteAt s i.toNat = (s[i.toNat].toNat : Int) := by unfold byteAt; rw [hg]
    have hr : (Instr.index T (.string s) (.int kd i)).run P w = .ok (.int .u8 (byteAt s i.toNat)) w := by
      simp only [Instr.index, asIntOf, Sem.run_bind, Sem.run_pure, run_underlying hT.und, Result.andThen]
      rw [if_pos hi.1, hg, hb]
      simp
    simp [execOp, ev_eval hA hx, ev_eval hA hy, hr])
theorem vlssk (hx : ev E x = some (.int kd a)) (hy : ev E y = some (.int kd b)) :
    OQ P N E D H ⟨some d, .binOp .lss T x y T', ty, pos, af, g⟩ (.bool (decide (a < b))) :=
  ov (by simp) (fun t w hA _ => by simp [execOp, ev_eval hA hx, ev_eval hA hy, binOp, eqGuard, Op.intCmp])
theorem vleqk (hx : ev E x = some (.int kd a)) (hy : ev E y = some (.int kd b)) :
    OQ P N E D H ⟨some d, .binOp .leq T x y T', ty, pos, af, g⟩ (.bool (decide (a ≤ b))) :=
  ov (by simp) (fun t w hA _ => by simp [execOp, ev_eval hA hx, ev_eval hA hy, binOp, eqGuard, Op.intCmp])
theorem vgtrk (hx : ev E x = some (.int kd a)) (hy : ev E y = some (.int kd b)) :
    OQ P N E D H ⟨some d, .binOp .gtr T x y T', ty, pos, af, g⟩ (.bool (decide (b < a))) :=
  ov (by simp) (fun t w hA _ => by simp [execOp, ev_eval hA hx, ev_eval hA hy, binOp, eqGuard, Op.intCmp])
theorem vgeqk (hx : ev E x = some (.int kd a)) (hy : ev E y = some (.int kd b)) :
    OQ P N E D H ⟨some d, .binOp .geq T x y T', ty, pos, af, g⟩ (.bool (decide (b ≤ a))) :=
  ov (by simp) (fun t w hA _ => by simp [execOp, ev_eval hA hx, ev_eval hA hy, binOp, eqGuard, Op.intCmp])
end
def letP (c : Int) : Prop := 97 ≤ c ∧ c ≤ 122
def goodP (s : ByteArray) (i : Nat) : Prop := letP (byteAt s i) ∨ i ≠ 0 ∧ (byteAt s i = 95 ∨ 48 ≤ byteAt s i ∧ byteAt s i ≤ 57)
def nameP (s : ByteArray) : Prop := (1 ≤ s.size ∧ s.size ≤ 16) ∧ ∀ i, i < s.size → goodP s i
noncomputable def nameB (s : ByteArray) : Bool := @decide (nameP s) (Classical.propDecidable _)
theorem nameB_t {s : ByteArray} (h : nameP s) : nameB s = true := by unfold nameB; exact @decide_eq_true _ (Classical.propDecidable _) h
theorem nameB_f {s : ByteArray} (h : ¬ nameP s) : nameB s = false := by unfold nameB; exact @decide_eq_false _ (Classical.propDecidable _) h
end Go.Proofs.YtoebpndlbldfcaaGreatDoor
namespace Go.Proofs.YtoebpndlbldfcaaGreatDoor
open Go
class TAp (P : Program) (T : TypeId) (e size bytes : outParam Nat) : Prop where
  fact : ∃ i z, P.underlying T = some (.slice e) ∧ P.info? e = some i ∧ i.zero = some z ∧ i.size = size ∧ i.bytes = bytes ∧ z.cells.size = size
theorem mkTAp {P : Program} {T e size bytes : Nat} {z : Value} (ht : P.underlying T = some (.slice e)) (hi : (P.info? e).map (fun i => (i.zero, i.size, i.bytes)) = some (some z, size, bytes)) (hz : z.cells.size = size) : TAp P T e size bytes := by
  obtain ⟨i, h1, h2⟩ := Option.map_eq_some_iff.1 hi
  simp only [Prod.mk.injEq] at h2
  exact ⟨i, z, ht, h1, h2.1, h2.2.1, h2.2.2, hz⟩
def OwnS (e size : Nat) (v : Value) (n : Nat) (xs : List Value) (B : Heap) : Prop :=
  (v = .slice Option.none 0 0 ∧ n = 0 ∧ xs = [] ∧ B = []) ∨
  ∃ g cap cur, v = .slice (some ⟨g, 0, Option.none⟩) n cap ∧ B = [(g, blk cur e)] ∧ n ≤ cap ∧ cap ≤ maxLen ∧ cur.length = cap * size ∧ cur.take (n * size) = xs
theorem OwnS.nil {e size : Nat} : OwnS e size (.slice Option.none 0 0) 0 [] [] := .inl ⟨rfl, rfl, rfl, rfl⟩
theorem Fr.newD {H : Heap} {w : World} (hE : Emb H w) (o : Obj) : Fr H w ((w.heap.size, o) :: H) (w.drew.alloc o) := by
  have h := Fr.new hE o
  exact ⟨h.os, h.tape, h.output, h.size, h.keep, ⟨h.emb.nodup, h.emb.at_⟩, h.dom⟩
section
variable {P : Program} {N : Nat} {E : Env} {D : List Deferred} {H H0 B : Heap}
variable {d : Nat} {x y : Operand} {T ty : TypeId} {pos : String} {af : Array Edge} {g : Option (Nat × Bool)}
theorem vapp {v : Value} {n m c e size bytes : Nat} {xs news : List Value} {a : Addr} [hT : TAp P T e size bytes] (hx : ev E x = some v) (hy : ev E y = some (.slice (some a) m c)) (hown : OwnS e size v n xs B) (hp : H.Perm (B ++ H0))
    (hl : news.length = m * size) (hnews : ∀ j u, news[j]? = some u → ∃ ob, (a.block, ob) ∈ H ∧ oCell ob (a.add j) = some u) (h1 : ∀ u ∈ news, u.oneCell' = true) (hm : 0 < m) (h63 : n + m ≤ maxLen) (hb : (n + m) * bytes ≤ 140737488355328) :
    OG P N E D H ⟨some d, .call ⟨.builtin .append, #[x, y], #[T, T]⟩, ty, pos, af, g⟩ (fun u H' => ∃ B', OwnS e size u (n + m) (xs ++ news) B' ∧ u ≠ .slice Option.none 0 0 ∧ H' = B' ++ H0) := by
  refine ⟨by simp, fun t w hA hE => ?_⟩
  obtain ⟨i, z, ht, hi, hz, rfl, rfl, hzs⟩ := hT.fact
  have hE' := hE.perm hp
  have hcell : ∀ j u, news[j]? = some u → w.cell? (a.add j) = some u := fun j u hu => by
    obtain ⟨ob, hm, hc⟩ := hnews j u hu
    rw [oCell_eq (ob := ob) (by rw [add_block]; exact hE.at_ _ hm)]; exact hc
  have hsm : n + m ≤ 9223372036854775807 := by simp only [maxLen] at h63; omega
  have hex : ∀ (v' : Value) (w' : World) (ats : Array TypeId), (Builtin.append_ #[T, T] ty #[v, .slice (some a) m c]).run P w = .ok v' w' →
      (execOp (Act.eval ⟨t, D⟩) ⟨some d, .call ⟨.builtin .append, #[x, y], #[T, T]⟩, ty, pos, af, g⟩).run P w = .ok (.value v') w' := by
    intro v' w' _ h
    simp [execOp, resolve, invoke, builtin, ev_eval hA hx, ev_eval hA hy, h]
  -- a new block
  have fresh : ∀ (old : Nat) (B0 : Heap), old < n + m → xs.length = n * i.size → H.Perm (B0 ++ H0) →
      ∃ H', Fr H w H' (w.drew.alloc (.cells (xs.toArray ++ news.toArray ++ Builtin.zeroCells z.cells (grownCap w (n + m) old e - (n + m))) e)) ∧
        (∃ B', OwnS e i.size (.slice (some ⟨w.heap.size, 0, Option.none⟩) (n + m) (grownCap w (n + m) old e)) (n + m) (xs ++ news) B' ∧ (Value.slice (some ⟨w.heap.size, 0, Option.none⟩) (n + m) (grownCap w (n + m) old e)) ≠ .slice Option.none 0 0 ∧ H' = B' ++ H0) := by
    intro old B0 ho hlx hp0
    have hge := grownCap_ge w (n + m) old e
    have hcm : grownCap w (n + m) old e ≤ maxLen := grownCap_le_maxLen w (n + m) old e h63
    have hF := Fr.newD hE (.cells (xs.toArray ++ news.toArray ++ Builtin.zeroCells z.cells (grownCap w (n + m) old e - (n + m))) e)
    have hlen : (xs ++ news).length = (n + m) * i.size := by rw [List.length_append, hlx, hl, Nat.add_mul]
    refine ⟨[(w.heap.size, blk (xs ++ news ++ (Builtin.zeroCells z.cells (grownCap w (n + m) old e - (n + m))).toList) e)] ++ H0, ?_, _, .inr ⟨_, _, _, rfl, rfl, hge, hcm, ?_, ?_⟩, by simp, rfl⟩
    · have hs : ([(w.heap.size, Obj.cells (xs.toArray ++ news.toArray ++ Builtin.zeroCells z.cells (grownCap w (n + m) old e - (n + m))) e (0, 0))] ++ H0).Sublist ((w.heap.size, Obj.cells (xs.toArray ++ news.toArray ++ Builtin.zeroCells z.cells (grownCap w (n + m) old e - (n + m))) e (0, 0)) :: (B0 ++ H0)) :=
        List.Sublist.cons_cons _ (List.sublist_append_right _ _)
      have h3 := (hF.perm (.refl _) (hp0.cons _)).sub hs
      have e : (xs.toArray ++ news.toArray ++ Builtin.zeroCells z.cells (grownCap w (n + m) old e - (n + m))) = (xs ++ news ++ (Builtin.zeroCells z.cells (grownCap w (n + m) old e - (n + m))).toList).toArray := by
        apply Array.ext'; simp
      rw [e] at h3 ⊢
      exact h3
    · rw [List.length_append, hlen, Array.length_toList, size_zeroCells, hzs, ← Nat.add_mul]; congr 1; omega
    · rw [← hlen]; exact List.take_left
  rcases hown with ⟨rfl, rfl, rfl, rfl⟩ | ⟨gb, cap, cur, rfl, rfl, hnc, hcm, hcs, htake⟩
  · have hr := run_append_nil (P := P) w T ty e i z ht hi hz a m c news hl hcell hm (by omega) (by rw [Nat.zero_add] at hb; omega)
    obtain ⟨H', hF, hR⟩ := fresh 0 [] (by omega) (by simp) hp
    simp only [Nat.zero_add, List.nil_append, Array.empty_append] at hF hR ⊢
    exact ⟨_, _, hex _ _ #[] hr, H', hF, hR⟩
  · have hlx : xs.length = n * i.size := by rw [← htake, List.length_take, hcs, Nat.min_eq_left (Nat.mul_le_mul_right _ hnc)]
    have hg : w.heap[gb]? = some (.cells cur.toArray e (0, 0)) := hE'.at_ (gb, blk cur e) (by simp)
    by_cases hroom : n + m ≤ cap
    · have hfit : n * i.size + news.length ≤ cur.toArray.size := by rw [hl, List.size_toArray, hcs, ← Nat.add_mul]; exact Nat.mul_le_mul_right _ hroom
      have hr := run_append_room (P := P) w T ty e i ht hi gb n cap cur.toArray hg a m c news hl hcell h1 hroom hfit
      have hlen : (xs ++ news).length = (n + m) * i.size := by rw [List.length_append, hlx, hl, Nat.add_mul]
      have hup : HUp ([(gb, blk cur e)] ++ H0) gb cur e (fun c => (gb, blk c e) :: H0) := HUp.head
      have hF := hup.set hE' (c := cur.take (n * i.size) ++ news ++ cur.drop (n * i.size + news.length)) (setRow_heap w gb cur.toArray _ e _ hg) (fun k hk => setRow_other w gb k _ hk) (by simp [World.setRow]) rfl rfl rfl
      refine ⟨_, _, hex _ _ #[] hr, _, hF.perm hp.symm (.refl _), _, .inr ⟨gb, cap, _, rfl, rfl, hroom, hcm, ?_, ?_⟩, by simp, rfl⟩
      · simp only [List.length_append, List.length_take, List.length_drop]
        rw [List.size_toArray] at hfit
        omega
      · rw [htake, ← hlen]
        exact List.take_left
    · have holds : ∀ j u, xs[j]? = some u → w.cell? ((⟨gb, 0, Option.none⟩ : Addr).add j) = some u := fun j u hu => by
        rw [oCell_eq (ob := blk cur e) (by rw [add_block]; exact hg)]
        rw [← htake, List.getElem?_take] at hu
        split at hu
        · unfold Addr.add
          split
          · rename_i e0; subst e0; simpa [oCell, blk] using hu
          · simpa [oCell, blk] using hu
        · cases hu
      have hcap := growslice_fits (need := n + m) (old := cap) (bytes := i.bytes) (by omega) hb
      have hr := run_append_grow (P := P) w T ty e i z ht hi hz ⟨gb, 0, Option.none⟩ n cap xs hlx holds a m c news hl hcell (by omega) (by omega) hcap
      obtain ⟨H', hF, hR⟩ := fresh cap [(gb, blk cur e)] (by omega) hlx hp
      exact ⟨_, _, hex _ _ #[] hr, H', hF, hR⟩
theorem veqsn {oa : Option Addr} {n c e esz : Nat} {T' : TypeId} [hT : TSl P T e esz] (hx : ev E x = some (.slice oa n c)) (hy : ev E y = some (.slice Option.none 0 0)) :
    OQ P N E D H ⟨some d, .binOp .eql T x y T', ty, pos, af, g⟩ (.bool oa.isNone) :=
  ov (by simp) (fun t w hA _ => by
    have := run_equal_slice_nil (P := P) w T e oa n c hT.und
    simp [execOp, ev_eval hA hx, ev_eval hA hy, eqGuard, binOp, this])
theorem vbs0 {e esz : Nat} [h1 : TSl P T e esz] :
    OG P N E D H ⟨some d, .buildSlice T 0 #[], ty, pos, af, g⟩ (fun v H' => ∃ b, v = .slice (some ⟨b, 0, Option.none⟩) 0 0 ∧ H' = (b, blk [] e) :: H) := by
  refine ⟨by simp, fun t w hA hE => ⟨.value _, { w with heap := w.heap.push (.cells #[] e) }, ?_, (w.heap.size, blk [] e) :: H, Fr.new hE _, w.heap.size, rfl, rfl⟩⟩
  simp only [execOp, Instr.buildSlice, Sem.run_bind, run_underlying h1.und, Result.andThen, h1.size, Sem.run_pure]
  simp [Instr.fill, newRow, newObj, Sem.run, Result.andThen]
  have h0 : Array.map (fun _ => (default : Value)) (Array.range 0) = #[] := Array.eq_empty_of_size_eq_zero (by simp)
  rw [h0]
theorem OwnS.empty {e size b : Nat} : OwnS e size (.slice (some ⟨b, 0, Option.none⟩) 0 0) 0 [] [(b, blk [] e)] := .inr ⟨b, 0, [], rfl, rfl, Nat.le_refl _, by simp [maxLen], by simp, by simp⟩
end
end Go.Proofs.YtoebpndlbldfcaaGreatDoor
namespace Go.Proofs.YtoebpndlbldfcaaGreatDoor
open Go
structure Ent (κ ν : Type) where
  k : κ
  v : ν
  b : Nat
section plain
variable {κ ν : Type}
def fnd [DecidableEq κ] (a : κ) : List (Ent κ ν) → Nat → Option (Nat × ν)
  | [], _ => Option.none
  | e :: r, i => if a = e.k then some (i, e.v) else fnd a r (i + 1)
def mget [DecidableEq κ] (a : κ) (l : List (Ent κ ν)) : Option ν := (fnd a l 0).map Prod.snd
def mput [DecidableEq κ] (a : κ) (v : ν) (c : Nat) : List (Ent κ ν) → List (Ent κ ν)
  | [] => [⟨a, v, c⟩]
  | e :: r => if a = e.k then ⟨a, v, e.b⟩ :: r else e :: mput a v c r
def mclk [DecidableEq κ] (a : κ) (l : List (Ent κ ν)) (c : Nat) : Nat := if (mget a l).isSome then c else c + 1
def mdel [DecidableEq κ] (a : κ) : List (Ent κ ν) → List (Ent κ ν)
  | [] => []
  | e :: r => if a = e.k then r else e :: mdel a r
theorem fnd_shift [DecidableEq κ] (a : κ) : ∀ (l : List (Ent κ ν)) (i : Nat), fnd a l (i + 1) = (fnd a l i).map fun p => (p.1 + 1, p.2)
  | [], i => rfl
  | e :: r, i => by
    simp only [fnd]
    split
    · rfl
    · exact fnd_shift a r (i + 1)
theorem mget_nil [DecidableEq κ] (a : κ) : mget a ([] : List (Ent κ ν)) = Option.none := rfl
theorem mget_cons [DecidableEq κ] (a : κ) (e : Ent κ ν) (r : List (Ent κ ν)) : mget a (e :: r) = if a = e.k then some e.v else mget a r := by
  unfold mget
  simp only [fnd]
  split
  · rfl
  · rw [fnd_shift]; cases fnd a r 0 <;> rfl
theorem mget_mput [DecidableEq κ] (a a' : κ) (v : ν) (c : Nat) : ∀ (l : List (Ent κ ν)), mget a' (mput a v c l) = if a' = a then some v else mget a' l
  | [] => by simp only [mput, mget_cons, mget_nil]
  | e :: r => by
    simp only [mput]
    by_cases h : a = e.k
    · rw [if_pos h]; simp only [mget_cons]
      by_cases h2 : a' = a
      · simp [h2]
      · simp [h2, show ¬ a' = e.k from fun h3 => h2 (h3.trans h.symm)]
    · rw [if_neg h]; simp only [mget_cons, mget_mput a a' v c r]
      by_cases h3 : a' = e.k
      · simp [h3, show ¬ e.k = a from fun h4 => h h4.symm]
      · simp [h3]
theorem mem_mget [DecidableEq κ] {a : κ} {v : ν} : ∀ {l : List (Ent κ ν)}, mget a l = some v → ∃ e ∈ l, e.k = a ∧ e.v = v
  | [], h => by simp [mget_nil] at h
  | e :: r, h => by
    rw [mget_cons] at h
    by_cases h2 : a = e.k
    · rw [if_pos h2] at h; cases h; exact ⟨e, by simp, h2.symm, rfl⟩
    · rw [if_neg h2] at h
      obtain ⟨e', h3, h4⟩ := mem_mget h
      exact ⟨e', List.mem_cons_of_mem _ h3, h4⟩
theorem mget_of_mem [DecidableEq κ] {e : Ent κ ν} : ∀ {l : List (Ent κ ν)}, (l.map Ent.k).Nodup → e ∈ l → mget e.k l = some e.v
  | [], _, h => by cases h
  | x :: r, hn, h => by
    rw [mget_cons]
    simp only [List.map_cons, List.nodup_cons] at hn
    rcases List.mem_cons.1 h with rfl | h
    · rw [if_pos rfl]
    · rw [if_neg (fun hk => hn.1 (by rw [← hk]; exact List.mem_map.2 ⟨e, h, rfl⟩))]
      exact mget_of_mem hn.2 h
structure wfM (l : List (Ent κ ν)) (c : Nat) : Prop where
  ks : (l.map Ent.k).Nodup
  bs : (l.map Ent.b).Nodup
  lt : ∀ e ∈ l, e.b < c
theorem wfM.nil {c : Nat} : wfM ([] : List (Ent κ ν)) c := ⟨by simp, by simp, fun _ h => by cases h⟩
theorem mput_in [DecidableEq κ] {a : κ} {v : ν} {c : Nat} : ∀ {l : List (Ent κ ν)}, (mget a l).isSome = true → (mput a v c l).map Ent.k = l.map Ent.k ∧ (mput a v c l).map Ent.b = l.map Ent.b
  | [], h => by simp [mget_nil] at h
  | e :: r, h => by
    rw [mget_cons] at h
    simp only [mput]
    by_cases h2 : a = e.k
    · rw [if_pos h2]; simp [h2]
    · rw [if_neg h2] at h ⊢
      obtain ⟨h3, h4⟩ := mput_in (v := v) (c := c) h
      simp [h3, h4]
theorem mput_out [DecidableEq κ] {a : κ} {v : ν} {c : Nat} : ∀ {l : List (Ent κ ν)}, mget a l = Option.none → mput a v c l = l ++ [⟨a, v, c⟩]
  | [], _ => rfl
  | e :: r, h => by
    rw [mget_cons] at h
    simp only [mput]
    by_cases h2 : a = e.k
    · rw [if_pos h2] at h; cases h
    · rw [if_neg h2] at h ⊢; rw [mput_out h]; rfl
theorem mget_none [DecidableEq κ] {a : κ} : ∀ {l : List (Ent κ ν)}, mget a l = Option.none ↔ a ∉ l.map Ent.k
  | [] => by simp [mget_nil]
  | e :: r => by
    rw [mget_cons]
    by_cases h2 : a = e.k
    · simp [h2]
    · simp [h2, mget_none (l := r)]
theorem wfM.put [DecidableEq κ] {l : List (Ent κ ν)} {c : Nat} (h : wfM l c) (a : κ) (v : ν) : wfM (mput a v c l) (mclk a l c) := by
  unfold mclk
  cases hg : mget a l with
  | some u =>
    obtain ⟨h1, h2⟩ := mput_in (v := v) (c := c) (l := l) (a := a) (by rw [hg]; rfl)
    refine ⟨by rw [h1]; exact h.ks, by rw [h2]; exact h.bs, fun e he => ?_⟩
    have : e.b ∈ (mput a v c l).map Ent.b := List.mem_map.2 ⟨e, he, rfl⟩
    rw [h2] at this
    obtain ⟨e', h3, h4⟩ := List.mem_map.1 this
    have := h.lt e' h3
    simp only [Option.isSome_some, if_true]; omega
  | none =>
    rw [mput_out hg]
    refine ⟨?_, ?_, fun e he => ?_⟩
    · rw [List.map_append, List.nodup_append]
      refine ⟨h.ks, by simp, fun x hx y hy => ?_⟩
      simp only [List.map_cons, List.map_nil, List.mem_singleton] at hy
      subst hy
      exact fun e => mget_none.1 hg (e ▸ hx)
    · rw [List.map_append, List.nodup_append]
      refine ⟨h.bs, by simp, fun x hx y hy => ?_⟩
      simp only [List.map_cons, List.map_nil, List.mem_singleton] at hy
      subst hy
      obtain ⟨e', h3, rfl⟩ := List.mem_map.1 hx
      have := h.lt e' h3
      omega
    · simp only [Option.isSome_none, Bool.false_eq_true, if_false]
      rcases List.mem_append.1 he with he | he
      · have := h.lt e he; omega
      · rw [List.mem_singleton.1 he]; exact Nat.lt_succ_self c
theorem wfM.mono {l : List (Ent κ ν)} {c c' : Nat} (h : wfM l c) (hc : c ≤ c') : wfM l c' := ⟨h.ks, h.bs, fun e he => Nat.lt_of_lt_of_le (h.lt e he) hc⟩
end plain
def mE {κ ν : Type} (ek : κ → Value) (ev : ν → Value) (l : List (Ent κ ν)) : List MapEntry := l.map fun e => ⟨ek e.k, ev e.v, e.b⟩
def mapO {κ ν : Type} (ek : κ → Value) (ev : ν → Value) (l : List (Ent κ ν)) (c : Nat) : Obj := .map (mE ek ev l).toArray c
class TMk (P : Program) (T : TypeId) {κ : Type} [DecidableEq κ] (ek : κ → Value) (z : outParam Value) : Prop where
  spec : ∃ kt et, P.underlying T = some (.map kt et) ∧ (∀ w, (zeroValue et).run P w = .ok z w) ∧ (∀ em a w, (Instr.checkKey em 10000 kt (ek a)).run P w = .ok () w) ∧
    (∀ {ν : Type} (ev : ν → Value) (a : κ) (l : List (Ent κ ν)) w, (Instr.findKey kt (ek a) (mE ek ev l)).run P w = .ok ((fnd a l 0).map fun p => (p.1, ev p.2)) w) ∧
    (∀ a, Instr.sameBits 10000 (ek a) (ek a) = true)
theorem findNow_fnd {κ ν : Type} [DecidableEq κ] {ek : κ → Value} {ev : ν → Value} {td : TypeDesc} (hs : ∀ a b, Instr.sameNow td (ek a) (ek b) = some (decide (a = b))) (a : κ) : ∀ (l : List (Ent κ ν)) (i : Nat),
    Instr.findNow td (ek a) (mE ek ev l) i = some ((fnd a l i).map fun p => (p.1, ev p.2))
  | [], i => rfl
  | e :: r, i => by
    simp only [mE, List.map_cons, Instr.findNow, hs, fnd]
    by_cases h : a = e.k
    · simp [h]
    · simp only [h, decide_false, if_false]
      exact findNow_fnd hs a r (i + 1)
theorem findAsk_fnd {P : Program} {κ ν : Type} [DecidableEq κ] {ek : κ → Value} {ev : ν → Value} {kt : TypeId} {w : World} (hs : ∀ a b, (Op.equal kt (ek a) (ek b)).run P w = .ok (decide (a = b)) w) (a : κ) : ∀ (l : List (Ent κ ν)) (i : Nat),
    (Instr.findAsking kt (ek a) (mE ek ev l) i).run P w = .ok ((fnd a l i).map fun p => (p.1, ev p.2)) w
  | [], i => rfl
  | e :: r, i => by
    simp only [mE, List.map_cons, Instr.findAsking, Sem.run_bind, hs, Result.andThen, fnd]
    by_cases h : a = e.k
    · simp [h]
    · simp only [h, decide_false, Bool.false_eq_true, if_false]
      exact findAsk_fnd hs a r (i + 1)
section
variable {P : Program} {f : FuncId} {ro : Option Nat} {N : Nat} {k : List Item} {E : Env} {D : List Deferred} {H : Heap} {Q : Out → Heap → Prop}
variable {d : Nat} {x y z : Operand} {T ty : TypeId} {pos : String} {af : Array Edge} {g : Option (Nat × Bool)}
variable {κ ν : Type} {ek : κ → Value} {ev' : ν → Value} {zv : Value}
theorem vmm {rv : Option Operand} (hr : rv = Option.none) : OG P N E D H ⟨some d, .makeMap T rv, ty, pos, af, g⟩ (fun v H' => ∃ b, v = .map (some b) ∧ H' = (b, mapO ek ev' [] 0) :: H) := by
  subst hr
  refine ⟨by simp, fun t w hA hE => ⟨.value (.map (some w.heap.size)), { w with heap := w.heap.push (.map #[] 0) }, ?_, (w.heap.size, .map #[] 0) :: H, Fr.new hE _, w.heap.size, rfl, rfl⟩⟩
  simp [execOp, Instr.makeMap, newObj, Sem.run, Result.andThen]
theorem vlook [DecidableEq κ] {b c : Nat} {l : List (Ent κ ν)} {F : Obj → Heap} {a : κ} [hT : TMk P T ek zv] [hH : HOb H b (mapO ek ev' l c) F] (hx : ev E x = some (.map (some b))) (hy : ev E y = some (ek a)) :
    OQ P N E D H ⟨some d, .lookup T x y true, ty, pos, af, g⟩ (.tuple [((mget a l).map ev').getD zv, .bool (mget a l).isSome].toArray) :=
  ov (by simp) (fun t w hA hE => by
    obtain ⟨kt, et, h1, h2, h3, h4, h5⟩ := hT.spec
    have hg := hH.get hE
    simp only [execOp, ev_eval hA hx, ev_eval hA hy, Instr.lookup, Sem.run_bind, run_underlying h1, Result.andThen, MapKept.run_getObj_map hg, Sem.run_pure, h3]
    have h6 := h4 ev' a l w
    simp only [h6]
    unfold mget
    cases fnd a l 0 with
    | none => simp [h2, Result.andThen]
    | some p => simp)
theorem vlook1 [DecidableEq κ] {b c : Nat} {l : List (Ent κ ν)} {F : Obj → Heap} {a : κ} [hT : TMk P T ek zv] [hH : HOb H b (mapO ek ev' l c) F] (hx : ev E x = some (.map (some b))) (hy : ev E y = some (ek a)) :
    OQ P N E D H ⟨some d, .lookup T x y false, ty, pos, af, g⟩ (((mget a l).map ev').getD zv) :=
  ov (by simp) (fun t w hA hE => by
    obtain ⟨kt, et, h1, h2, h3, h4, h5⟩ := hT.spec
    have hg := hH.get hE
    simp only [execOp, ev_eval hA hx, ev_eval hA hy, Instr.lookup, Sem.run_bind, run_underlying h1, Result.andThen, MapKept.run_getObj_map hg, Sem.run_pure, h3]
    have h6 := h4 ev' a l w
    simp only [h6]
    unfold mget
    cases fnd a l 0 with
    | none => simp [h2, Result.andThen]
    | some p => simp)
theorem vlook1s [DecidableEq κ] {b c : Nat} {l : List (Ent κ ν)} {F : Obj → Heap} {a : κ} {v : ν} (hk : mget a l = some v) [hT : TMk P T ek zv] [hH : HOb H b (mapO ek ev' l c) F] (hx : ev E x = some (.map (some b))) (hy : ev E y = some (ek a)) :
    OQ P N E D H ⟨some d, .lookup T x y false, ty, pos, af, g⟩ (ev' v) := by
  have h := vlook1 (P := P) (N := N) (E := E) (D := D) (H := H) (d := d) (x := x) (y := y) (T := T) (ty := ty) (pos := pos) (af := af) (g := g) (ek := ek) (ev' := ev') (a := a) (l := l) (c := c) (b := b) hx hy
  rw [hk] at h; exact h
theorem mE_get {ek : κ → Value} {ev' : ν → Value} {l : List (Ent κ ν)} (i : Nat) : (mE ek ev' l)[i]? = (l[i]?).map fun e => ⟨ek e.k, ev' e.v, e.b⟩ := by simp [mE]
theorem fnd_at [DecidableEq κ] {a : κ} {v : ν} : ∀ {l : List (Ent κ ν)} {i j : Nat}, fnd a l i = some (j, v) → i ≤ j ∧ ∃ e, l[j - i]? = some e ∧ e.k = a ∧ e.v = v
  | [], i, j, h => by simp [fnd] at h
  | e :: r, i, j, h => by
    simp only [fnd] at h
    split at h
    · rename_i hk; cases h; exact ⟨Nat.le_refl _, e, by simp, hk.symm, rfl⟩
    · obtain ⟨h1, e', h2, h3⟩ := fnd_at h
      refine ⟨by omega, e', ?_, h3⟩
      rw [show j - i = (j - (i + 1)) + 1 by omega]; simpa using h2
theorem mput_mod [DecidableEq κ] {ek : κ → Value} {ev' : ν → Value} {a : κ} {v u : ν} {c : Nat} : ∀ {l : List (Ent κ ν)} {i j : Nat}, fnd a l i = some (j, u) →
    mE ek ev' (mput a v c l) = (mE ek ev' l).modify (j - i) (fun e => { e with key := ek a, val := ev' v })
  | [], i, j, h => by simp [fnd] at h
  | e :: r, i, j, h => by
    simp only [fnd] at h
    simp only [mput]
    by_cases hk : a = e.k
    · rw [if_pos hk] at h ⊢; cases h
      simp [mE]
    · rw [if_neg hk] at h ⊢
      have h1 := (fnd_at h).1
      have ih := mput_mod (ek := ek) (ev' := ev') (v := v) (c := c) h
      rw [show j - i = (j - (i + 1)) + 1 by omega]
      simp only [mE, List.map_cons, List.modify_succ_cons] at ih ⊢
      rw [ih]
theorem mdel_erase [DecidableEq κ] {ek : κ → Value} {ev' : ν → Value} {a : κ} {u : ν} : ∀ {l : List (Ent κ ν)} {i j : Nat}, fnd a l i = some (j, u) → mE ek ev' (mdel a l) = (mE ek ev' l).eraseIdx (j - i)
  | [], i, j, h => by simp [fnd] at h
  | e :: r, i, j, h => by
    simp only [fnd] at h
    simp only [mdel]
    by_cases hk : a = e.k
    · rw [if_pos hk] at h ⊢; cases h
      simp [mE]
    · rw [if_neg hk] at h ⊢
      have h1 := (fnd_at h).1
      have ih := mdel_erase (ek := ek) (ev' := ev') h
      rw [show j - i = (j - (i + 1)) + 1 by omega]
      simp only [mE, List.map_cons, List.eraseIdx_cons_succ] at ih ⊢
      rw [ih]
theorem mdel_no [DecidableEq κ] {a : κ} : ∀ {l : List (Ent κ ν)} {i : Nat}, fnd a l i = Option.none → mdel a l = l
  | [], _, _ => rfl
  | e :: r, i, h => by
    simp only [fnd] at h
    simp only [mdel]
    by_cases hk : a = e.k
    · rw [if_pos hk] at h; cases h
    · rw [if_neg hk] at h ⊢; rw [mdel_no h]
theorem run_mapUpdate [DecidableEq κ] {b c : Nat} {l : List (Ent κ ν)} {a : κ} {v : ν} {w : World} [hT : TMk P T ek zv] (hg : w.heap[b]? = some (mapO ek ev' l c)) :
    (Instr.mapUpdate T (.map (some b)) (ek a) (ev' v)).run P w = .ok () { w with heap := w.heap.setIfInBounds b (mapO ek ev' (mput a v c l) (mclk a l c)) } := by
  obtain ⟨kt, et, h1, h2, h3, h4, h5⟩ := hT.spec
  have hs : ∀ o : Obj, (setObj b o).run P w = .ok () { w with heap := w.heap.setIfInBounds b o } := fun o => by simp [setObj, Sem.run, hg, mapO]
  simp only [Instr.mapUpdate, Sem.run_bind, run_underlying h1, Result.andThen, MapKept.run_getObj_map (es := (mE ek ev' l).toArray) (clock := c) hg, h3]
  have h6 := h4 ev' a l w
  simp only [h6]
  unfold mclk mget
  cases hf : fnd a l 0 with
  | none =>
    have hm : mget a l = Option.none := by unfold mget; rw [hf]; rfl
    simp only [Option.map_none, Option.isSome_none, Bool.false_eq_true, if_false]
    rw [hs, mput_out hm]
    simp [mapO, mE]
  | some p =>
    obtain ⟨j, u⟩ := p
    obtain ⟨_, e, h7, h8, _⟩ := fnd_at hf
    simp only [Nat.sub_zero] at h7
    have hm := mput_mod (ek := ek) (ev' := ev') (v := v) (c := c) hf
    simp only [Nat.sub_zero] at hm
    have hkey : (((mE ek ev' l).toArray[j]?).map (·.key)).getD (ek a) = ek a := by
      simp [mE_get (ek := ek) (ev' := ev'), h7, h8]
    simp only [Option.map_some, Sem.run_bind, hkey, Instr.keyThatStays, h5, if_true, Sem.run_pure, Result.andThen, Option.isSome_some]
    rw [hs]
    congr 3
    unfold mapO
    rw [hm]
    congr 1
    apply Array.ext'
    simp
theorem vmup [DecidableEq κ] {b c : Nat} {l : List (Ent κ ν)} {F : Obj → Heap} {a : κ} {v : ν} [hT : TMk P T ek zv] [hH : HOb H b (mapO ek ev' l c) F] (hx : ev E x = some (.map (some b))) (hy : ev E y = some (ek a)) (hz : ev E z = some (ev' v)) :
    OG P N E D H ⟨Option.none, .mapUpdate T x y z, ty, pos, af, g⟩ (fun _ H' => H' = F (mapO ek ev' (mput a v c l) (mclk a l c))) := by
  refine ⟨by simp, fun t w hA hE => ?_⟩
  have hr := run_mapUpdate (P := P) (T := T) (a := a) (v := v) (hH.get hE)
  refine ⟨.skip, _, ?_, _, hH.set hE (mapO ek ev' (mput a v c l) (mclk a l c)), rfl⟩
  simp [execOp, ev_eval hA hx, ev_eval hA hy, ev_eval hA hz, hr, Result.andThen]
theorem vmdel [DecidableEq κ] {b c : Nat} {l : List (Ent κ ν)} {F : Obj → Heap} {a : κ} {T2 : TypeId} [hT : TMk P T ek zv] [hH : HOb H b (mapO ek ev' l c) F] (hx : ev E x = some (.map (some b))) (hy : ev E y = some (ek a)) :
    OG P N E D H ⟨Option.none, .call ⟨.builtin .delete, #[x, y], #[T, T2]⟩, ty, pos, af, g⟩ (fun _ H' => H' = F (mapO ek ev' (mdel a l) c)) := by
  refine ⟨by simp, fun t w hA hE => ?_⟩
  obtain ⟨kt, et, h1, h2, h3, h4, h5⟩ := hT.spec
  have hg := hH.get hE
  have hs : ∀ o : Obj, (setObj b o).run P w = .ok () { w with heap := w.heap.setIfInBounds b o } := fun o => by simp [setObj, Sem.run, hg, mapO]
  have h6 := h4 ev' a l w
  have hr : (Builtin.delete_ #[T, T2] ty #[.map (some b), ek a]).run P w = .ok (.tuple #[]) { w with heap := w.heap.setIfInBounds b (mapO ek ev' (mdel a l) c) } := by
    simp only [Builtin.delete_, List.getElem?_toArray, List.getElem?_cons_zero, List.getElem?_cons_succ, Sem.run_bind, run_underlying h1, Result.andThen, MapKept.run_getObj_map (es := (mE ek ev' l).toArray) (clock := c) hg, h3, h6]
    cases hf : fnd a l 0 with
    | none =>
      rw [mdel_no hf]
      simp [hs, mapO, Result.andThen]
    | some p =>
      obtain ⟨j, u⟩ := p
      have hm := mdel_erase (ek := ek) (ev' := ev') hf
      simp only [Nat.sub_zero] at hm
      simp only [Option.map_some, hs, Result.andThen, Sem.run_pure, Sem.run_bind]
      unfold mapO
      rw [hm]
      congr 4
      simp
  refine ⟨.value (.tuple #[]), { w with heap := w.heap.setIfInBounds b (mapO ek ev' (mdel a l) c) }, ?_, _, hH.set hE (mapO ek ev' (mdel a l) c), rfl⟩
  simp only [execOp, resolve, invoke, builtin, List.map_toArray, List.map_cons, List.map_nil, ev_eval hA hx, ev_eval hA hy, Sem.run_bind, Sem.run_pure, Result.andThen, hr]
theorem vmrange [DecidableEq κ] {b c : Nat} {l : List (Ent κ ν)} {F : Obj → Heap} [hT : TMk P T ek zv] [hH : HOb H b (mapO ek ev' l c) F] (hx : ev E x = some (.map (some b))) :
    OG P N E D H ⟨some d, .range T x, ty, pos, af, g⟩ (fun v H' => ∃ i, v = .pointer (some ⟨i, 0, Option.none⟩) ∧ H' = (i, .mapIter (some b) c #[] c) :: H) := by
  refine ⟨by simp, fun t w hA hE => ⟨.value _, _, ?_, _, Fr.new hE (.mapIter (some b) c #[] c), w.heap.size, rfl, rfl⟩⟩
  obtain ⟨kt, et, h1, _⟩ := hT.spec
  have hg := hH.get hE
  simp only [execOp, ev_eval hA hx, Sem.run_bind, run_range_map w T kt et b _ c h1 hg, Result.andThen, Sem.run_pure]
  rfl
theorem vmnext {i b c since : Nat} {seen : Array Nat} {l : List (Ent κ ν)} {F F2 : Obj → Heap} [hI : HOb H i (.mapIter (some b) since seen since) F] [hH : HOb H b (mapO ek ev' l c) F2] (hx : ev E x = some (.pointer (some ⟨i, 0, Option.none⟩))) (hc : c = since) (hold : ∀ e ∈ l, e.b < since) :
    OG P N E D H ⟨some d, .next x false, ty, pos, af, g⟩ (fun v H' => (v = .tuple [.bool false].toArray ∧ H' = H ∧ ∀ e ∈ l, seen.contains e.b = true) ∨
      ∃ e ∈ l, seen.contains e.b = false ∧ v = .tuple [.bool true, ek e.k, ev' e.v].toArray ∧ H' = F (.mapIter (some b) since (seen.push e.b) since)) := by
  subst hc
  refine ⟨by simp, fun t w hA hE => ?_⟩
  have hgi := hI.get hE
  have hgm := hH.get hE
  have hex : ∀ (v : Value) (w' : World), (Instr.next (.pointer (some ⟨i, 0, Option.none⟩)) false ty).run P w = .ok v w' → (execOp (Act.eval ⟨t, D⟩) ⟨some d, .next x false, ty, pos, af, g⟩).run P w = .ok (.value v) w' := by
    intro v w' h
    simp only [execOp, ev_eval hA hx, Sem.run_bind, h, Result.andThen, Sem.run_pure]
  have hold' : ∀ e ∈ (mE ek ev' l).toArray.toList, e.born < c := by
    intro e he
    obtain ⟨e', h1, rfl⟩ := List.mem_map.1 he
    exact hold e' h1
  have htest := next_test_false seen (mE ek ev' l).toArray c c hold' (Nat.le_refl _)
  have hobi : (getObj i).run P w = .ok (.mapIter (some b) c seen c) w := by simp [getObj, Sem.run, hgi]
  have hobm : (getObj b).run P w = .ok (.map (mE ek ev' l).toArray c) w := MapKept.run_getObj_map hgm
  have hlist : ∀ x : MapEntry, x ∈ Array.filter (fun e => !seen.contains e.born) (mE ek ev' l).toArray ↔ x ∈ mE ek ev' l ∧ seen.contains x.born = false := by
    intro x
    rw [Array.mem_filter]
    simp
  generalize hL : Array.filter (fun e => !seen.contains e.born) (mE ek ev' l).toArray = L at hlist
  have hmem : ∀ x ∈ L.toList, x.born < c := fun x hx => hold' x (by simpa using ((hlist x).1 (by simpa using hx)).1)
  have e1 : L.filter (fun x => decide (x.born < c)) = L := Array.filter_eq_self.2 (fun x hx => by simpa using hmem x (by simpa using hx))
  have e2 : L.filter (fun x => decide (x.born ≥ c)) = #[] := by
    rw [Array.filter_eq_empty_iff]
    intro x hx
    have := hmem x (by simpa using hx)
    simp
    omega
  by_cases h0 : L.size = 0
  · have hLe : L = #[] := Array.eq_empty_of_size_eq_zero h0
    refine ⟨.value (.tuple #[.bool false]), w, hex _ _ ?_, H, Fr.refl hE, .inl ⟨rfl, rfl, fun e he => ?_⟩⟩
    · simp only [Instr.next, Sem.run_bind, hobi, hobm, Result.andThen, htest, Bool.false_eq_true, if_false, hL, e1, e2]
      subst hLe
      simp [choose, Sem.run, Question.forced]
    · cases hc : seen.contains e.b with
      | true => rfl
      | false =>
        have h1 := (hlist ⟨ek e.k, ev' e.v, e.b⟩).2 ⟨List.mem_map.2 ⟨e, he, rfl⟩, hc⟩
        rw [hLe] at h1
        simp at h1
  · have hne : L.isEmpty = false := by simp [Array.isEmpty, h0]
    have hch : ∃ (j : Nat) (w1 : World), j < L.size ∧ (w1 = w ∨ w1 = w.drew) ∧ (choose (Question.mapNext L.size)).run P w = .ok j w1 := by
      by_cases hf : L.size ≤ 1
      · exact ⟨0, w, by omega, .inl rfl, by simp [choose, Sem.run, Question.forced, hf]⟩
      · exact ⟨_, w.drew, Nat.mod_lt _ (by omega), .inr rfl, by
          simp only [choose, Sem.run, Question.forced, decide_eq_true_eq, hf, if_false, Question.cut]
          rfl⟩
    obtain ⟨j, w1, hj, hw1, hrun⟩ := hch
    have hF1 : Fr H w H w1 := by
      rcases hw1 with rfl | rfl
      · exact Fr.refl hE
      · exact ⟨rfl, rfl, rfl, Nat.le_refl _, fun _ _ _ => rfl, ⟨hE.nodup, hE.at_⟩, fun e he => .inl (List.mem_map.2 ⟨e, he, rfl⟩)⟩
    obtain ⟨h1, h2⟩ := (hlist L[j]).1 (Array.getElem_mem hj)
    obtain ⟨e, h3, h4⟩ := List.mem_map.1 h1
    refine ⟨.value (.tuple #[.bool true, ek e.k, ev' e.v]), { w1 with heap := w1.heap.setIfInBounds i (.mapIter (some b) c (seen.push e.b) c) }, hex _ _ ?_, _, hF1.trans (hI.set hF1.emb (.mapIter (some b) c (seen.push e.b) c)), .inr ⟨e, h3, by rw [← h4] at h2; exact h2, rfl, rfl⟩⟩
    have hgi1 := hI.get hF1.emb
    simp only [Instr.next, Sem.run_bind, hobi, hobm, Result.andThen, htest, Bool.false_eq_true, if_false, hL, e1, e2, hne, Array.append_empty, Array.empty_append, Array.size_map, hrun, Array.getElem?_map, Array.getElem?_eq_getElem hj, Option.map_some]
    rw [← h4]
    simp [setObj, Sem.run, hgi1, Result.andThen]
theorem vmentry {i b c since : Nat} {seen : Array Nat} {l : List (Ent κ ν)} {F F2 : Obj → Heap} {e : Ent κ ν} [hI : HOb H i (.mapIter (some b) since (seen.push e.b) since) F] [hH : HOb H b (mapO ek ev' l c) F2] (hx : ev E x = some (.pointer (some ⟨i, 0, Option.none⟩))) (hc : c = since) (he : e ∈ l) (hw : (l.map Ent.b).Nodup) :
    OQ P N E D H ⟨some d, .entry x, ty, pos, af, g⟩ (.tuple [ek e.k, ev' e.v].toArray) :=
  ov (by simp) (fun t w hA hE => by
    subst hc
    have hgi := hI.get hE
    have hgm := hH.get hE
    have hobi : (getObj i).run P w = .ok (.mapIter (some b) c (seen.push e.b) c) w := by simp [getObj, Sem.run, hgi]
    have hobm : (getObj b).run P w = .ok (.map (mE ek ev' l).toArray c) w := MapKept.run_getObj_map hgm
    have hf : (mE ek ev' l).toArray.find? (·.born == e.b) = some ⟨ek e.k, ev' e.v, e.b⟩ := by
      rw [← Array.find?_toList]
      refine find_born ⟨ek e.k, ev' e.v, e.b⟩ _ ?_ (List.mem_map.2 ⟨e, he, rfl⟩)
      have : (mE ek ev' l).map (·.born) = l.map Ent.b := by unfold mE; rw [List.map_map]; rfl
      rw [this]; exact hw
    simp only [execOp, ev_eval hA hx, Instr.entry, Sem.run_bind, hobi, hobm, Result.andThen, Array.back?_push, bne_self_eq_false, Bool.false_eq_true, if_false, hf, Sem.run_pure])
end
theorem mkTMkS {P : Program} {T kt et : TypeId} {z : Value} (h1 : P.underlying T = some (.map kt et)) (h2 : P.underlying kt = some .string) (h3 : (P.info? et).map (·.zero) = some (some z)) : TMk P T Value.string z := by
  have hb : ∀ a b : ByteArray, (a == b) = decide (a = b) := fun a b => by rw [Bool.eq_iff_iff, decide_eq_true_iff]; exact MapKept.bytes_beq a b
  refine ⟨kt, et, h1, fun w => ?_, fun em a w => ?_, fun ev a l w => ?_, fun a => ?_⟩
  · cases hi : P.info? et with
    | none => simp [hi] at h3
    | some i => simp [hi] at h3; simp [zeroValue, run_info hi, h3]
  · exact MapKept.run_checkKey h2 (d := .string) (k := .string a) trivial em 9999
  · have h := findNow_fnd (ek := Value.string) (ev := ev) (td := .string) (fun a b => by simp only [Instr.sameNow, hb]) a l 0
    simp only [Instr.findKey, Sem.run_bind, run_underlying h2, Result.andThen, h, Sem.run_pure]
  · exact MapKept.sameBits_self (d := .string) (k := .string a) trivial 10000
theorem mkTMkP {P : Program} {T kt et : TypeId} {κ : Type} [DecidableEq κ] {ek : κ → Value} {z : Value} {td : TypeDesc} (h1 : P.underlying T = some (.map kt et)) (h2 : P.underlying kt = some td) (h3 : (P.info? et).map (·.zero) = some (some z))
    (hs : ∀ a b, Instr.sameNow td (ek a) (ek b) = Option.none) (hc : ∀ em a w, (Instr.checkKey em 10000 kt (ek a)).run P w = .ok () w) (he : ∀ a b w, (Op.equal kt (ek a) (ek b)).run P w = .ok (decide (a = b)) w) (hb : ∀ a, Instr.sameBits 10000 (ek a) (ek a) = true) : TMk P T ek z := by
  refine ⟨kt, et, h1, fun w => ?_, hc, fun ev a l w => ?_, hb⟩
  · cases hi : P.info? et with
    | none => simp [hi] at h3
    | some i => simp [hi] at h3; simp [zeroValue, run_info hi, h3]
  · cases l with
    | nil => simp [Instr.findKey, run_underlying h2, mE, Instr.findNow, fnd, Result.andThen]
    | cons e r =>
      have hn : Instr.findNow td (ek a) (mE ek ev (e :: r)) 0 = Option.none := by simp only [mE, List.map_cons, Instr.findNow, hs]
      simp only [Instr.findKey, Sem.run_bind, run_underlying h2, Result.andThen, hn]
      exact findAsk_fnd (fun a b => he a b w) a (e :: r) 0
end Go.Proofs.YtoebpndlbldfcaaGreatDoor
namespace Go.Proofs.YtoebpndlbldfcaaGreatDoor
open Go
section
variable {P : Program} {f : FuncId} {ro : Option Nat} {N : Nat} {k : List Item} {E : Env} {D : List Deferred} {H : Heap} {Q : Out → Heap → Prop}
theorem VY.outp {y : Value} {args : List Value} {H : Heap} {R R' : Bool → Heap → Prop} (h : VY P y args H R) (hr : ∀ b H', R b H' → ∃ H2, H'.Perm H2 ∧ R' b H2) : VY P y args H R' :=
  fun w hE => let ⟨n, h1, h2⟩ := h w hE; ⟨n, h1, h2.mono fun v w2 ⟨H', b, hF, hv, hR⟩ => let ⟨H2, hp, hR'⟩ := hr b H' hR; ⟨H2, b, hF.perm (.refl _) hp, hv, hR'⟩⟩
def VItM {α : Type} (P : Program) (kf : FuncId) (caps : List Value) (X : α → List Value → Heap → Prop) (xs : List α) (Hi : Heap) : Prop :=
  ∀ (yf : Fn) (ya yc : Array Value) (J : List α → Heap → Prop) (Jx : Heap → Prop) (Hc : Heap), J [] Hc →
    (∀ pre x post, xs = pre ++ x :: post → ∀ vs Hx H1, X x vs Hx → J pre H1 → VY P (.func yf ya yc) vs (Hx ++ H1) (fun b H2 => ∃ H1', H2 = Hx ++ H1' ∧ if b = true then J (pre ++ [x]) H1' else Jx H1')) →
    VCall P kf (Value.func yf ya yc :: caps).toArray (Hi ++ Hc) (fun o H' => o = .val (.tuple #[]) ∧ ∃ Hc', H' = Hi ++ Hc' ∧ (J xs Hc' ∨ Jx Hc'))
theorem vrangeM {α : Type} {X : α → List Value → Heap → Prop} {xs : List α} {kf : FuncId} {caps : List Value} {Hi Hc : Heap} {gop : Operand} {ps : List Nat} {as bd : Code} [TFn P kf] (I : List α → Heap → Prop) (Ix : Code → Heap → Prop)
    (hg : ev E gop = some (.func (.func kf) #[] caps.toArray)) (hit : VItM P kf caps X xs Hi) (hp : H.Perm (Hi ++ Hc)) (h0 : I [] Hc) (hsz : ∀ x vs Hx, X x vs Hx → ps.length = vs.length) (hps : (ps.all fun p => Nat.blt p N) = true)
    (body : ∀ lp rec pre x post vs Hx H1, rec.state = .ready → xs = pre ++ x :: post → X x vs Hx → I pre H1 →
      VRun P f (some lp) N [.code as, .beginRound, .code bd] (parE ps vs E) [] ((lp, .loop rec) :: (Hx ++ H1)) (RQ lp rec (fun H2 => ∃ H1', H2 = Hx ++ H1' ∧ I (pre ++ [x]) H1') (fun c H2 => ∃ H1', H2 = Hx ++ H1' ∧ Ix c H1')))
    (done : ∀ r H1, I xs H1 → VRun P f Option.none N k E (mark r :: D) ((r, .deferred (some [])) :: (Hi ++ H1)) Q)
    (stop : ∀ r c H1, Ix c H1 → VRun P f Option.none N (.code c :: k) E (mark r :: D) ((r, .deferred (some [])) :: (Hi ++ H1)) Q) :
    VRun P f Option.none N (.code (.rangeFunc gop ps.toArray as bd) :: k) E D H Q := by
  intro t w cs hA hE
  let rc : Loop := { state := .ready, pending := Option.none, fn := f, tmps := t, params := ps.toArray, assign := as, body := bd, defers := w.heap.size }
  let w1 : World := { w with heap := w.heap.push (.deferred (some [])) }
  let w2 : World := { w1 with heap := w1.heap.push (.loop rc) }
  have hF1 : Fr H w ((w.heap.size, .deferred (some [])) :: H) w1 := Fr.new hE _
  have hF2 : Fr ((w.heap.size, .deferred (some [])) :: H) w1 ((w.heap.size + 1, .loop rc) :: (w.heap.size, .deferred (some [])) :: H) w2 := by
    have h := Fr.new hF1.emb (.loop rc)
    rw [show w1.heap.size = w.heap.size + 1 from Array.size_push _] at h
    exact h
  have henter : (Instr.enterLoop f t ps.toArray as bd Option.none).run P w = .ok (w.heap.size + 1, [mark w.heap.size]) w2 := by
    simp only [w2, w1, rc, mark]
    rw [show w.heap.size + 1 = (w.heap.push (Obj.deferred (some []))).size from (Array.size_push _).symm]
    rfl
  have hst := range_steps (P := P) (D := D) (k := k) (cs := cs) (ro := Option.none) hA hg henter
  have hcall := hit (.yield (w.heap.size + 1)) #[] #[] (fun pre Hx => ∃ H1, Hx = (w.heap.size + 1, .loop rc) :: H1 ∧ I pre H1)
    (fun Hx => ∃ c H1, Hx = (w.heap.size + 1, .loop { rc with state := .done, pending := some c }) :: H1 ∧ Ix c H1) ((w.heap.size + 1, .loop rc) :: Hc) ⟨Hc, rfl, h0⟩
    (by
      rintro pre x post hx vs Hx H1' hX ⟨H1, rfl, hI⟩
      have h1 := round_VY (lp := w.heap.size + 1) (f := f) (t := t) (rec := rc) ⟨rfl, rfl, rfl, rfl, rfl, rfl, rfl⟩ hA (hsz x vs Hx hX) hps (body _ rc pre x post vs Hx H1 rfl hx hX hI)
      refine (h1.perm List.perm_middle.symm).outp fun b H2 hR => ?_
      by_cases hb : b = true
      · rw [if_pos hb] at hR
        obtain ⟨H3, rfl, H4, rfl, hI4⟩ := hR
        exact ⟨Hx ++ (w.heap.size + 1, .loop rc) :: H4, List.perm_middle.symm, _, rfl, by rw [if_pos hb]; exact ⟨H4, rfl, hI4⟩⟩
      · rw [if_neg hb] at hR
        obtain ⟨c, H3, rfl, H4, rfl, hI4⟩ := hR
        exact ⟨Hx ++ (w.heap.size + 1, .loop { rc with state := .done, pending := some c }) :: H4, List.perm_middle.symm, _, rfl, by rw [if_neg hb]; exact ⟨c, H4, rfl, hI4⟩⟩)
  have hperm : ((w.heap.size + 1, Obj.loop rc) :: (w.heap.size, Obj.deferred (some [])) :: H).Perm ((Hi ++ (w.heap.size + 1, .loop rc) :: Hc) ++ [(w.heap.size, .deferred (some []))]) := by
    refine List.Perm.trans ?_ List.perm_append_comm
    refine List.Perm.trans (List.Perm.swap _ _ _) ?_
    refine List.Perm.cons _ ?_
    refine List.Perm.trans (List.Perm.cons _ hp) ?_
    exact List.perm_middle.symm
  obtain ⟨o, w3, m3, H3, hR, hF3, hs3, hfin⟩ := (hcall.frame (B := [(w.heap.size, .deferred (some []))])).perm hperm w2 ((bas f Option.none).atR ⟨t, [mark w.heap.size] ++ D⟩ (.inRangeFunc (w.heap.size + 1) :: k) :: cs) (hF1.trans hF2).emb
  obtain ⟨A', rfl, rfl, Hc', rfl, hJ⟩ := hR
  obtain ⟨_, fr', rfl, _, hleave⟩ := hfin
  have hback : Steps P (lone ((bas f Option.none).atR ⟨t, D⟩ (.code (.rangeFunc gop ps.toArray as bd) :: k)) cs w) (lone ((bas f Option.none).atR ⟨t, [mark w.heap.size] ++ D⟩ (.endRangeFunc (w.heap.size + 1) :: k)) cs w3) := by
    refine .head hst (hs3.trans (.one ?_))
    rw [← finish_atR_inRangeFunc (b := bas f Option.none) (a := ⟨t, [mark w.heap.size] ++ D⟩) (k := k) (w.heap.size + 1) (.tuple #[])]
    exact step_leave_returned hleave
  have hFall := (hF1.trans hF2).trans hF3
  have fin : ∀ (rc' : Loop) (H1 : Heap), Hc' = (w.heap.size + 1, .loop rc') :: H1 → rc'.state ≠ .busy → ∃ w4, (Instr.endLoop (w.heap.size + 1)).run P w3 = .ok rc'.pending w4 ∧ Fr H w ((w.heap.size, .deferred (some [])) :: (Hi ++ H1)) w4 := by
    intro rc' H1 hH hb
    subst hH
    have hg : w3.heap[w.heap.size + 1]? = some (.loop rc') := hF3.emb.at_ (w.heap.size + 1, .loop rc') (by simp)
    have hpm : ((Hi ++ (w.heap.size + 1, Obj.loop rc') :: H1) ++ [(w.heap.size, Obj.deferred (some []))]).Perm ((w.heap.size + 1, .loop rc') :: ((w.heap.size, .deferred (some [])) :: (Hi ++ H1))) := by
      refine List.Perm.trans List.perm_append_comm ?_
      refine List.Perm.trans (List.Perm.cons _ List.perm_middle) ?_
      exact List.Perm.swap _ _ _
    have hE3 := hF3.emb.perm hpm
    have hset := (HOb.head (H := (w.heap.size, .deferred (some [])) :: (Hi ++ H1)) (b := w.heap.size + 1) (o := .loop rc')).set hE3 (.loop { rc' with state := .exhausted })
    refine ⟨_, ?_, (hFall.perm (.refl _) hpm).trans (hset.sub (List.sublist_cons_self _ _))⟩
    simp [Instr.endLoop, Instr.getLoop, getObj, setObj, Sem.run, hg, Result.andThen, hb]
  rcases hJ with ⟨H1, hH, hI⟩ | ⟨c, H1, hH, hI⟩
  · obtain ⟨w4, hr, hF4⟩ := fin rc H1 hH (by simp [rc])
    obtain ⟨o, w5, m5, H5, hq, hF5, hs5, hfin5⟩ := done w.heap.size H1 hI t w4 cs hA hF4.emb
    refine ⟨o, w5, m5, H5, hq, hF4.trans hF5, hback.trans (.head (stepR_endRangeFunc (b := bas f Option.none) hr) ?_), hfin5⟩
    simpa [rc] using hs5
  · obtain ⟨w4, hr, hF4⟩ := fin _ H1 hH (by simp)
    obtain ⟨o, w5, m5, H5, hq, hF5, hs5, hfin5⟩ := stop w.heap.size c H1 hI t w4 cs hA hF4.emb
    refine ⟨o, w5, m5, H5, hq, hF4.trans hF5, hback.trans (.head (stepR_endRangeFunc (b := bas f Option.none) hr) ?_), hfin5⟩
    simpa using hs5
end
end Go.Proofs.YtoebpndlbldfcaaGreatDoor
namespace Go.Proofs.YtoebpndlbldfcaaGreatDoor
def turnP (a b c : Pt) : Int := (b.x - a.x) * (c.y - a.y) - (b.y - a.y) * (c.x - a.x)
def atP (f : List Pt) (i : Nat) : Pt := (f[i]?).getD zP
def nxt (f : List Pt) (i : Nat) : Nat := (i + 1) % f.length
def sidesL (f : List Pt) : List (Pt × Pt) := (List.range f.length).map fun i => (atP f i, atP f (nxt f i))
def fieldB (f : List Pt) : Bool := decide (3 ≤ f.length ∧ f.length ≤ 8) && (f.all (fun p => decide p.ok) &&
  (List.range f.length).all fun i => (List.range f.length).all fun j => decide (j = i) || (decide (j = nxt f i) || decide (0 < turnP (atP f i) (atP f (nxt f i)) (atP f j))))
def chkF (f : List Pt) : Int := if fieldB f = true then 0 else 12
def FieldOk (f : List Pt) : Prop := (3 ≤ f.length ∧ f.length ≤ 8) ∧ (∀ p ∈ f, p.ok) ∧ ∀ i j, i < f.length → j < f.length → j ≠ i → j ≠ nxt f i → 0 < turnP (atP f i) (atP f (nxt f i)) (atP f j)
theorem fieldB_iff {f : List Pt} : fieldB f = true ↔ FieldOk f := by
  unfold fieldB FieldOk
  simp only [Bool.and_eq_true, decide_eq_true_eq, List.all_eq_true, List.mem_range, Bool.or_eq_true]
  constructor
  · rintro ⟨h1, h2, h3⟩
    exact ⟨h1, h2, fun i j hi hj h4 h5 => by rcases h3 i hi j hj with h | h | h; exact absurd h h4; exact absurd h h5; exact h⟩
  · rintro ⟨h1, h2, h3⟩
    refine ⟨h1, h2, fun i hi j hj => ?_⟩
    by_cases h4 : j = i
    · exact .inl h4
    · by_cases h5 : j = nxt f i
      · exact .inr (.inl h5)
      · exact .inr (.inr (h3 i j hi hj h4 h5))
theorem chkF_zero {f : List Pt} : chkF f = 0 ↔ FieldOk f := by rw [← fieldB_iff]; unfold chkF; split <;> simp_all
theorem chkF_no {f : List Pt} (h : ¬ FieldOk f) : chkF f = 12 := by rw [← fieldB_iff] at h; exact if_neg h
theorem chkF_ok {f : List Pt} (h : FieldOk f) : chkF f = 0 := chkF_zero.2 h
theorem atP_of {f : List Pt} {i : Nat} {z : Pt} (h : f[i]? = some z) : atP f i = z := by unfold atP; rw [h]; rfl
theorem sides_get {f : List Pt} {i : Nat} (h : i < f.length) : (sidesL f)[i]? = some (atP f i, atP f (nxt f i)) := by
  unfold sidesL; rw [List.getElem?_map, List.getElem?_range h]; rfl
theorem sides_len (f : List Pt) : (sidesL f).length = f.length := by simp [sidesL]
theorem mod_bd {i n : Int} (hn : 0 < n) : 0 ≤ i % n ∧ i % n < n := ⟨Int.emod_nonneg _ (by omega), Int.emod_lt_of_pos _ hn⟩
theorem nxt_lt {f : List Pt} {i : Nat} (h : i < f.length) : nxt f i < f.length := Nat.mod_lt _ (by omega)
theorem nxt_int {f : List Pt} {n : Nat} {i : Int} (hn : f.length = n) (h0 : 0 ≤ i) : ((i + 1) % (n : Int)).toNat = nxt f i.toNat := by
  unfold nxt
  obtain ⟨m, rfl⟩ := Int.eq_ofNat_of_zero_le h0
  rw [hn]
  simp only [Int.ofNat_eq_natCast, Int.toNat_natCast]
  rw [show ((m : Int) + 1) = ((m + 1 : Nat) : Int) by omega, ← Int.natCast_emod, Int.toNat_natCast]
end Go.Proofs.YtoebpndlbldfcaaGreatDoor
namespace Go.Proofs.YtoebpndlbldfcaaGreatDoor
theorem ediv_uniq {x y b : Int} (hb : 0 < b) (h1 : y * b ≤ x) (h2 : x < (y + 1) * b) : x / b = y := by
  have a1 : y ≤ x / b := (Int.le_ediv_iff_mul_le hb).2 h1
  have a2 : x / b < y + 1 := (Int.ediv_lt_iff_lt_mul hb).2 h2
  omega
theorem tdiv_m (a b : Int) : a.tdiv b * b + a.tmod b = a := by rw [Int.mul_comm]; exact Int.mul_tdiv_add_tmod a b
theorem down_eq {a b : Int} (hb : 0 < b) : (if a.tmod b < 0 then a.tdiv b - 1 else a.tdiv b) = a / b := by
  have h := tdiv_m a b
  rcases Int.le_total 0 a with h0 | h0
  · have h1 := Int.tmod_nonneg b h0
    rw [if_neg (by omega), Int.tdiv_eq_ediv_of_nonneg h0]
  · have h1 : 0 ≤ (-a).tmod b := Int.tmod_nonneg b (by omega)
    have h2 : (-a).tmod b < b := Int.tmod_lt_of_pos _ hb
    rw [Int.neg_tmod] at h1 h2
    symm
    split
    · rename_i hneg
      refine ediv_uniq hb ?_ ?_
      · rw [Int.sub_mul, Int.one_mul]; omega
      · rw [show a.tdiv b - 1 + 1 = a.tdiv b by omega]; omega
    · refine ediv_uniq hb ?_ ?_
      · omega
      · rw [Int.add_mul, Int.one_mul]; omega
theorem ediv_bd {n k m : Int} (hk : 0 < k) (hm : 0 ≤ m) (h : -m ≤ n ∧ n ≤ m) : -m ≤ n / k ∧ n / k ≤ m := by
  rcases Int.le_total 0 n with h0 | h0
  · have h1 := Int.ediv_nonneg h0 (show 0 ≤ k by omega)
    have h2 := Int.ediv_le_self k h0
    omega
  · have h1 : n ≤ n / k := (Int.le_ediv_iff_mul_le hk).2 (by
      have := Int.mul_le_mul_of_nonneg_right (show 1 ≤ k by omega) (show 0 ≤ -n by omega)
      rw [Int.one_mul, Int.mul_neg] at this
      rw [Int.mul_comm]; omega)
    have h2 : n / k < 1 := (Int.ediv_lt_iff_lt_mul hk).2 (by omega)
    omega
def cutK (a b : Pt) : Int := b.x - a.x
def cutN (a b : Pt) (x : Int) : Int := cutK a b * a.y + (b.y - a.y) * (x - a.x)
def cutW (a b : Pt) (w : Rw) : Rw :=
  if 0 < cutK a b then ⟨w.x, max w.a (-((-cutN a b w.x) / cutK a b)), w.b⟩
  else if cutK a b < 0 then ⟨w.x, w.a, min w.b ((-cutN a b w.x) / (-cutK a b))⟩
  else if 0 < cutN a b w.x then ⟨w.x, w.a, w.a - 1⟩ else w
theorem cutW_x (a b : Pt) (w : Rw) : (cutW a b w).x = w.x := by unfold cutW; split; rfl; split; rfl; split <;> rfl
def cutsW (l : List (Pt × Pt)) (w : Rw) : Rw := l.foldl (fun w s => cutW s.1 s.2 w) w
theorem cutsW_snoc (l : List (Pt × Pt)) (s : Pt × Pt) (w : Rw) : cutsW (l ++ [s]) w = cutW s.1 s.2 (cutsW l w) := by simp [cutsW]
theorem cut_empty {a b : Pt} {w : Rw} (h : w.b < w.a) : (cutW a b w).b < (cutW a b w).a := by
  unfold cutW; split
  · simp only; omega
  · split
    · simp only; omega
    · split
      · simp only; omega
      · exact h
theorem cuts_empty : ∀ (l : List (Pt × Pt)) {w : Rw}, w.b < w.a → (cutsW l w).b < (cutsW l w).a
  | [], _, h => h
  | _ :: l, _, h => cuts_empty l (cut_empty h)
theorem cutsW_x : ∀ (l : List (Pt × Pt)) (w : Rw), (cutsW l w).x = w.x
  | [], _ => rfl
  | s :: l, w => by
    show (cutsW l (cutW s.1 s.2 w)).x = w.x
    rw [cutsW_x l, cutW_x]
theorem cuts_none {l pre post : List (Pt × Pt)} {s : Pt × Pt} {w : Rw} (h : l = pre ++ s :: post) (hk : cutK s.1 s.2 = 0) (hn : 0 < cutN s.1 s.2 w.x) : (cutsW l w).b < (cutsW l w).a := by
  rw [h, show pre ++ s :: post = (pre ++ [s]) ++ post by simp]
  have : (cutsW (pre ++ [s]) w).b < (cutsW (pre ++ [s]) w).a := by
    rw [cutsW_snoc]
    unfold cutW
    rw [if_neg (by omega), if_neg (by omega), if_pos (by rw [cutsW_x]; exact hn)]
    simp only; omega
  unfold cutsW at *
  rw [List.foldl_append]
  exact cuts_empty post this
def hitW (f : List Pt) (w : Rw) : Bool := decide ((cutsW (sidesL f) w).a ≤ (cutsW (sidesL f) w).b)
def hitP (f : List Pt) (l : List Rw) : Option Pt := (l.find? (hitW f)).map fun w => ⟨w.x, (cutsW (sidesL f) w).a⟩
theorem hitP_some {f : List Pt} {l pre post : List Rw} {w : Rw} (h : l = pre ++ w :: post) (hno : ∀ u ∈ pre, hitW f u = false) (hw : hitW f w = true) : hitP f l = some ⟨w.x, (cutsW (sidesL f) w).a⟩ := by
  unfold hitP
  rw [h, List.find?_append, List.find?_eq_none.2 (by simpa using hno), List.find?_cons_of_pos hw]; rfl
theorem hitP_none {f : List Pt} {l : List Rw} (hno : ∀ u ∈ l, hitW f u = false) : hitP f l = none := by
  unfold hitP; rw [List.find?_eq_none.2 (by simpa using hno)]; rfl
def hitE (f : List Pt) (r : Rg) : Pt × Int := if fieldB f = true then (if r.ok then (match hitP f (rows r) with | some p => (p, 0) | none => (zP, 4)) else (zP, 11)) else (zP, 12)
def Rw.bd (w : Rw) : Prop := (-2097152 ≤ w.x ∧ w.x ≤ 2097152) ∧ (-1099511627776 ≤ w.a ∧ w.a ≤ 1099511627776) ∧ (-1099511627777 ≤ w.b ∧ w.b ≤ 1099511627777)
end Go.Proofs.YtoebpndlbldfcaaGreatDoor
namespace Go.Proofs.YtoebpndlbldfcaaGreatDoor
def atR (l : List Rg) (i : Nat) : Rg := (l[i]?).getD zR
end Go.Proofs.YtoebpndlbldfcaaGreatDoor
namespace Go.Proofs.YtoebpndlbldfcaaGreatDoor
theorem inR_cut {a b : Rg} {p : Pt} : inR (a.map2 Bd.cut b) p ↔ inR a p ∧ inR b p := by
  unfold inR Rg.map2 Bd.cut; simp only; omega
theorem ok_inR {r : Rg} (h : r.ok) {p : Pt} (hp : inR r p) : p.ok := by unfold Rg.ok Bd.fits at h; unfold inR at hp; unfold Pt.ok; omega
def Incr (n from_ : Nat) : List Nat → Prop
  | [] => True
  | j :: js => (from_ ≤ j ∧ j < n) ∧ Incr n (j + 1) js
theorem Incr.mono {n : Nat} : ∀ {js : List Nat} {a b : Nat}, a ≤ b → Incr n b js → Incr n a js
  | [], _, _, _, _ => True.intro
  | _ :: _, _, _, hab, h => ⟨⟨by have := h.1.1; omega, h.1.2⟩, h.2⟩
theorem Incr.mem {n : Nat} : ∀ {js : List Nat} {a : Nat}, Incr n a js → ∀ j ∈ js, a ≤ j ∧ j < n
  | _ :: js, a, h, j, hj => by
    rcases List.mem_cons.1 hj with rfl | hj
    · exact h.1
    · have := Incr.mem h.2 j hj
      have := h.1.1
      omega
theorem atR_of {l : List Rg} {i : Nat} {z : Rg} (h : l[i]? = some z) : atR l i = z := by unfold atR; rw [h]; rfl
theorem atR_mem {l : List Rg} {i : Nat} (h : i < l.length) : atR l i ∈ l := by
  rw [atR_of (List.getElem?_eq_getElem h)]; exact List.getElem_mem h
end Go.Proofs.YtoebpndlbldfcaaGreatDoor
namespace Go.Proofs.YtoebpndlbldfcaaGreatDoor
structure TotR (r t : Rg) : Prop where
  mem : ∀ p, inR r p → inR t p
  xlo : ∃ p, inR r p ∧ p.x = t.x.lo
  xhi : ∃ p, inR r p ∧ p.x = t.x.hi
  ylo : ∃ p, inR r p ∧ p.y = t.y.lo
  yhi : ∃ p, inR r p ∧ p.y = t.y.hi
  slo : ∃ p, inR r p ∧ p.x + p.y = t.s.lo
  shi : ∃ p, inR r p ∧ p.x + p.y = t.s.hi
  dlo : ∃ p, inR r p ∧ p.x - p.y = t.d.lo
  dhi : ∃ p, inR r p ∧ p.x - p.y = t.d.hi
theorem tight_totR {r t : Rg} (h : tightP r = some t) : TotR r t := by
  have g := tight_tot h
  have f : ∀ {q : Pt → Prop}, (∃ p ∈ endsOf r, q p) → ∃ p, inR r p ∧ q p := fun ⟨p, h1, h2⟩ => ⟨p, ends_in h1, h2⟩
  exact ⟨fun p hp => (tight_in h p).2 hp, f g.xlo, f g.xhi, f g.ylo, f g.yhi, f g.slo, f g.shi, f g.dlo, f g.dhi⟩
theorem TotR.uniq {a b t u : Rg} (h : TotR a t) (g : TotR b u) (e : ∀ p, inR a p ↔ inR b p) : t = u := by
  have key : ∀ {a b t u : Rg}, TotR a t → TotR b u → (∀ p, inR a p → inR b p) → (u.x.lo ≤ t.x.lo ∧ t.x.hi ≤ u.x.hi) ∧ (u.y.lo ≤ t.y.lo ∧ t.y.hi ≤ u.y.hi) ∧ (u.s.lo ≤ t.s.lo ∧ t.s.hi ≤ u.s.hi) ∧ (u.d.lo ≤ t.d.lo ∧ t.d.hi ≤ u.d.hi) := by
    intro a b t u h g e
    obtain ⟨p1, m1, e1⟩ := h.xlo
    obtain ⟨p2, m2, e2⟩ := h.xhi
    obtain ⟨p3, m3, e3⟩ := h.ylo
    obtain ⟨p4, m4, e4⟩ := h.yhi
    obtain ⟨p5, m5, e5⟩ := h.slo
    obtain ⟨p6, m6, e6⟩ := h.shi
    obtain ⟨p7, m7, e7⟩ := h.dlo
    obtain ⟨p8, m8, e8⟩ := h.dhi
    have := g.mem p1 (e _ m1)
    have := g.mem p2 (e _ m2)
    have := g.mem p3 (e _ m3)
    have := g.mem p4 (e _ m4)
    have := g.mem p5 (e _ m5)
    have := g.mem p6 (e _ m6)
    have := g.mem p7 (e _ m7)
    have := g.mem p8 (e _ m8)
    unfold inR at *
    refine ⟨⟨?_, ?_⟩, ⟨?_, ?_⟩, ⟨?_, ?_⟩, ⟨?_, ?_⟩⟩ <;> omega
  obtain ⟨⟨a1, a2⟩, ⟨b1, b2⟩, ⟨c1, c2⟩, d1, d2⟩ := key h g (fun p => (e p).1)
  obtain ⟨⟨a3, a4⟩, ⟨b3, b4⟩, ⟨c3, c4⟩, d3, d4⟩ := key g h (fun p => (e p).2)
  have ex : ∀ (a b : Bd), a.lo = b.lo → a.hi = b.hi → a = b := fun a b h1 h2 => by cases a; cases b; simp_all
  have hx := ex t.x u.x (by omega) (by omega)
  have hy := ex t.y u.y (by omega) (by omega)
  have hs := ex t.s u.s (by omega) (by omega)
  have hd := ex t.d u.d (by omega) (by omega)
  cases t; cases u; simp_all
theorem tight_some {r : Rg} {p : Pt} (h : inR r p) : ∃ t, tightP r = some t := by
  cases e : tightP r with
  | none => exact absurd h (tight_none.1 e p)
  | some t => exact ⟨t, rfl⟩
theorem tight_ne {r t : Rg} (h : tightP r = some t) : ∃ p, inR r p := let ⟨p, hp, _⟩ := (tight_totR h).xlo; ⟨p, hp⟩
theorem tight_eq {a b : Rg} (e : ∀ p, inR a p ↔ inR b p) : tightP a = tightP b := by
  cases ha : tightP a with
  | none => exact (tight_none.2 fun p hp => tight_none.1 ha p ((e p).2 hp)).symm
  | some t =>
    obtain ⟨p, hp⟩ := tight_ne ha
    obtain ⟨u, hu⟩ := tight_some ((e p).1 hp)
    rw [hu, (tight_totR ha).uniq (tight_totR hu) e]
theorem tight_idem {r t : Rg} (h : tightP r = some t) : tightP t = some t := by rw [tight_eq (tight_in h), h]
theorem totR_self {r t : Rg} (h : tightP r = some t) : TotR t t := tight_totR (tight_idem h)
end Go.Proofs.YtoebpndlbldfcaaGreatDoor
namespace Go.Proofs.YtoebpndlbldfcaaGreatDoor
def d2 (p q : Pt) : Int := (q.x - p.x) * (q.x - p.x) + (q.y - p.y) * (q.y - p.y)
def SqSpec (l : List Bd) : Option Bd → Prop
  | none => l = []
  | some b => (∀ i ∈ l, b.lo ≤ i.lo ∧ i.hi ≤ b.hi) ∧ (∃ i ∈ l, i.lo = b.lo) ∧ (∃ i ∈ l, i.hi = b.hi)
theorem SqSpec.snoc {l : List Bd} {o : Option Bd} (h : SqSpec l o) (i : Bd) : SqSpec (l ++ [i]) (sqS o i) := by
  cases o with
  | none =>
    have h : l = [] := h
    subst h
    show (∀ j ∈ [i], (i.span i).lo ≤ j.lo ∧ j.hi ≤ (i.span i).hi) ∧ (∃ j ∈ [i], j.lo = (i.span i).lo) ∧ (∃ j ∈ [i], j.hi = (i.span i).hi)
    refine ⟨fun j hj => ?_, ⟨i, by simp, ?_⟩, ⟨i, by simp, ?_⟩⟩
    · rw [List.mem_singleton.1 hj]; unfold Bd.span; simp only; omega
    · unfold Bd.span; simp only; omega
    · unfold Bd.span; simp only; omega
  | some b =>
    obtain ⟨h1, ⟨j, h2, h3⟩, k, h4, h5⟩ := h
    show (∀ j ∈ l ++ [i], (b.span i).lo ≤ j.lo ∧ j.hi ≤ (b.span i).hi) ∧ (∃ j ∈ l ++ [i], j.lo = (b.span i).lo) ∧ (∃ j ∈ l ++ [i], j.hi = (b.span i).hi)
    unfold Bd.span
    simp only
    refine ⟨fun m hm => ?_, ?_, ?_⟩
    · rcases List.mem_append.1 hm with hm | hm
      · have := h1 m hm; omega
      · rw [List.mem_singleton.1 hm]; omega
    · rcases Int.le_total b.lo i.lo with hle | hle
      · exact ⟨j, by simp [h2], by omega⟩
      · exact ⟨i, by simp, by omega⟩
    · rcases Int.le_total b.hi i.hi with hle | hle
      · exact ⟨i, by simp, by omega⟩
      · exact ⟨k, by simp [h4], by omega⟩
theorem SqSpec.fold : ∀ (l pre : List Bd) (o : Option Bd), SqSpec pre o → SqSpec (pre ++ l) (l.foldl sqS o)
  | [], pre, o, h => by simpa using h
  | i :: l, pre, o, h => by
    have := SqSpec.fold l (pre ++ [i]) _ (h.snoc i)
    simpa using this
theorem sqL_spec (l : List Bd) : SqSpec l (sqL l) := SqSpec.fold l [] none rfl
theorem sq_abs_le {a b : Int} (h : -b ≤ a ∧ a ≤ b) : a * a ≤ b * b := by
  rcases Int.le_total 0 a with h0 | h0
  · exact sq_mono h0 h.2
  · have := sq_mono (show 0 ≤ -a by omega) (show -a ≤ b by omega)
    rw [Int.neg_mul_neg] at this; exact this
theorem sqI_in {p q : Pt} {w : Rw} (hx : q.x = w.x) (h1 : w.a ≤ q.y) (h2 : q.y ≤ w.b) : (sqI p w).lo ≤ d2 p q ∧ d2 p q ≤ (sqI p w).hi := by
  unfold sqI d2 nearY
  simp only
  rw [hx]
  have key1 : (max w.a (min p.y w.b) - p.y) * (max w.a (min p.y w.b) - p.y) ≤ (q.y - p.y) * (q.y - p.y) := by
    rcases Int.le_total 0 (max w.a (min p.y w.b) - p.y) with h0 | h0
    · rcases Int.lt_or_le 0 (max w.a (min p.y w.b) - p.y) with h3 | h3
      · exact sq_mono h0 (by omega)
      · have e : max w.a (min p.y w.b) - p.y = 0 := by omega
        rw [e]; exact sq_nn _
    · rcases Int.lt_or_le (max w.a (min p.y w.b) - p.y) 0 with h3 | h3
      · have := sq_mono (show 0 ≤ -(max w.a (min p.y w.b) - p.y) by omega) (show -(max w.a (min p.y w.b) - p.y) ≤ -(q.y - p.y) by omega)
        rw [Int.neg_mul_neg, Int.neg_mul_neg] at this; exact this
      · have e : max w.a (min p.y w.b) - p.y = 0 := by omega
        rw [e]; exact sq_nn _
  have key2 : (q.y - p.y) * (q.y - p.y) ≤ max ((w.a - p.y) * (w.a - p.y)) ((w.b - p.y) * (w.b - p.y)) := by
    rcases Int.le_total 0 (q.y - p.y) with h0 | h0
    · have := sq_mono h0 (show q.y - p.y ≤ w.b - p.y by omega); omega
    · have := sq_mono (show 0 ≤ -(q.y - p.y) by omega) (show -(q.y - p.y) ≤ -(w.a - p.y) by omega)
      rw [Int.neg_mul_neg, Int.neg_mul_neg] at this; omega
  omega
theorem sqP_none {r : Rg} {p : Pt} : sqP r p = none ↔ tightP r = none := by
  have hs := sqL_spec ((rows r).map (sqI p))
  unfold sqP
  constructor
  · intro h
    rw [h] at hs
    refine tight_none.2 fun q hq => ?_
    have h1 := inR_row.1 hq
    have hm : rowOf r q.x ∈ rows r := mem_rows.2 ⟨h1.1, rfl, by omega⟩
    have hs : (rows r).map (sqI p) = [] := hs
    have : rows r = [] := by simpa using hs
    rw [this] at hm; cases hm
  · intro h
    cases e : sqL ((rows r).map (sqI p)) with
    | none => rfl
    | some b =>
      rw [e] at hs
      obtain ⟨_, ⟨i, hi, _⟩, _⟩ := hs
      obtain ⟨w, hw, _⟩ := List.mem_map.1 hi
      obtain ⟨h1, h2, h3⟩ := mem_rows.1 hw
      refine absurd (inR_row.2 ⟨h1, ?_, ?_⟩ : inR r ⟨w.x, w.a⟩) (tight_none.1 h _) <;> (rw [← h2]; simp only; omega)
theorem sqP_in {r : Rg} {p q : Pt} {b : Bd} (h : sqP r p = some b) (hq : inR r q) : b.lo ≤ d2 p q ∧ d2 p q ≤ b.hi := by
  have hs := sqL_spec ((rows r).map (sqI p))
  unfold sqP at h
  rw [h] at hs
  have h1 := inR_row.1 hq
  have hm : rowOf r q.x ∈ rows r := mem_rows.2 ⟨h1.1, rfl, by omega⟩
  have h2 := hs.1 _ (List.mem_map.2 ⟨_, hm, rfl⟩)
  have h3 := sqI_in (p := p) (w := rowOf r q.x) (q := q) rfl h1.2.1 h1.2.2
  omega
theorem sqP_some {r : Rg} {p q : Pt} (h : inR r q) : ∃ b, sqP r p = some b := by
  cases e : sqP r p with
  | none => exact absurd h (tight_none.1 (sqP_none.1 e) q)
  | some b => exact ⟨b, rfl⟩
theorem inR_minus {x y : Rg} {p q : Pt} (hp : inR x p) (hq : inR y q) : inR (x.map2 Bd.minus y) ⟨p.x - q.x, p.y - q.y⟩ := by
  unfold inR Rg.map2 Bd.minus at *; simp only; omega
theorem twoE_of {a b x y : Rg} (ha : a.ok) (hb : b.ok) (hx : tightP a = some x) (hy : tightP b = some y) : twoE a b = (x, y, 0) := by
  unfold twoE; rw [if_pos (chk2_zero.2 ⟨ha, hb⟩), hx, hy]
theorem inR_move {x : Rg} {v p : Pt} : inR (x.map2 Bd.plus (ofP v)) ⟨p.x + v.x, p.y + v.y⟩ ↔ inR x p := by
  unfold inR Rg.map2 Bd.plus ofP; simp only; omega
theorem totR_move {x : Rg} (h : TotR x x) (v : Pt) : TotR (x.map2 Bd.plus (ofP v)) (x.map2 Bd.plus (ofP v)) := by
  have f : ∀ {g : Pt → Int} {a b : Int}, (∃ p, inR x p ∧ g p = a) → (∀ p : Pt, g p = a → g ⟨p.x + v.x, p.y + v.y⟩ = b) → ∃ p, inR (x.map2 Bd.plus (ofP v)) p ∧ g p = b :=
    fun ⟨p, h1, h2⟩ h3 => ⟨_, inR_move.2 h1, h3 p h2⟩
  refine ⟨fun _ h => h, f (g := Pt.x) h.xlo ?_, f (g := Pt.x) h.xhi ?_, f (g := Pt.y) h.ylo ?_, f (g := Pt.y) h.yhi ?_, f (g := fun p => p.x + p.y) h.slo ?_, f (g := fun p => p.x + p.y) h.shi ?_, f (g := fun p => p.x - p.y) h.dlo ?_, f (g := fun p => p.x - p.y) h.dhi ?_⟩
  all_goals (intro p hp; simp only [Rg.map2, Bd.plus, ofP] at *; omega)
theorem totR_tight {t : Rg} (h : TotR t t) : tightP t = some t := by
  obtain ⟨p, hp, _⟩ := h.xlo
  obtain ⟨u, hu⟩ := tight_some hp
  rw [hu, (tight_totR hu).uniq h (fun _ => Iff.rfl)]
theorem far_vec {n x y : Int} (hn : 0 ≤ n) (h : x * x + y * y ≤ n * n) : -farP n ≤ x + y ∧ x + y ≤ farP n := by
  obtain ⟨_, _, b3⟩ := farP_is hn
  have key : ∀ a b : Int, 0 ≤ a → 0 ≤ b → a * a + b * b ≤ n * n → a + b ≤ farP n := by
    intro a b ha hb hab
    rcases Int.lt_or_le (farP n) (a + b) with h1 | h1
    · have := b3 _ h1
      have := half2_least ha hb
      omega
    · exact h1
  have ab : ∀ z : Int, ∃ a, 0 ≤ a ∧ a * a = z * z ∧ z ≤ a ∧ -z ≤ a := fun z => by
    rcases Int.le_total 0 z with h0 | h0
    · exact ⟨z, h0, rfl, Int.le_refl _, by omega⟩
    · exact ⟨-z, by omega, Int.neg_mul_neg z z, by omega, by omega⟩
  obtain ⟨a, a1, a2, a3, a4⟩ := ab x
  obtain ⟨b, b1, b2, b3', b4⟩ := ab y
  have := key a b a1 b1 (by omega)
  omega
theorem inR_wide {x : Rg} {p v : Pt} {n : Int} (hn : 0 ≤ n) (hp : inR x p) (hq : (⟨p.x + v.x, p.y + v.y⟩ : Pt).ok) (h1 : -n ≤ v.x ∧ v.x ≤ n) (h2 : -n ≤ v.y ∧ v.y ≤ n) (h3 : v.x * v.x + v.y * v.y ≤ n * n) : inR (wideR x n (farP n)) ⟨p.x + v.x, p.y + v.y⟩ := by
  have h4 := far_vec hn h3
  have h5 := far_vec (x := v.x) (y := -v.y) hn (by rw [Int.neg_mul_neg]; exact h3)
  unfold inR wideR Bd.wide intoI Pt.ok at *
  simp only at *
  omega
theorem wideB_in {b : Bd} {n l z : Int} (hb : b.fits l) (hn : 0 ≤ n) (hz : b.lo ≤ z ∧ z ≤ b.hi) : (b.wide n l).lo ≤ z ∧ z ≤ (b.wide n l).hi := by
  unfold Bd.fits at hb; unfold Bd.wide intoI at *; simp only at *; omega
theorem wide_in {x : Rg} {n : Int} {p : Pt} (hx : x.ok) (hn : 0 ≤ n) (hp : inR x p) : inR (wideR x n (farP n)) p := by
  have hf := (farP_is hn).1
  obtain ⟨h1, h2, h3, h4⟩ := hp
  obtain ⟨g1, g2, g3, g4⟩ := hx
  exact ⟨wideB_in g1 hn h1, wideB_in g2 hn h2, wideB_in g3 hf h3, wideB_in g4 hf h4⟩
theorem wideB_fits {b c : Bd} {n l : Int} (hl : 0 ≤ l) (h : (b.wide n l).lo ≤ c.lo ∧ c.lo ≤ c.hi ∧ c.hi ≤ (b.wide n l).hi) : c.fits l := by
  unfold Bd.fits; unfold Bd.wide intoI at h; simp only at h; omega
theorem wide_ok {x : Rg} {n : Int} {t : Rg} (ht : tightP (wideR x n (farP n)) = some t) : t.ok := by
  obtain ⟨h1, h2, h3, h4⟩ := tight_sub ht
  exact ⟨wideB_fits (by decide) h1, wideB_fits (by decide) h2, wideB_fits (by decide) h3, wideB_fits (by decide) h4⟩
end Go.Proofs.YtoebpndlbldfcaaGreatDoor
namespace Go.Proofs.YtoebpndlbldfcaaGreatDoor
open Go
structure Wn where
  zone : Int
  speed : Int
  hold : Int
  pre : Int
  delay : Int
  soft : Int
  pause : Int
  deriving DecidableEq
structure Sg where
  st : Int
  nm : ByteArray
  oc : Int
  nr : Int
  fr : Int
structure Sc where
  ship : List Rg
  src : List Rg
  eyes : List Bool
  ears : List Bool
  sg : List Sg
def okW (w : Wn) : Prop := (0 ≤ w.zone ∧ w.zone ≤ 256) ∧ (0 ≤ w.speed ∧ w.speed ≤ 32) ∧ (0 ≤ w.hold ∧ w.hold ≤ 16) ∧ (0 ≤ w.pre ∧ w.pre ≤ 16) ∧ (0 ≤ w.delay ∧ w.delay ≤ 16) ∧ (0 ≤ w.pause ∧ w.pause ≤ 16) ∧ (1 ≤ w.soft ∧ w.soft ≤ 8)
instance (w : Wn) : Decidable (okW w) := by unfold okW; exact inferInstance
def chkW (w : Wn) : Int := if okW w then 0 else 60
def smallR (r : Rg) : Prop := r.ok ∧ r.x.hi - r.x.lo ≤ 256 ∧ r.y.hi - r.y.lo ≤ 256 ∧ (tightP r).isSome = true
instance (r : Rg) : Decidable (smallR r) := by unfold smallR; exact inferInstance
def atB (l : List Bool) (i : Int) : Bool := (l[i.toNat]?).getD false
def okSg (s : Sc) (x : Sg) : Prop := (0 ≤ x.st ∧ x.st < s.ship.length) ∧ nameP x.nm ∧ (0 ≤ x.nr ∧ x.nr ≤ x.fr ∧ x.fr ≤ 256) ∧ ((0 ≤ x.oc ∧ x.oc ≤ 7) ∧ atB s.eyes x.st = true ∨ x.oc = -1 ∧ atB s.ears x.st = true)
def sortedS (l : List Sg) : Prop := ∀ (i : Nat) (x y : Sg), l[i]? = some x → l[i + 1]? = some y → x.st ≤ y.st
def okSc (s : Sc) : Prop := (1 ≤ s.ship.length ∧ s.ship.length ≤ 64) ∧ s.src.length = s.ship.length ∧ s.eyes.length = s.ship.length ∧ s.ears.length = s.ship.length ∧ s.sg.length ≤ 32 ∧
  (∀ r ∈ s.ship, smallR r) ∧ (∀ r ∈ s.src, smallR r) ∧ (∀ x ∈ s.sg, okSg s x) ∧ sortedS s.sg
noncomputable def chkS (s : Sc) : Int := @ite _ (okSc s) (Classical.propDecidable _) 0 61
def halfN (n : Int) : Nat → Int → Int
  | 0, h => h
  | k + 1, h => if 2 * h * h < n * n then halfN n k (h + 1) else h
def halfP (n : Int) : Int := halfN n (n.toNat + 1) 0
def up (b : Bd) (n : Int) : Bd := ⟨max b.lo n, b.hi⟩
def dn (b : Bd) (n : Int) : Bd := ⟨b.lo, min b.hi n⟩
def coneR (r a : Rg) (oc n : Int) : Rg :=
  if oc = 0 then ⟨up r.x (a.x.lo + halfP n), up r.y a.y.lo, up r.s (a.s.lo + n), up r.d a.d.lo⟩
  else if oc = 1 then ⟨up r.x a.x.lo, up r.y (a.y.lo + halfP n), up r.s (a.s.lo + n), dn r.d a.d.hi⟩
  else if oc = 2 then ⟨dn r.x a.x.hi, up r.y (a.y.lo + halfP n), up r.s a.s.lo, dn r.d (a.d.hi - n)⟩
  else if oc = 3 then ⟨dn r.x (a.x.hi - halfP n), up r.y a.y.lo, dn r.s a.s.hi, dn r.d (a.d.hi - n)⟩
  else if oc = 4 then ⟨dn r.x (a.x.hi - halfP n), dn r.y a.y.hi, dn r.s (a.s.hi - n), dn r.d a.d.hi⟩
  else if oc = 5 then ⟨dn r.x a.x.hi, dn r.y (a.y.hi - halfP n), dn r.s (a.s.hi - n), up r.d a.d.lo⟩
  else if oc = 6 then ⟨up r.x a.x.lo, dn r.y (a.y.hi - halfP n), dn r.s a.s.hi, up r.d (a.d.lo + n)⟩
  else if oc = 7 then ⟨up r.x (a.x.lo + halfP n), dn r.y a.y.hi, up r.s a.s.lo, up r.d (a.d.lo + n)⟩
  else r
def reachR (r : Rg) (n : Int) : Rg := (reachE r n).1
def tgR (r : Rg) : Rg := (tightP r).getD zR
def sightP (s : Sc) (x : Sg) : Option Rg :=
  tightP (coneR (reachR (tgR (atR s.ship x.st.toNat)) x.fr) (tgR (atR s.ship x.st.toNat)) x.oc x.nr)
abbrev Kn := Option (Rg × Int)
def seeP (s : Sc) (k : Kn) (x : Sg) : Option Kn :=
  match sightP s x with
  | none => none
  | some r => match k with
    | none => some (some (r, x.st))
    | some (a, _) => match tightP (a.map2 Bd.cut r) with
      | none => none
      | some m => some (some (m, x.st))
def seesP (s : Sc) : Kn → List Sg → Option Kn
  | k, [] => some k
  | k, x :: r => match seeP s k x with
    | none => none
    | some k' => seesP s k' r
def gapW (a b : Rg) : Bd := (gapE a b).1
def farOk (s : Sc) (k : Kn) (x : Sg) : Prop := match k with
  | none => True
  | some (a, _) => x.nr * x.nr ≤ (gapW (atR s.ship x.st.toNat) a).hi
instance (s : Sc) (k : Kn) (x : Sg) : Decidable (farOk s k x) := by unfold farOk; cases k <;> exact inferInstance
def inStep (s : Sc) (nm : ByteArray) (t : Int) : List Sg := s.sg.filter fun x => decide (x.st = t) && decide (x.nm = nm)
def swimP (w : Wn) (k : Kn) : Kn := k.map fun a => (reachR a.1 w.speed, a.2)
def stepT (w : Wn) (s : Sc) (nm : ByteArray) (t : Int) (k : Kn) : Option Kn :=
  match seesP s (swimP w k) (inStep s nm t) with
  | none => none
  | some k' => if ∀ x ∈ inStep s nm t, farOk s k' x then some (k'.filter fun a => decide (t - a.2 ≤ w.hold)) else none
def kst (w : Wn) (s : Sc) (nm : ByteArray) : Nat → Option Kn
  | 0 => some none
  | n + 1 => match kst w s nm n with
    | none => none
    | some k => stepT w s nm n k
def knAt (w : Wn) (s : Sc) (nm : ByteArray) (n : Nat) : Kn := (kst w s nm n).getD none
def okT (w : Wn) (s : Sc) (nm : ByteArray) (n : Nat) : Bool := (kst w s nm n).isSome
theorem kst_none {w : Wn} {s : Sc} {nm : ByteArray} {n : Nat} (h : kst w s nm n = none) : ∀ m, kst w s nm (n + m) = none
  | 0 => h
  | m + 1 => by
    show (match kst w s nm (n + m) with | none => none | some k => stepT w s nm ((n + m : Nat) : Int) k) = none
    rw [kst_none h m]
abbrev Kf := ByteArray → Kn
def seenB (s : Sc) (nm : ByteArray) (t : Int) : Bool := s.sg.any fun x => decide (x.nm = nm) && decide (x.st = t)
def ageK (w : Wn) (s : Sc) (t : Int) (nm : ByteArray) (k : Kn) : Kn := match k with
  | none => none
  | some a => if w.hold < t - a.2 ∧ seenB s nm t = false then none else some (reachR a.1 w.speed, a.2)
def seeF (s : Sc) (t : Int) : Kf → List Sg → Option Kf
  | K, [] => some K
  | K, x :: r => if x.st ≠ t then seeF s t K r else match seeP s (K x.nm) x with
    | none => none
    | some k => seeF s t (fun n => if n = x.nm then k else K n) r
def inL (L : List Sg) (nm : ByteArray) (t : Int) : List Sg := L.filter fun x => decide (x.st = t) && decide (x.nm = nm)
theorem inL_ne {x : Sg} {L : List Sg} {nm : ByteArray} {t : Int} (h : ¬ (x.st = t ∧ x.nm = nm)) : inL (x :: L) nm t = inL L nm t := by
  unfold inL; rw [List.filter_cons, if_neg (by simpa using h)]
theorem inL_eq {x : Sg} {L : List Sg} {nm : ByteArray} {t : Int} (h : x.st = t ∧ x.nm = nm) : inL (x :: L) nm t = x :: inL L nm t := by
  unfold inL; rw [List.filter_cons, if_pos (by simpa using h)]
theorem seeF_some {s : Sc} {t : Int} : ∀ {L : List Sg} {K K' : Kf}, seeF s t K L = some K' → ∀ nm, seesP s (K nm) (inL L nm t) = some (K' nm)
  | [], K, K', h, nm => by simp only [seeF, Option.some.injEq] at h; subst h; rfl
  | x :: r, K, K', h, nm => by
    simp only [seeF] at h
    by_cases hx : x.st ≠ t
    · rw [if_pos hx] at h
      rw [inL_ne (fun hh => hx hh.1)]
      exact seeF_some h nm
    · rw [if_neg hx] at h
      have hx := Classical.not_not.1 hx
      cases hs : seeP s (K x.nm) x with
      | none => rw [hs] at h; cases h
      | some k =>
        rw [hs] at h
        have ih := seeF_some h nm
        by_cases hn : x.nm = nm
        · subst hn
          rw [inL_eq ⟨hx, rfl⟩]
          simp only [seesP, hs]
          simpa using ih
        · rw [inL_ne (fun hh => hn hh.2)]
          rwa [if_neg (fun e => hn e.symm)] at ih
theorem seeF_none {s : Sc} {t : Int} : ∀ {L : List Sg} {K : Kf}, seeF s t K L = none → ∃ x ∈ L, x.st = t ∧ seesP s (K x.nm) (inL L x.nm t) = none
  | [], K, h => by simp [seeF] at h
  | x :: r, K, h => by
    simp only [seeF] at h
    by_cases hx : x.st ≠ t
    · rw [if_pos hx] at h
      obtain ⟨y, h1, h2, h3⟩ := seeF_none h
      exact ⟨y, List.mem_cons_of_mem _ h1, h2, by rw [inL_ne (fun hh => hx hh.1)]; exact h3⟩
    · rw [if_neg hx] at h
      have hx := Classical.not_not.1 hx
      cases hs : seeP s (K x.nm) x with
      | none =>
        refine ⟨x, by simp, hx, ?_⟩
        rw [inL_eq ⟨hx, rfl⟩]
        simp only [seesP, hs]
      | some k =>
        rw [hs] at h
        obtain ⟨y, h1, h2, h3⟩ := seeF_none h
        refine ⟨y, List.mem_cons_of_mem _ h1, h2, ?_⟩
        by_cases hn : x.nm = y.nm
        · rw [inL_eq ⟨hx, hn⟩]
          simp only [seesP]
          rw [← hn, hs]
          simpa [hn] using h3
        · rw [inL_ne (fun hh => hn hh.2)]
          rwa [if_neg (fun e => hn e.symm)] at h3
def farF (s : Sc) (t : Int) (K : Kf) : Prop := ∀ x ∈ s.sg, x.st = t → farOk s (K x.nm) x
instance (s : Sc) (t : Int) (K : Kf) : Decidable (farF s t K) := by unfold farF; exact inferInstance
def ageF (w : Wn) (s : Sc) (t : Int) (K : Kf) : Kf := fun nm => ageK w s t nm (K nm)
def stepF (w : Wn) (s : Sc) (t : Int) (K : Kf) : Option Kf := match seeF s t (ageF w s t K) s.sg with
  | none => none
  | some K' => if farF s t K' then some K' else none
theorem inStep_inL (s : Sc) (nm : ByteArray) (t : Int) : inStep s nm t = inL s.sg nm t := rfl
theorem seenB_f {s : Sc} {nm : ByteArray} {t : Int} : seenB s nm t = false ↔ inStep s nm t = [] := by
  unfold seenB inStep
  rw [List.any_eq_false, List.filter_eq_nil_iff]
  constructor
  · intro h x hx; have := h x hx; simp only [Bool.and_eq_true, decide_eq_true_eq, not_and] at this ⊢; exact fun h1 h2 => this h2 h1
  · intro h x hx; have := h x hx; simp only [Bool.and_eq_true, decide_eq_true_eq, not_and] at this ⊢; exact fun h1 h2 => this h2 h1
theorem seesP_last {s : Sc} {t : Int} : ∀ {L : List Sg} {k k' : Kn}, L ≠ [] → (∀ x ∈ L, x.st = t) → seesP s k L = some k' → ∃ r, k' = some (r, t)
  | [], _, _, h, _, _ => absurd rfl h
  | x :: r, k, k', _, ht, h => by
    simp only [seesP] at h
    have hx := ht x (by simp)
    cases hs : seeP s k x with
    | none => rw [hs] at h; cases h
    | some k2 =>
      rw [hs] at h
      have h2 : ∃ r, k2 = some (r, t) := by
        unfold seeP at hs
        split at hs
        · cases hs
        · split at hs
          · cases hs; exact ⟨_, by rw [hx]⟩
          · split at hs
            · cases hs
            · cases hs; exact ⟨_, by rw [hx]⟩
      cases r with
      | nil => simp only [seesP, Option.some.injEq] at h; subst h; exact h2
      | cons y r => exact seesP_last (by simp) (fun z hz => ht z (by simp [hz])) h
theorem mem_inL {L : List Sg} {x : Sg} {nm : ByteArray} {t : Int} : x ∈ inL L nm t ↔ x ∈ L ∧ x.st = t ∧ x.nm = nm := by unfold inL; simp [List.mem_filter]
theorem stepT_unseen {w : Wn} {s : Sc} {nm : ByteArray} {t : Int} {k : Kn} (h : inStep s nm t = []) : stepT w s nm t k = some (ageK w s t nm k) := by
  unfold stepT
  rw [h]
  simp only [seesP, List.not_mem_nil, false_implies, implies_true, if_true]
  congr 1
  cases k with
  | none => rfl
  | some a =>
    show Option.filter (fun b => decide (t - b.2 ≤ w.hold)) (some (reachR a.1 w.speed, a.2)) = if w.hold < t - a.2 ∧ seenB s nm t = false then none else some (reachR a.1 w.speed, a.2)
    have e := seenB_f.2 h
    by_cases hh : t - a.2 ≤ w.hold
    · rw [if_neg (fun hx => by omega)]; simp [Option.filter, hh]
    · rw [if_pos ⟨by omega, e⟩]; simp [Option.filter, hh]
theorem ageK_seen {w : Wn} {s : Sc} {nm : ByteArray} {t : Int} {k : Kn} (h : inStep s nm t ≠ []) : ageK w s t nm k = swimP w k := by
  have : seenB s nm t ≠ false := fun e => h (seenB_f.1 e)
  cases k with
  | none => rfl
  | some a =>
    show (if w.hold < t - a.2 ∧ seenB s nm t = false then none else some (reachR a.1 w.speed, a.2)) = some (reachR a.1 w.speed, a.2)
    rw [if_neg (fun hh => this hh.2)]
theorem stepF_some {w : Wn} {s : Sc} {t : Int} {K K' : Kf} (hw : 0 ≤ w.hold) (h : stepF w s t K = some K') (nm : ByteArray) : stepT w s nm t (K nm) = some (K' nm) := by
  unfold stepF at h
  cases hs : seeF s t (ageF w s t K) s.sg with
  | none => rw [hs] at h; cases h
  | some K2 =>
    rw [hs] at h
    simp only at h
    split at h
    · rename_i hf
      cases h
      have h1 := seeF_some hs nm
      rw [← inStep_inL] at h1
      by_cases he : inStep s nm t = []
      · rw [stepT_unseen he]
        rw [he] at h1
        simpa [seesP, ageF] using h1
      · unfold stepT
        rw [show ageF w s t K nm = swimP w (K nm) from ageK_seen he] at h1
        rw [h1]
        simp only
        obtain ⟨r, hr⟩ := seesP_last he (fun x hx => (mem_inL.1 hx).2.1) h1
        rw [if_pos (fun x hx => by
          have hx := mem_inL.1 hx
          have := hf x hx.1 hx.2.1
          rwa [hx.2.2] at this)]
        rw [hr]
        simp [Option.filter, hw]
    · cases h
theorem stepF_none {w : Wn} {s : Sc} {t : Int} {K : Kf} (h : stepF w s t K = none) : ∃ x ∈ s.sg, stepT w s x.nm t (K x.nm) = none := by
  unfold stepF at h
  cases hs : seeF s t (ageF w s t K) s.sg with
  | none =>
    obtain ⟨x, h1, h2, h3⟩ := seeF_none hs
    refine ⟨x, h1, ?_⟩
    unfold stepT
    have he : inStep s x.nm t ≠ [] := List.ne_nil_of_mem (mem_inL.2 ⟨h1, h2, rfl⟩)
    rw [show ageF w s t K x.nm = swimP w (K x.nm) from ageK_seen he] at h3
    rw [inStep_inL, h3]
  | some K2 =>
    rw [hs] at h
    simp only at h
    split at h
    · cases h
    · rename_i hf
      simp only [farF, Classical.not_forall] at hf
      obtain ⟨x, h1, h2, h3⟩ := hf
      refine ⟨x, h1, ?_⟩
      have he : inStep s x.nm t ≠ [] := List.ne_nil_of_mem (mem_inL.2 ⟨h1, h2, rfl⟩)
      have h4 := seeF_some hs x.nm
      rw [show ageF w s t K x.nm = swimP w (K x.nm) from ageK_seen he, ← inStep_inL] at h4
      unfold stepT
      rw [h4]
      simp only
      rw [if_neg]
      intro hall
      exact h3 (hall x (mem_inL.2 ⟨h1, h2, rfl⟩))
def Kst (w : Wn) (s : Sc) : Nat → Option Kf
  | 0 => some fun _ => none
  | n + 1 => match Kst w s n with
    | none => none
    | some K => stepF w s n K
theorem Kst_some {w : Wn} {s : Sc} (hw : 0 ≤ w.hold) : ∀ {n : Nat} {K : Kf}, Kst w s n = some K → ∀ nm, kst w s nm n = some (K nm)
  | 0, K, h, nm => by simp only [Kst, Option.some.injEq] at h; subst h; rfl
  | n + 1, K, h, nm => by
    simp only [Kst] at h
    cases hk : Kst w s n with
    | none => rw [hk] at h; cases h
    | some K0 =>
      rw [hk] at h
      simp only [kst, Kst_some hw hk nm]
      exact stepF_some hw h nm
theorem Kst_none {w : Wn} {s : Sc} (hw : 0 ≤ w.hold) : ∀ {n : Nat}, Kst w s n = none → ∃ x ∈ s.sg, kst w s x.nm n = none
  | 0, h => by simp [Kst] at h
  | n + 1, h => by
    simp only [Kst] at h
    cases hk : Kst w s n with
    | none =>
      obtain ⟨x, h1, h2⟩ := Kst_none hw hk
      exact ⟨x, h1, kst_none h2 1⟩
    | some K0 =>
      rw [hk] at h
      obtain ⟨x, h1, h2⟩ := stepF_none h
      refine ⟨x, h1, ?_⟩
      simp only [kst, Kst_some hw hk x.nm]
      exact h2
def okAll (w : Wn) (s : Sc) (n : Nat) : Bool := s.sg.all fun x => okT w s x.nm n
theorem okAll_iff {w : Wn} {s : Sc} (hw : 0 ≤ w.hold) {n : Nat} : okAll w s n = true ↔ (Kst w s n).isSome = true := by
  unfold okAll okT
  rw [List.all_eq_true]
  cases hk : Kst w s n with
  | some K => simp only [Option.isSome_some, iff_true]; exact fun x _ => by rw [Kst_some hw hk]; rfl
  | none =>
    obtain ⟨x, h1, h2⟩ := Kst_none hw hk
    simp only [Option.isSome_none, Bool.false_eq_true, iff_false]
    intro h; have := h x h1; rw [h2] at this; cases this
end Go.Proofs.YtoebpndlbldfcaaGreatDoor
namespace Go.Proofs.YtoebpndlbldfcaaGreatDoor
open Go
def riskAt (w : Wn) (s : Sc) (t : Nat) (k : Kn) : Bool := match k with
  | none => false
  | some (a, _) => decide ((gapW a (atR s.src t)).lo ≤ w.zone * w.zone)
def riskL (w : Wn) (s : Sc) : List Bool := (List.range s.ship.length).map fun t => s.sg.any fun x => riskAt w s t (knAt w s x.nm (t + 1))
def riskP (w : Wn) (s : Sc) : Option (List Bool) := if okAll w s s.ship.length = true then some (riskL w s) else none
structure Lg where
  w : Wn
  s : Sc
  d : List Bool
def bAt (l : List Bool) (t : Int) : Bool := (l[t.toNat]?).getD false
def allTr (l : List Bool) (a b : Int) : Bool := (List.range (b - a).toNat).all fun j => bAt l (a + j)
def anyTr (l : List Bool) (a b : Int) : Bool := (List.range (b - a).toNat).any fun j => bAt l (a + j)
def startP (g : Lg) (t : Int) : Bool :=
  decide (g.w.pre ≤ t) && (allTr g.s.eyes (t - g.w.pre) t || allTr g.s.ears (t - g.w.pre) t) && !anyTr g.d (max 0 (t - g.w.delay)) (t + 1)
def lookB (g : Lg) (t : Int) : Bool := bAt g.s.eyes t || bAt g.s.ears t
structure Sta where
  md : Int
  qu : Int
  deriving DecidableEq
def sta0 : Sta := ⟨0, -1⟩
def brokenP (g : Lg) (t : Int) (x : Sta) (m : Int) : Int :=
  if m = 0 then 0
  else if bAt g.d t = true then 1
  else if lookB g t = false then 2
  else if m = 1 ∧ startP g t = false then 3
  else if m = 1 ∧ x.md ≠ 0 ∨ (1 < m ∧ m ≤ g.w.soft ∧ x.md ≠ m - 1) then 4
  else if m = g.w.soft + 1 ∧ x.md < g.w.soft ∧ x.qu < 0 then 4
  else 0
def quietP (g : Lg) (x : Sta) : Int :=
  let q := if x.md = g.w.soft + 1 then 1 else if 0 < x.qu then x.qu + 1 else -1
  if g.w.pause < q then -1 else q
def afterP (g : Lg) (t : Int) (x : Sta) (m : Int) : Sta :=
  if m ≠ 0 ∨ bAt g.d t = true ∨ lookB g t = false then ⟨m, -1⟩ else ⟨m, quietP g x⟩
def modesL (w : Wn) : List Int := (List.range (w.soft.toNat + 2)).map fun (j : Nat) => (j : Int)
def mostF (g : Lg) : Nat → Int → Sta → Int
  | 0, _, _ => 0
  | n + 1, t, x => (modesL g.w).foldl (fun a m => max a (if brokenP g t x m ≠ 0 then -1 else mostF g n (t + 1) (afterP g t x m) + (if m = g.w.soft + 1 then 1 else 0))) 0
def gainF (g : Lg) (n : Nat) (t : Int) (x : Sta) (m : Int) : Int :=
  if brokenP g t x m ≠ 0 then -1 else mostF g n (t + 1) (afterP g t x m) + (if m = g.w.soft + 1 then 1 else 0)
theorem mostF_succ (g : Lg) (n : Nat) (t : Int) (x : Sta) : mostF g (n + 1) t x = (modesL g.w).foldl (fun a m => max a (gainF g n t x m)) 0 := rfl
def bestF (g : Lg) : Nat → Int → Sta → List Int
  | 0, _, _ => []
  | n + 1, t, x =>
    let m := ((modesL g.w).find? fun m => decide (gainF g n t x m = mostF g (n + 1) t x)).getD 0
    m :: bestF g n (t + 1) (afterP g t x m)
def guardN (w : Wn) (far ship : Int) : Nat → Int → Int
  | 0, k => k
  | n + 1, k => if w.zone < far - (k + 1) * (w.speed + ship) then guardN w far ship n (k + 1) else k
def guardE (w : Wn) (far ship : Int) : Int × Int :=
  if okW w then (if (0 ≤ far ∧ far ≤ 32768) ∧ (0 ≤ ship ∧ ship ≤ 1000) then (if far ≤ w.zone then (0, 4) else (guardN w far ship 1000 0, 0)) else (0, 7)) else (0, 60)
end Go.Proofs.YtoebpndlbldfcaaGreatDoor
namespace Go.Proofs.YtoebpndlbldfcaaGreatDoor
theorem optE_ok {h : Option Rg} {t : Rg} (e : h = some t) : optE h = (t, 0) := by subst e; rfl
structure ShiftOk (r : Rg) (v : Pt) (t m : Rg) : Prop where
  rok : r.ok
  vok : v.okV
  tt : tightP r = some t
  me : m = t.map2 Bd.plus (ofP v)
  fx : m.x.fits 32768
  fy : m.y.fits 32768
theorem gap_of {a b x y : Rg} (ha : a.ok) (hb : b.ok) (hx : tightP a = some x) (hy : tightP b = some y) {p q : Pt} (hp : inR x p) (hq : inR y q) :
    ∃ g, gapE a b = (g, 0) ∧ g.lo ≤ d2 zP ⟨p.x - q.x, p.y - q.y⟩ ∧ d2 zP ⟨p.x - q.x, p.y - q.y⟩ ≤ g.hi ∧ (∀ z, inR x z → g.lo ≤ d2 zP ⟨z.x - q.x, z.y - q.y⟩ ∧ d2 zP ⟨z.x - q.x, z.y - q.y⟩ ≤ g.hi) := by
  have hm := inR_minus hp hq
  obtain ⟨g, hg⟩ := sqP_some (p := zP) hm
  refine ⟨g, by unfold gapE; rw [twoE_of ha hb hx hy, if_pos rfl]; simp only; rw [hg]; rfl, (sqP_in hg hm).1, (sqP_in hg hm).2, fun z hz => sqP_in hg (inR_minus hz hq)⟩
theorem d2_swap (p q : Pt) : d2 zP ⟨p.x - q.x, p.y - q.y⟩ = d2 q p := by
  unfold d2 zP; simp only
  rw [show p.x - q.x - 0 = p.x - q.x by omega, show p.y - q.y - 0 = p.y - q.y by omega]
theorem tight_cases (r : Rg) : (∃ t, r.ok ∧ tightP r = some t ∧ tightE r = (t, 0)) ∨ ∃ e, e ≠ 0 ∧ tightE r = (zR, e) := by
  by_cases h1 : r.ok
  · cases h3 : tightP r with
    | none => exact .inr ⟨4, by decide, by unfold tightE; rw [if_pos h1, h3]; rfl⟩
    | some t => exact .inl ⟨t, h1, rfl, by unfold tightE; rw [if_pos h1, h3]; rfl⟩
  · exact .inr ⟨11, by decide, if_neg h1⟩
def PkSpec (le : Vd → Vd → Prop) (l : List Vd) : Option Vd → Prop
  | none => l = []
  | some b => b ∈ l ∧ ∀ y ∈ l, le b y
theorem PkSpec.snoc {le : Vd → Vd → Prop} {better : Vd → Vd → Bool} (h1 : ∀ a b, better a b = true → le a b) (h2 : ∀ a b, better a b = false → le b a) (ht : ∀ a b c, le a b → le b c → le a c) (hr : ∀ a, le a a) {l : List Vd} {o : Option Vd} (h : PkSpec le l o) (x : Vd) : PkSpec le (l ++ [x]) (bestS better o x) := by
  cases o with
  | none =>
    have h : l = [] := h
    subst h
    refine ⟨by simp [bestS], fun y hy => ?_⟩
    have hy : y = x := by simpa using hy
    subst hy; exact hr y
  | some b =>
    obtain ⟨hb, hle⟩ := h
    unfold bestS
    simp only
    cases hx : better x b with
    | true =>
      rw [if_pos rfl]
      refine ⟨by simp, fun y hy => ?_⟩
      rcases List.mem_append.1 hy with hy | hy
      · exact ht _ _ _ (h1 _ _ hx) (hle y hy)
      · rw [List.mem_singleton.1 hy]; exact hr x
    | false =>
      rw [if_neg (by decide)]
      refine ⟨by simp [hb], fun y hy => ?_⟩
      rcases List.mem_append.1 hy with hy | hy
      · exact hle y hy
      · rw [List.mem_singleton.1 hy]; exact h2 _ _ hx
theorem PkSpec.fold {le : Vd → Vd → Prop} {better : Vd → Vd → Bool} (h1 : ∀ a b, better a b = true → le a b) (h2 : ∀ a b, better a b = false → le b a) (ht : ∀ a b c, le a b → le b c → le a c) (hr : ∀ a, le a a) : ∀ (l pre : List Vd) (o : Option Vd), PkSpec le pre o → PkSpec le (pre ++ l) (l.foldl (bestS better) o)
  | [], pre, o, h => by simpa using h
  | x :: l, pre, o, h => by
    have := PkSpec.fold h1 h2 ht hr l (pre ++ [x]) _ (h.snoc h1 h2 ht hr x)
    simpa using this
theorem Incr.erase {n : Nat} : ∀ (js : List Nat) (a i : Nat), Incr n a js → Incr n a (js.eraseIdx i)
  | [], _, _, h => by simpa using h
  | j :: js, a, 0, h => by simp only [List.eraseIdx_cons_zero]; exact Incr.mono (by have := h.1.1; omega) h.2
  | j :: js, a, i + 1, h => by simp only [List.eraseIdx_cons_succ]; exact ⟨h.1, Incr.erase js (j + 1) i h.2⟩
end Go.Proofs.YtoebpndlbldfcaaGreatDoor
namespace Go.Proofs.YtoebpndlbldfcaaGreatDoor
open Go
theorem abs_of_sq {v n : Int} (hn : 0 ≤ n) (h : v * v ≤ n * n) : -n ≤ v ∧ v ≤ n := by
  constructor
  · rcases Int.lt_or_le v (-n) with h1 | h1
    · have h2 := sq_lt hn (show n < -v by omega)
      rw [Int.neg_mul_neg] at h2; omega
    · exact h1
  · rcases Int.lt_or_le n v with h1 | h1
    · have := sq_lt hn h1; omega
    · exact h1
theorem abs_le_of_sum {x y n : Int} (hn : 0 ≤ n) (h : x * x + y * y ≤ n * n) : (-n ≤ x ∧ x ≤ n) ∧ (-n ≤ y ∧ y ≤ n) :=
  ⟨abs_of_sq hn (by have := sq_nn y; omega), abs_of_sq hn (by have := sq_nn x; omega)⟩
structure Tgt1 (r : Rg) : Prop where
  ok : r.ok
  tg : tightP r = some r
theorem Tgt1.of {r t : Rg} (h : tightP r = some t) (hr : r.ok) : Tgt1 t := ⟨tight_ok h hr, tight_idem h⟩
theorem Tgt1.ne {r : Rg} (h : Tgt1 r) : ∃ p, inR r p := tight_ne h.tg
theorem reach_good {r : Rg} {n : Int} (h : Tgt1 r) (hn : 0 ≤ n ∧ n ≤ 32768) : ∃ w, tightP (wideR r n (farP n)) = some w ∧ reachE r n = (w, 0) ∧ reachR r n = w ∧ Tgt1 w := by
  obtain ⟨p, hp⟩ := h.ne
  obtain ⟨w, hw⟩ := tight_some (wide_in h.ok hn.1 hp)
  have he : reachE r n = (w, 0) := by unfold reachE; rw [if_pos h.ok, if_pos hn, h.tg]; simp only; exact optE_ok hw
  exact ⟨w, hw, he, by unfold reachR; rw [he], wide_ok hw, tight_idem hw⟩
theorem reach_tgt {r : Rg} {n : Int} (h : Tgt1 r) (hn : 0 ≤ n ∧ n ≤ 32768) : Tgt1 (reachR r n) := by
  obtain ⟨w, _, _, h3, h4⟩ := reach_good h hn
  rw [h3]; exact h4
theorem reach_in {r : Rg} {n : Int} (h : Tgt1 r) (hn : 0 ≤ n ∧ n ≤ 32768) {p q : Pt} (hp : inR r p) (hq : q.ok) (hd : d2 p q ≤ n * n) : inR (reachR r n) q := by
  obtain ⟨w, h1, _, h3, h4⟩ := reach_good h hn
  rw [h3, tight_in h1]
  unfold d2 at hd
  obtain ⟨b1, b2⟩ := abs_le_of_sum hn.1 hd
  have e : q = ⟨p.x + (q.x - p.x), p.y + (q.y - p.y)⟩ := by
    obtain ⟨qx, qy⟩ := q
    simp only [Pt.mk.injEq]; omega
  rw [e] at hq ⊢
  exact inR_wide (v := ⟨q.x - p.x, q.y - p.y⟩) hn.1 hp hq b1 b2 hd
theorem halfN_spec {n : Int} (hn : 0 ≤ n) : ∀ (k : Nat) (h : Int), 0 ≤ h → (∀ j, 0 ≤ j → j < h → 2 * j * j < n * n) → n ≤ h + k → h ≤ halfN n k h ∧ n * n ≤ 2 * halfN n k h * halfN n k h ∧ ∀ j, 0 ≤ j → j < halfN n k h → 2 * j * j < n * n
  | 0, h, h0, hlt, hk => by
    simp only [halfN]
    refine ⟨Int.le_refl _, ?_, hlt⟩
    have h1 := sq_mono hn (show n ≤ h by omega)
    have h2 := sq_nn h
    rw [Int.mul_assoc]; omega
  | k + 1, h, h0, hlt, hk => by
    simp only [halfN]
    split
    · rename_i hb
      obtain ⟨g1, g2, g3⟩ := halfN_spec hn k (h + 1) (by omega) (fun j hj hj2 => by
        by_cases e : j = h
        · subst e; exact hb
        · exact hlt j hj (by omega)) (by omega)
      exact ⟨by omega, g2, g3⟩
    · rename_i hb
      exact ⟨Int.le_refl _, by omega, hlt⟩
theorem halfP_spec {n : Int} (hn : 0 ≤ n) : 0 ≤ halfP n ∧ n * n ≤ 2 * halfP n * halfP n ∧ ∀ j, 0 ≤ j → j < halfP n → 2 * j * j < n * n := by
  have := halfN_spec hn (n.toNat + 1) 0 (Int.le_refl _) (fun j h1 h2 => by omega) (by omega)
  exact this
theorem halfP_eq {n h : Int} (hn : 0 ≤ n) (h0 : 0 ≤ h) (h1 : n * n ≤ 2 * h * h) (h2 : ∀ j, 0 ≤ j → j < h → 2 * j * j < n * n) : halfP n = h := by
  obtain ⟨g0, g1, g2⟩ := halfP_spec hn
  rcases Int.lt_trichotomy (halfP n) h with h3 | h3 | h3
  · have := h2 _ g0 h3; omega
  · exact h3
  · have := g2 _ h0 h3; omega
theorem half_le {n x y : Int} (hn : 0 ≤ n) (hx : 0 ≤ x) (hy : -x ≤ y ∧ y ≤ x) (h : n * n ≤ x * x + y * y) : halfP n ≤ x := by
  obtain ⟨g0, g1, g2⟩ := halfP_spec hn
  rcases Int.lt_or_le x (halfP n) with h1 | h1
  · have h2 := g2 x hx h1
    have h3 := sq_abs_le hy
    rw [Int.mul_assoc] at h2; omega
  · exact h1
theorem sum_le {n x y : Int} (hn : 0 ≤ n) (hx : 0 ≤ x) (hy : 0 ≤ y) (h : n * n ≤ x * x + y * y) : n ≤ x + y := by
  rcases Int.lt_or_le (x + y) n with h1 | h1
  · have h2 := sq_lt (show 0 ≤ x + y by omega) h1
    have h3 := Int.mul_nonneg hx hy
    have e : (x + y) * (x + y) = x * x + y * y + 2 * (x * y) := by rw [Int.add_mul, Int.mul_add, Int.mul_add, Int.mul_comm y x]; omega
    omega
  · exact h1
def octT (oc x y : Int) : Prop :=
  (oc = 0 ∧ 0 ≤ y ∧ y ≤ x) ∨ (oc = 1 ∧ 0 ≤ x ∧ x ≤ y) ∨ (oc = 2 ∧ x ≤ 0 ∧ 0 ≤ x + y) ∨ (oc = 3 ∧ 0 ≤ y ∧ x + y ≤ 0) ∨ (oc = 4 ∧ y ≤ 0 ∧ x ≤ y) ∨ (oc = 5 ∧ x ≤ 0 ∧ y ≤ x) ∨ (oc = 6 ∧ 0 ≤ x ∧ x + y ≤ 0) ∨ (oc = 7 ∧ y ≤ 0 ∧ 0 ≤ x + y)
theorem cone_in {r a : Rg} {oc n : Int} {o q : Pt} (hn : 0 ≤ n) (ho : inR a o) (hq : inR r q) (hd : n * n ≤ d2 o q) (hoc : octT oc (q.x - o.x) (q.y - o.y) ∨ oc = -1) : inR (coneR r a oc n) q := by
  unfold d2 at hd
  rcases hoc with hoc | rfl
  · generalize hx : q.x - o.x = x at hd hoc
    generalize hy : q.y - o.y = y at hd hoc
    have nxx : (-x) * (-x) = x * x := Int.neg_mul_neg x x
    have nyy : (-y) * (-y) = y * y := Int.neg_mul_neg y y
    unfold inR at ho hq
    rcases hoc with ⟨rfl, h1, h2⟩ | ⟨rfl, h1, h2⟩ | ⟨rfl, h1, h2⟩ | ⟨rfl, h1, h2⟩ | ⟨rfl, h1, h2⟩ | ⟨rfl, h1, h2⟩ | ⟨rfl, h1, h2⟩ | ⟨rfl, h1, h2⟩
    · have g1 := half_le hn (x := x) (y := y) (by omega) (by omega) (by omega)
      have g2 := sum_le hn (x := x) (y := y) (by omega) (by omega) (by omega)
      simp only [coneR, if_true, inR, up]; omega
    · have g1 := half_le hn (x := y) (y := x) (by omega) (by omega) (by omega)
      have g2 := sum_le hn (x := x) (y := y) (by omega) (by omega) (by omega)
      simp [coneR, inR, up, dn]; omega
    · have g1 := half_le hn (x := y) (y := x) (by omega) (by omega) (by omega)
      have g2 := sum_le hn (x := -x) (y := y) (by omega) (by omega) (by omega)
      simp [coneR, inR, up, dn]; omega
    · have g1 := half_le hn (x := -x) (y := y) (by omega) (by omega) (by omega)
      have g2 := sum_le hn (x := -x) (y := y) (by omega) (by omega) (by omega)
      simp [coneR, inR, up, dn]; omega
    · have g1 := half_le hn (x := -x) (y := y) (by omega) (by omega) (by omega)
      have g2 := sum_le hn (x := -x) (y := -y) (by omega) (by omega) (by omega)
      simp [coneR, inR, up, dn]; omega
    · have g1 := half_le hn (x := -y) (y := x) (by omega) (by omega) (by omega)
      have g2 := sum_le hn (x := -x) (y := -y) (by omega) (by omega) (by omega)
      simp [coneR, inR, up, dn]; omega
    · have g1 := half_le hn (x := -y) (y := x) (by omega) (by omega) (by omega)
      have g2 := sum_le hn (x := x) (y := -y) (by omega) (by omega) (by omega)
      simp [coneR, inR, up, dn]; omega
    · have g1 := half_le hn (x := x) (y := y) (by omega) (by omega) (by omega)
      have g2 := sum_le hn (x := x) (y := -y) (by omega) (by omega) (by omega)
      simp [coneR, inR, up, dn]; omega
  · have e : coneR r a (-1) n = r := by unfold coneR; simp
    rw [e]; exact hq
def trueS (x : Sg) (o q : Pt) : Prop := (0 ≤ x.nr ∧ x.nr * x.nr ≤ d2 o q) ∧ (0 ≤ x.fr ∧ x.fr ≤ 256 ∧ d2 o q ≤ x.fr * x.fr) ∧ (octT x.oc (q.x - o.x) (q.y - o.y) ∨ x.oc = -1)
theorem tgR_tgt {r : Rg} (h : r.ok) {o : Pt} (ho : inR r o) : Tgt1 (tgR r) ∧ inR (tgR r) o := by
  obtain ⟨t, ht⟩ := tight_some ho
  unfold tgR
  rw [ht]
  exact ⟨Tgt1.of ht h, (tight_in ht o).2 ho⟩
theorem coneB {r a : Rg} {oc n : Int} {p : Pt} (h : inR (coneR r a oc n) p) : inR r p := by
  unfold coneR at h
  repeat' split at h
  all_goals (simp only [inR, up, dn] at *; omega)
theorem sight_in {s : Sc} {x : Sg} {o q : Pt} (hr : (atR s.ship x.st.toNat).ok) (ho : inR (atR s.ship x.st.toNat) o) (hq : q.ok) (h : trueS x o q) : ∃ r, sightP s x = some r ∧ inR r q := by
  obtain ⟨⟨h1, h2⟩, ⟨h3, h4, h5⟩, h6⟩ := h
  obtain ⟨ht, ho'⟩ := tgR_tgt hr ho
  have hin := reach_in ht (by omega) ho' hq h5
  have hc := cone_in h1 ho' hin h2 h6
  obtain ⟨r, hr⟩ := tight_some hc
  exact ⟨r, hr, (tight_in hr q).2 hc⟩
theorem sub_bd {r t : Rg} (h : tightP r = some t) (hall : ∀ p, inR r p → p.ok) : t.ok := by
  have ht := tight_totR h
  obtain ⟨⟨p1, a1, a2⟩, ⟨p2, b1, b2⟩, ⟨p3, c1, c2⟩, ⟨p4, d1, d2⟩, ⟨p5, e1, e2⟩, ⟨p6, f1, f2⟩, ⟨p7, g1, g2⟩, ⟨p8, i1, i2⟩⟩ := And.intro ht.xlo (And.intro ht.xhi (And.intro ht.ylo (And.intro ht.yhi (And.intro ht.slo (And.intro ht.shi (And.intro ht.dlo ht.dhi))))))
  have k1 := hall _ a1
  have k2 := hall _ b1
  have k3 := hall _ c1
  have k4 := hall _ d1
  have k5 := hall _ e1
  have k6 := hall _ f1
  have k7 := hall _ g1
  have k8 := hall _ i1
  have hs := tight_sub h
  unfold Pt.ok at *
  unfold Rg.ok Bd.fits
  omega
theorem sight_tgt {s : Sc} {x : Sg} {r : Rg} (hr : smallR (atR s.ship x.st.toNat)) (hf : 0 ≤ x.fr ∧ x.fr ≤ 256) (h : sightP s x = some r) : Tgt1 r := by
  obtain ⟨h1, _, _, h4⟩ := hr
  obtain ⟨t, ht⟩ := Option.isSome_iff_exists.1 h4
  have htg : Tgt1 (tgR (atR s.ship x.st.toNat)) := by unfold tgR; rw [ht]; exact Tgt1.of ht h1
  have hrc := reach_tgt htg (show 0 ≤ x.fr ∧ x.fr ≤ 32768 by omega)
  exact ⟨sub_bd h fun p hp => ok_inR hrc.ok (coneB hp), tight_idem h⟩
def tgtK (k : Kn) : Prop := ∀ a, k = some a → Tgt1 a.1
def okShips (s : Sc) : Prop := ∀ x ∈ s.sg, smallR (atR s.ship x.st.toNat) ∧ 0 ≤ x.fr ∧ x.fr ≤ 256
theorem swim_tgt {w : Wn} {k : Kn} (hw : 0 ≤ w.speed ∧ w.speed ≤ 32) (h : tgtK k) : tgtK (swimP w k) := by
  intro a ha
  unfold swimP at ha
  cases k with
  | none => cases ha
  | some b => cases ha; exact reach_tgt (h b rfl) (by omega)
theorem see_tgt {s : Sc} {k k' : Kn} {x : Sg} (hx : smallR (atR s.ship x.st.toNat) ∧ 0 ≤ x.fr ∧ x.fr ≤ 256) (h : tgtK k) (hs : seeP s k x = some k') : tgtK k' := by
  unfold seeP at hs
  cases hr : sightP s x with
  | none => rw [hr] at hs; cases hs
  | some r =>
    rw [hr] at hs
    have ht := sight_tgt hx.1 hx.2 hr
    cases k with
    | none => simp only [Option.some.injEq] at hs; subst hs; intro a ha; cases ha; exact ht
    | some b =>
      simp only at hs
      cases hm : tightP (b.1.map2 Bd.cut r) with
      | none => rw [hm] at hs; cases hs
      | some m =>
        rw [hm] at hs
        simp only [Option.some.injEq] at hs
        subst hs
        intro a ha; cases ha
        exact ⟨sub_bd hm fun p hp => ok_inR ht.ok (inR_cut.1 hp).2, tight_idem hm⟩
theorem sees_tgt {s : Sc} : ∀ {L : List Sg} {k k' : Kn}, (∀ x ∈ L, smallR (atR s.ship x.st.toNat) ∧ 0 ≤ x.fr ∧ x.fr ≤ 256) → tgtK k → seesP s k L = some k' → tgtK k'
  | [], k, k', _, h, hs => by simp only [seesP, Option.some.injEq] at hs; subst hs; exact h
  | x :: r, k, k', hL, h, hs => by
    simp only [seesP] at hs
    cases h1 : seeP s k x with
    | none => rw [h1] at hs; cases hs
    | some k2 =>
      rw [h1] at hs
      exact sees_tgt (fun y hy => hL y (by simp [hy])) (see_tgt (hL x (by simp)) h h1) hs
theorem inStep_mem {s : Sc} {nm : ByteArray} {t : Int} {x : Sg} (h : x ∈ inStep s nm t) : x ∈ s.sg ∧ x.st = t ∧ x.nm = nm := mem_inL.1 h
theorem stepT_tgt {w : Wn} {s : Sc} {nm : ByteArray} {t : Int} {k k' : Kn} (hw : 0 ≤ w.speed ∧ w.speed ≤ 32) (hs : okShips s) (h : tgtK k) (he : stepT w s nm t k = some k') : tgtK k' := by
  unfold stepT at he
  cases h1 : seesP s (swimP w k) (inStep s nm t) with
  | none => rw [h1] at he; cases he
  | some k2 =>
    rw [h1] at he
    simp only at he
    split at he
    · simp only [Option.some.injEq] at he
      subst he
      have h2 := sees_tgt (fun x hx => hs x (inStep_mem hx).1) (swim_tgt hw h) h1
      intro a ha
      exact h2 a (Option.eq_some_of_filter_eq_some ha)
    · cases he
theorem kst_tgt {w : Wn} {s : Sc} {nm : ByteArray} (hw : 0 ≤ w.speed ∧ w.speed ≤ 32) (hs : okShips s) : ∀ {n : Nat} {k : Kn}, kst w s nm n = some k → tgtK k
  | 0, k, h => by simp only [kst, Option.some.injEq] at h; subst h; intro a ha; cases ha
  | n + 1, k, h => by
    simp only [kst] at h
    cases h1 : kst w s nm n with
    | none => rw [h1] at h; cases h
    | some k0 => rw [h1] at h; exact stepT_tgt hw hs (kst_tgt hw hs h1) h
theorem okSc.ships {s : Sc} (h : okSc s) : okShips s := by
  obtain ⟨h1, h2, h3, h4, h5, h6, h7, h8, h9⟩ := h
  intro x hx
  obtain ⟨⟨g1, g2⟩, g3, ⟨g4, g5, g6⟩, g7⟩ := h8 x hx
  exact ⟨h6 _ (atR_mem (by omega)), by omega, g6⟩
structure Live (w : Wn) (s : Sc) (nm : ByteArray) (n : Nat) (o q : Nat → Pt) : Prop where
  ship : ∀ t, t < n → (atR s.ship t).ok ∧ inR (atR s.ship t) (o t)
  ok : ∀ t, t < n → (q t).ok
  swim : ∀ t, t + 1 < n → d2 (q t) (q (t + 1)) ≤ w.speed * w.speed
  seen : ∀ x ∈ s.sg, x.nm = nm → (0 ≤ x.st ∧ x.st.toNat < n) ∧ trueS x (o x.st.toNat) (q x.st.toNat)
def inK (k : Kn) (q : Pt) : Prop := ∀ a, k = some a → inR a.1 q
theorem see_in {s : Sc} {k : Kn} {x : Sg} {o q : Pt} (hr : (atR s.ship x.st.toNat).ok) (ho : inR (atR s.ship x.st.toNat) o) (hq : q.ok) (h : trueS x o q) (hk : inK k q) : ∃ k', seeP s k x = some k' ∧ inK k' q := by
  obtain ⟨r, h1, h2⟩ := sight_in hr ho hq h
  unfold seeP
  rw [h1]
  cases k with
  | none => exact ⟨_, rfl, fun a ha => by cases ha; exact h2⟩
  | some b =>
    have hb := hk b rfl
    obtain ⟨m, hm⟩ := tight_some (inR_cut.2 ⟨hb, h2⟩)
    simp only [hm]
    exact ⟨_, rfl, fun a ha => by cases ha; exact (tight_in hm q).2 (inR_cut.2 ⟨hb, h2⟩)⟩
theorem sees_in {s : Sc} {o q : Pt} (hq : q.ok) : ∀ {L : List Sg} {k : Kn}, (∀ x ∈ L, (atR s.ship x.st.toNat).ok ∧ inR (atR s.ship x.st.toNat) o ∧ trueS x o q) → inK k q → ∃ k', seesP s k L = some k' ∧ inK k' q
  | [], k, _, hk => ⟨k, rfl, hk⟩
  | x :: r, k, h, hk => by
    obtain ⟨h1, h2, h3⟩ := h x (by simp)
    obtain ⟨k1, g1, g2⟩ := see_in h1 h2 hq h3 hk
    obtain ⟨k2, g3, g4⟩ := sees_in (L := r) hq (fun y hy => h y (by simp [hy])) g2
    exact ⟨k2, by simp only [seesP, g1]; exact g3, g4⟩
theorem gapW_in {a b : Rg} (ha : a.ok) (hb : Tgt1 b) {p q : Pt} (hp : inR a p) (hq : inR b q) : (gapW a b).lo ≤ d2 p q ∧ d2 p q ≤ (gapW a b).hi := by
  obtain ⟨x, hx⟩ := tight_some hp
  obtain ⟨g, h1, h2, h3, _⟩ := gap_of ha hb.ok hx hb.tg ((tight_in hx p).2 hp) hq
  unfold gapW
  rw [h1]
  rw [d2_swap] at h2 h3
  have e : d2 q p = d2 p q := by
    unfold d2
    rw [show p.x - q.x = -(q.x - p.x) by omega, show p.y - q.y = -(q.y - p.y) by omega, Int.neg_mul_neg, Int.neg_mul_neg]
  rw [e] at h2 h3
  exact ⟨h2, h3⟩
theorem Live.kst {w : Wn} {s : Sc} {nm : ByteArray} {n : Nat} {o q : Nat → Pt} (hw : 0 ≤ w.speed ∧ w.speed ≤ 32) (hs : okShips s) (h : Live w s nm n o q) : ∀ {t : Nat}, t ≤ n → ∃ k, kst w s nm t = some k ∧ (0 < t → inK k (q (t - 1))) ∧ (t = 0 → k = none)
  | 0, _ => ⟨none, rfl, fun h => by omega, fun _ => rfl⟩
  | t + 1, ht => by
    obtain ⟨k, h1, h2, h2'⟩ := Live.kst hw hs h (t := t) (by omega)
    have htg := kst_tgt hw hs h1
    have hq := h.ok t (by omega)
    have hk : inK (swimP w k) (q t) := by
      intro a ha
      unfold swimP at ha
      cases k with
      | none => cases ha
      | some b =>
        cases ha
        have ht0 : 0 < t := by
          rcases Nat.eq_zero_or_pos t with e | e
          · have := h2' e; cases this
          · exact e
        have h3 := h2 ht0 b rfl
        have h4 := h.swim (t - 1) (by omega)
        rw [show t - 1 + 1 = t by omega] at h4
        exact reach_in (htg b rfl) (by omega) h3 hq h4
    have hL : ∀ x ∈ inStep s nm t, (atR s.ship x.st.toNat).ok ∧ inR (atR s.ship x.st.toNat) (o t) ∧ trueS x (o t) (q t) := by
      intro x hx
      obtain ⟨g1, g2, g3⟩ := inStep_mem hx
      obtain ⟨g4, g5⟩ := h.seen x g1 g3
      have e : x.st.toNat = t := by omega
      rw [e] at g5 ⊢
      exact ⟨(h.ship t (by omega)).1, (h.ship t (by omega)).2, g5⟩
    obtain ⟨k1, g1, g2⟩ := sees_in hq hL hk
    have htg1 := sees_tgt (fun x hx => hs x (inStep_mem hx).1) (swim_tgt hw htg) g1
    refine ⟨k1.filter fun a => decide ((t : Int) - a.2 ≤ w.hold), ?_, fun _ a ha => ?_, fun e => by omega⟩
    · simp only [Go.Proofs.YtoebpndlbldfcaaGreatDoor.kst, h1, stepT, g1]
      rw [if_pos]
      intro x hx
      unfold farOk
      cases k1 with
      | none => trivial
      | some a =>
        simp only
        obtain ⟨g3, g4, g5⟩ := hL x hx
        have := gapW_in g3 (htg1 a rfl) g4 (g2 a rfl)
        have h5 := g5.1.2
        omega
    · rw [show t + 1 - 1 = t by omega]
      exact g2 a (Option.eq_some_of_filter_eq_some ha)
end Go.Proofs.YtoebpndlbldfcaaGreatDoor
namespace Go.Proofs.YtoebpndlbldfcaaGreatDoor
open Go
theorem mem_modes {w : Wn} (h : 0 ≤ w.soft) {m : Int} : m ∈ modesL w ↔ 0 ≤ m ∧ m ≤ w.soft + 1 := by
  unfold modesL
  rw [List.mem_map]
  constructor
  · rintro ⟨j, hj, rfl⟩
    have := List.mem_range.1 hj
    omega
  · intro hm
    exact ⟨m.toNat, List.mem_range.2 (by omega), by omega⟩
theorem foldl_max_ge (f : Int → Int) : ∀ (l : List Int) (a : Int), a ≤ l.foldl (fun a m => max a (f m)) a
  | [], a => Int.le_refl a
  | m :: r, a => by
    simp only [List.foldl_cons]
    have := foldl_max_ge f r (max a (f m))
    omega
theorem foldl_max_mem (f : Int → Int) : ∀ (l : List Int) (a : Int), ∀ m ∈ l, f m ≤ l.foldl (fun a m => max a (f m)) a
  | [], _, m, h => by cases h
  | x :: r, a, m, h => by
    simp only [List.foldl_cons]
    rcases List.mem_cons.1 h with rfl | h
    · have := foldl_max_ge f r (max a (f m)); omega
    · exact foldl_max_mem f r _ m h
theorem foldl_max_at (f : Int → Int) : ∀ (l : List Int) (a : Int), l.foldl (fun a m => max a (f m)) a = a ∨ ∃ m ∈ l, l.foldl (fun a m => max a (f m)) a = f m
  | [], a => .inl rfl
  | x :: r, a => by
    simp only [List.foldl_cons]
    rcases foldl_max_at f r (max a (f x)) with h | ⟨m, h1, h2⟩
    · rw [h]
      rcases Int.le_total a (f x) with h3 | h3
      · exact .inr ⟨x, by simp, by omega⟩
      · exact .inl (by omega)
    · exact .inr ⟨m, List.mem_cons_of_mem _ h1, h2⟩
theorem mostF_nn (g : Lg) : ∀ (n : Nat) (t : Int) (x : Sta), 0 ≤ mostF g n t x
  | 0, _, _ => Int.le_refl 0
  | n + 1, t, x => foldl_max_ge _ _ _
theorem mostF_le (g : Lg) : ∀ (n : Nat) (t : Int) (x : Sta), mostF g n t x ≤ n
  | 0, _, _ => Int.le_refl 0
  | n + 1, t, x => by
    rw [mostF_succ]
    rcases foldl_max_at (gainF g n t x) (modesL g.w) 0 with h | ⟨m, _, h⟩
    · rw [h]; omega
    · rw [h]
      unfold gainF
      have := mostF_le g n (t + 1) (afterP g t x m)
      split
      · omega
      · split <;> omega
theorem broken0 (g : Lg) (t : Int) (x : Sta) : brokenP g t x 0 = 0 := if_pos rfl
theorem gain_at (g : Lg) (hs : 0 ≤ g.w.soft) (n : Nat) (t : Int) (x : Sta) : ∃ m ∈ modesL g.w, gainF g n t x m = mostF g (n + 1) t x := by
  rw [mostF_succ]
  rcases foldl_max_at (gainF g n t x) (modesL g.w) 0 with h | ⟨m, h1, h2⟩
  · have h0 : (0 : Int) ∈ modesL g.w := (mem_modes hs).2 (by omega)
    refine ⟨0, h0, ?_⟩
    have h1 := foldl_max_mem (gainF g n t x) (modesL g.w) 0 0 h0
    have h2 : 0 ≤ gainF g n t x 0 := by
      unfold gainF
      rw [broken0, if_neg (by simp)]
      have := mostF_nn g n (t + 1) (afterP g t x 0)
      split <;> omega
    omega
  · exact ⟨m, h1, h2.symm⟩
def bestM (g : Lg) (n : Nat) (t : Int) (x : Sta) : Int := ((modesL g.w).find? fun m => decide (gainF g n t x m = mostF g (n + 1) t x)).getD 0
theorem bestF_succ (g : Lg) (n : Nat) (t : Int) (x : Sta) : bestF g (n + 1) t x = bestM g n t x :: bestF g n (t + 1) (afterP g t x (bestM g n t x)) := rfl
end Go.Proofs.YtoebpndlbldfcaaGreatDoor
namespace Go.Proofs.YtoebpndlbldfcaaGreatDoor
open Go
theorem quietP_full {g : Lg} {x : Sta} (h : x.md = g.w.soft + 1) : quietP g x = if g.w.pause < 1 then -1 else 1 := by unfold quietP; simp [h]
theorem quietP_qu {g : Lg} {x : Sta} (h : x.md ≠ g.w.soft + 1) (hq : 0 < x.qu) : quietP g x = if g.w.pause < x.qu + 1 then -1 else x.qu + 1 := by unfold quietP; simp [h, hq]
theorem quietP_no {g : Lg} {x : Sta} (h : x.md ≠ g.w.soft + 1) (hq : ¬ 0 < x.qu) : quietP g x = -1 := by unfold quietP; simp [h, hq]
end Go.Proofs.YtoebpndlbldfcaaGreatDoor
namespace Go.Proofs.YtoebpndlbldfcaaGreatDoor
open Go
theorem tight_of_ends {a t u : Rg} (h : tightP a = some t) (e : ∀ p, inR a p → inR u p) : (u.x.lo ≤ t.x.lo ∧ t.x.hi ≤ u.x.hi) ∧ (u.y.lo ≤ t.y.lo ∧ t.y.hi ≤ u.y.hi) ∧ (u.s.lo ≤ t.s.lo ∧ t.s.hi ≤ u.s.hi) ∧ (u.d.lo ≤ t.d.lo ∧ t.d.hi ≤ u.d.hi) := by
  have h := tight_totR h
  obtain ⟨p1, m1, e1⟩ := h.xlo
  obtain ⟨p2, m2, e2⟩ := h.xhi
  obtain ⟨p3, m3, e3⟩ := h.ylo
  obtain ⟨p4, m4, e4⟩ := h.yhi
  obtain ⟨p5, m5, e5⟩ := h.slo
  obtain ⟨p6, m6, e6⟩ := h.shi
  obtain ⟨p7, m7, e7⟩ := h.dlo
  obtain ⟨p8, m8, e8⟩ := h.dhi
  have := e p1 m1
  have := e p2 m2
  have := e p3 m3
  have := e p4 m4
  have := e p5 m5
  have := e p6 m6
  have := e p7 m7
  have := e p8 m8
  unfold inR at *
  refine ⟨⟨?_, ?_⟩, ⟨?_, ?_⟩, ⟨?_, ?_⟩, ⟨?_, ?_⟩⟩ <;> omega
def leK : Kn → Kn → Prop
  | none, none => True
  | some a', some a => a'.2 = a.2 ∧ ∀ p, inR a'.1 p → inR a.1 p
  | _, _ => False
theorem leK.refl (k : Kn) : leK k k := by cases k with
  | none => exact True.intro
  | some a => exact ⟨rfl, fun _ h => h⟩
structure Less (w' w : Wn) : Prop where
  zone : 0 ≤ w'.zone ∧ w'.zone ≤ w.zone
  speed : 0 ≤ w'.speed ∧ w'.speed ≤ w.speed ∧ w.speed ≤ 32
  hold : w'.hold = w.hold
  pre : w'.pre = w.pre
  delay : 0 ≤ w'.delay ∧ w'.delay ≤ w.delay
  soft : w'.soft = w.soft
  pause : w.pause ≤ w'.pause
structure LessG (g' g : Lg) : Prop where
  w : Less g'.w g.w
  s : g'.s = g.s
  d : ∀ t : Int, bAt g'.d t = true → bAt g.d t = true
theorem anyTr_iff {l : List Bool} {a b : Int} : anyTr l a b = true ↔ ∃ j : Nat, (j : Int) < b - a ∧ bAt l (a + j) = true := by
  unfold anyTr
  rw [List.any_eq_true]
  constructor
  · rintro ⟨j, h1, h2⟩; exact ⟨j, by have := List.mem_range.1 h1; omega, h2⟩
  · rintro ⟨j, h1, h2⟩; exact ⟨j, List.mem_range.2 (by omega), h2⟩
end Go.Proofs.YtoebpndlbldfcaaGreatDoor
namespace Go.Proofs.YtoebpndlbldfcaaGreatDoor
open Go
def shR (v : Pt) (r : Rg) : Rg := r.map2 Bd.plus (ofP v)
theorem inR_sh {v : Pt} {r : Rg} {p : Pt} : inR (shR v r) ⟨p.x + v.x, p.y + v.y⟩ ↔ inR r p := inR_move
theorem tight_sh (v : Pt) (r : Rg) : tightP (shR v r) = (tightP r).map (shR v) := by
  cases h : tightP r with
  | none =>
    refine tight_none.2 fun p hp => ?_
    have : inR r ⟨p.x - v.x, p.y - v.y⟩ := by
      rw [← inR_sh (v := v)]
      simpa using hp
    exact tight_none.1 h _ this
  | some t =>
    have e : tightP (shR v r) = tightP (shR v t) := by
      refine tight_eq fun p => ?_
      have h1 := inR_sh (v := v) (r := r) (p := ⟨p.x - v.x, p.y - v.y⟩)
      have h2 := inR_sh (v := v) (r := t) (p := ⟨p.x - v.x, p.y - v.y⟩)
      simp only [Int.sub_add_cancel] at h1 h2
      have e : (⟨p.x, p.y⟩ : Pt) = p := rfl
      rw [e] at h1 h2
      rw [h1, h2, tight_in h]
    rw [e]
    exact totR_tight (totR_move (totR_self h) v)
theorem Tgt1.tot {r : Rg} (h : Tgt1 r) : TotR r r := tight_totR h.tg
def Mid (r : Rg) (B : Int) : Prop := (-B ≤ r.x.lo ∧ r.x.hi ≤ B) ∧ -B ≤ r.y.lo ∧ r.y.hi ≤ B
theorem Mid.sd {r : Rg} {B : Int} (h : Mid r B) (ht : TotR r r) : (-(2 * B) ≤ r.s.lo ∧ r.s.hi ≤ 2 * B) ∧ -(2 * B) ≤ r.d.lo ∧ r.d.hi ≤ 2 * B := by
  obtain ⟨p1, m1, e1⟩ := ht.slo
  obtain ⟨p2, m2, e2⟩ := ht.shi
  obtain ⟨p3, m3, e3⟩ := ht.dlo
  obtain ⟨p4, m4, e4⟩ := ht.dhi
  unfold Mid at h
  unfold inR at *
  omega
theorem Mid.tgt {r : Rg} {B : Int} (h : Mid r B) (ht : tightP r = some r) (hB : B ≤ 32768) : Tgt1 r := by
  have hs := h.sd (tight_totR ht)
  have h2 := tight_sub ht
  unfold Mid at h
  refine ⟨?_, ht⟩
  unfold Rg.ok Bd.fits
  omega
theorem Mid.sub {r r' : Rg} {B : Int} (h : Mid r B) {t : Rg} (ht : tightP r' = some t) (hs : ∀ p, inR r' p → inR r p) : Mid t B := by
  have := tight_of_ends ht hs
  unfold Mid at *
  omega
theorem Mid.mono {r : Rg} {B C : Int} (h : Mid r B) (hc : B ≤ C) : Mid r C := by unfold Mid at *; omega
structure Mvd (v : Pt) (r r' : Rg) : Prop where
  ok : r.ok
  tg : ∃ t, tightP r = some t ∧ r' = shR v t
  mid : Mid r 25000
  mid' : Mid r' 25000
theorem Mvd.facts {v : Pt} {r r' : Rg} (h : Mvd v r r') : Tgt1 (tgR r) ∧ r' = shR v (tgR r) ∧ tightP r' = some r' ∧ tgR r' = shR v (tgR r) ∧ Mid (tgR r) 25000 ∧ Mid (shR v (tgR r)) 25000 ∧ Tgt1 r' ∧ tightP r = some (tgR r) := by
  obtain ⟨t, ht, rfl⟩ := h.tg
  have e : tgR r = t := by unfold tgR; rw [ht]; rfl
  have htt := tight_idem ht
  have h2 : tightP (shR v t) = some (shR v t) := by rw [tight_sh, htt]; rfl
  rw [e]
  refine ⟨Tgt1.of ht h.ok, rfl, h2, by unfold tgR; rw [h2]; rfl, h.mid.sub ht (fun _ hp => hp), h.mid', h.mid'.tgt h2 (by omega), ht⟩
structure Moved (v : Pt) (s s' : Sc) : Prop where
  sg : s'.sg = s.sg
  len : s'.ship.length = s.ship.length
  ship : ∀ t, t < s.ship.length → Mvd v (atR s.ship t) (atR s'.ship t)
def midK (v : Pt) (t : Int) (k : Kn) : Prop := ∀ a, k = some a → Tgt1 a.1 ∧ Mid a.1 (25256 + 32 * (t - a.2)) ∧ Mid (shR v a.1) (25256 + 32 * (t - a.2)) ∧ a.2 ≤ t ∧ t - a.2 ≤ 17
theorem midK.sh {v : Pt} {t : Int} {k : Kn} (h : midK v t k) {a : Rg × Int} (ha : k = some a) : Tgt1 a.1 ∧ Tgt1 (shR v a.1) := by
  obtain ⟨h1, h2, h3, h4, h5⟩ := h a ha
  exact ⟨h1, h3.tgt (by rw [tight_sh, h1.tg]; rfl) (by omega)⟩
end Go.Proofs.YtoebpndlbldfcaaGreatDoor
namespace Go.Proofs.YtoebpndlbldfcaaGreatDoor
open Go
open Go.ChangeShapes Go.WideShapes Go.ChangeAt Go.RowKit
def allH (W : World) : Heap := W.heap.toList.zipIdx.map fun p => (p.2, p.1)
theorem allH_mem {W : World} {b : Nat} {ob : Obj} : (b, ob) ∈ allH W ↔ W.heap[b]? = some ob := by
  unfold allH
  rw [List.mem_map]
  constructor
  · rintro ⟨⟨o, i⟩, h, e⟩
    simp only [Prod.mk.injEq] at e
    obtain ⟨rfl, rfl⟩ := e
    have := List.mem_zipIdx_iff_getElem?.1 h
    simpa using this
  · intro h
    exact ⟨(ob, b), List.mem_zipIdx_iff_getElem?.2 (by simpa using h), rfl⟩
theorem allH_emb (W : World) : Emb (allH W) W := by
  refine ⟨?_, fun e he => ?_⟩
  · have : (allH W).map Prod.fst = List.range W.heap.size := by
      unfold allH
      rw [List.map_map]
      have : (Prod.fst ∘ fun p : Obj × Nat => (p.2, p.1)) = Prod.snd := rfl
      rw [this, List.zipIdx_map_snd, List.range_eq_range']
      simp
    rw [this]; exact List.nodup_range
  · exact allH_mem.1 he
theorem calls_of {P : Program} {k : FuncId} {args : Array Value} {W : World} {v : Value} (h : VCall P k args (allH W) (fun o H' => o = .val v ∧ ∃ B, H' = B ++ allH W)) :
    Calls P k args W (fun e w' => e = .returned v ∧ Below W.heap.size W w') := by
  intro cs
  obtain ⟨o, w', m', H', ⟨rfl, B, rfl⟩, hF, hs, _, fr', rfl, h1, h2⟩ := h W cs (allH_emb W)
  refine ⟨.returned v, w', fr', ⟨rfl, hF.os, hF.tape, hF.output, hF.size, fun i hi => ?_⟩, hs, h1, h2⟩
  have hg : W.heap[i]? = some W.heap[i] := Array.getElem?_eq_getElem hi
  rw [hg]
  exact hF.emb.at_ (i, W.heap[i]) (List.mem_append_right _ (allH_mem.2 hg))
inductive CK where
  | i | b | s | sl (e : TypeId)
  deriving DecidableEq
def flatF (P : Program) (g : TypeId → Option (List CK)) : List Field → Nat → Option (List CK)
  | [], _ => some []
  | f :: r, off => if f.offset = off then (match g f.type with | some ks => if P.cellsOf f.type = ks.length then (flatF P g r (off + ks.length)).map (ks ++ ·) else Option.none | Option.none => Option.none) else Option.none
def repK : Nat → List CK → List CK
  | 0, _ => []
  | n + 1, ks => ks ++ repK n ks
def flat (P : Program) : Nat → TypeId → Option (List CK)
  | 0, _ => Option.none
  | n + 1, t => match P.underlying t with
    | some .bool => some [.b]
    | some (.int .i64) => some [.i]
    | some .string => some [.s]
    | some (.slice e) => some [.sl e]
    | some (.struct fs) => (flatF P (flat P n) fs.toList 0).bind fun ks => if P.cellsOf t = ks.length then some ks else Option.none
    | some (.array m e) => (flat P n e).bind fun ks => if P.cellsOf e = ks.length ∧ P.cellsOf t = m * ks.length then some (repK m ks) else Option.none
    | _ => Option.none
section
variable {HH : Type} (enc : TypeId × Value → HH) (P : Program) (W : World)
def RowIs (e : TypeId) (row : List Value) : Prop := ∃ fuel d ps, DataW.trod enc P W 0 (fun _ => true) true fuel e row = some (d, ps)
def CellIs : CK → Value → Prop
  | .i, v => ∃ n, v = .int .i64 n ∧ InR n
  | .b, v => ∃ x, v = .bool x
  | .s, v => ∃ x : ByteArray, v = .string x ∧ x.size ≤ 9223372036854775807
  | .sl e, v => v = .slice Option.none 0 0 ∨ ∃ a len cap, v = .slice (some a) len cap ∧ len ≤ 9223372036854775807 ∧ len ≤ cap ∧ ∀ i, i < len → ∃ row, W.cells? 0 (a.add (i * P.cellsOf e)) (P.cellsOf e) = some row ∧ RowIs enc P W e row
def CellsAre : List CK → List Value → Prop
  | [], [] => True
  | k :: ks, v :: vs => CellIs enc P W k v ∧ CellsAre ks vs
  | _, _ => False
variable {enc P W}
theorem CellsAre.app : ∀ {ks ks' : List CK} {vs vs' : List Value}, CellsAre enc P W ks vs → CellsAre enc P W ks' vs' → CellsAre enc P W (ks ++ ks') (vs ++ vs')
  | [], _, [], _, _, h => h
  | _ :: _, _, _ :: _, _, h, h' => ⟨h.1, h.2.app h'⟩
  | [], _, _ :: _, _, h, _ => h.elim
  | _ :: _, _, [], _, h, _ => h.elim
theorem mapM_get {α β : Type} {f : α → Option β} : ∀ {l : List α} {ys : List β}, l.mapM f = some ys → ∀ x ∈ l, ∃ y, f x = some y
  | [], _, _, x, hx => by cases hx
  | a :: l, ys, h, x, hx => by
    rw [List.mapM_cons] at h
    cases ha : f a with
    | none => rw [ha] at h; cases h
    | some y =>
      rw [ha] at h
      cases hl : l.mapM f with
      | none => rw [hl] at h; cases h
      | some zs =>
        rcases List.mem_cons.1 hx with rfl | hx
        · exact ⟨y, ha⟩
        · exact mapM_get hl x hx
theorem drop_take_split (cs : List Value) (off n m : Nat) : (cs.drop off).take (n + m) = (cs.drop off).take n ++ (cs.drop (off + n)).take m := by
  rw [List.take_add, List.drop_drop]
theorem flatF_cells {g : TypeId → Option (List CK)} {fuel : Nat} (hg : ∀ t ks cs d ps, g t = some ks → DataW.trod enc P W 0 (fun _ => true) true fuel t cs = some (d, ps) → CellsAre enc P W ks cs) :
    ∀ (fs : List Field) (off : Nat) (ks : List CK) (cs : List Value), flatF P g fs off = some ks → (∀ f ∈ fs, ∃ y, DataW.trod enc P W 0 (fun _ => true) true fuel f.type ((cs.drop f.offset).take (P.cellsOf f.type)) = some y) → CellsAre enc P W ks ((cs.drop off).take ks.length)
  | [], off, ks, cs, h, _ => by
    simp only [flatF, Option.some.injEq] at h
    subst h
    simp [CellsAre]
  | f :: r, off, ks, cs, h, hm => by
    simp only [flatF] at h
    split at h
    · rename_i hoff
      split at h
      · rename_i k1 hk1
        split at h
        · rename_i hsz
          cases hr : flatF P g r (off + k1.length) with
          | none => rw [hr] at h; cases h
          | some k2 =>
            rw [hr] at h
            simp only [Option.map_some, Option.some.injEq] at h
            subst h
            obtain ⟨⟨d, ps⟩, hy⟩ := hm f (by simp)
            rw [hoff, hsz] at hy
            have h1 := hg f.type k1 _ d ps hk1 hy
            have h2 := flatF_cells hg r (off + k1.length) k2 cs hr (fun f' hf' => hm f' (by simp [hf']))
            rw [List.length_append, drop_take_split]
            exact h1.app h2
        · cases h
      · cases h
    · cases h
theorem arr_cells {ks : List CK} {fuel : Nat} {e : TypeId} (hsz : P.cellsOf e = ks.length) (hg : ∀ cs d ps, DataW.trod enc P W 0 (fun _ => true) true fuel e cs = some (d, ps) → CellsAre enc P W ks cs) (cs : List Value) :
    ∀ (n m : Nat), (∀ i, i < m + n → ∃ y, DataW.trod enc P W 0 (fun _ => true) true fuel e ((cs.drop (i * P.cellsOf e)).take (P.cellsOf e)) = some y) → CellsAre enc P W (repK n ks) ((cs.drop (m * ks.length)).take (n * ks.length))
  | 0, m, _ => by simp [repK, CellsAre]
  | n + 1, m, h => by
    obtain ⟨⟨d, ps⟩, hy⟩ := h m (by omega)
    rw [hsz] at hy
    have h1 := hg _ d ps hy
    have h2 := arr_cells hsz hg cs n (m + 1) (fun i hi => h i (by omega))
    rw [repK, Nat.succ_mul n, Nat.add_comm (n * ks.length), drop_take_split]
    rw [Nat.succ_mul] at h2
    exact h1.app h2
theorem cells_int {k : IntKind} {fuel : Nat} {t : TypeId} {cs : List Value} {d : DataW HH} {ps : List MemPlace} (ht : P.underlying t = some (.int k)) (h : DataW.trod enc P W 0 (fun _ => true) true (fuel + 1) t cs = some (d, ps)) : ∃ n, cs = [.int k n] ∧ (Lit.int k n).wf = true := by
  simp only [DataW.trod, ht] at h
  split at h <;> simp_all
theorem cells_bool {fuel : Nat} {t : TypeId} {cs : List Value} {d : DataW HH} {ps : List MemPlace} (ht : P.underlying t = some .bool) (h : DataW.trod enc P W 0 (fun _ => true) true (fuel + 1) t cs = some (d, ps)) : ∃ n, cs = [.bool n] := by
  simp only [DataW.trod, ht] at h
  split at h <;> simp_all
theorem cells_string {fuel : Nat} {t : TypeId} {cs : List Value} {d : DataW HH} {ps : List MemPlace} (ht : P.underlying t = some .string) (h : DataW.trod enc P W 0 (fun _ => true) true (fuel + 1) t cs = some (d, ps)) : ∃ s, cs = [.string s] ∧ s.size ≤ maxLen := by
  simp only [DataW.trod, ht] at h
  split at h <;> simp_all
theorem cells_slice {fuel : Nat} {t e : TypeId} {cs : List Value} {d : DataW HH} {ps : List MemPlace} (ht : P.underlying t = some (.slice e)) (h : DataW.trod enc P W 0 (fun _ => true) true (fuel + 1) t cs = some (d, ps)) :
    cs = [.slice Option.none 0 0] ∨ ∃ a len cap, cs = [.slice (some a) len cap] ∧ len ≤ maxLen ∧ len ≤ cap ∧ ∀ i, i < len → ∃ y, (W.cells? 0 (a.add (i * P.cellsOf e)) (P.cellsOf e)).bind (DataW.trod enc P W 0 (fun _ => true) true fuel e) = some y := by
  cases cs with
  | nil => simp [DataW.trod, ht] at h
  | cons v r =>
    cases r with
    | cons u r => simp [DataW.trod, ht] at h
    | nil =>
      cases v <;> try (simp [DataW.trod, ht] at h; done)
      rename_i oa len cap
      cases oa with
      | none =>
        left
        cases len <;> cases cap <;> first | rfl | (simp [DataW.trod, ht] at h; done)
      | some a =>
        right
        simp only [DataW.trod, ht] at h
        split at h
        · rename_i hb
          refine ⟨a, len, cap, rfl, by omega, by omega, fun i hi => ?_⟩
          cases hm : (List.range len).mapM (fun i => (W.cells? 0 (a.add (i * P.cellsOf e)) (P.cellsOf e)).bind (DataW.trod enc P W 0 (fun _ => true) true fuel e)) with
          | none => rw [hm] at h; cases h
          | some ys => exact mapM_get hm i (List.mem_range.2 hi)
        · cases h
theorem cells_struct {fuel : Nat} {t : TypeId} {fs : Array Field} {cs : List Value} {d : DataW HH} {ps : List MemPlace} (ht : P.underlying t = some (.struct fs)) (h : DataW.trod enc P W 0 (fun _ => true) true (fuel + 1) t cs = some (d, ps)) :
    cs.length = P.cellsOf t ∧ ∀ f ∈ fs.toList, ∃ y, DataW.trod enc P W 0 (fun _ => true) true fuel f.type ((cs.drop f.offset).take (P.cellsOf f.type)) = some y := by
  simp only [DataW.trod, ht] at h
  split at h
  · rename_i hl
    refine ⟨hl, fun f hf => ?_⟩
    cases hm : fs.toList.mapM (fun f => DataW.trod enc P W 0 (fun _ => true) true fuel f.type ((cs.drop f.offset).take (P.cellsOf f.type))) with
    | none => rw [hm] at h; cases h
    | some ys => exact mapM_get hm f hf
  · cases h
theorem cells_array {fuel m : Nat} {t e : TypeId} {cs : List Value} {d : DataW HH} {ps : List MemPlace} (ht : P.underlying t = some (.array m e)) (h : DataW.trod enc P W 0 (fun _ => true) true (fuel + 1) t cs = some (d, ps)) :
    cs.length = P.cellsOf t ∧ ∀ i, i < m → ∃ y, DataW.trod enc P W 0 (fun _ => true) true fuel e ((cs.drop (i * P.cellsOf e)).take (P.cellsOf e)) = some y := by
  simp only [DataW.trod, ht] at h
  split at h
  · rename_i hl
    refine ⟨hl, fun i hi => ?_⟩
    cases hm : (List.range m).mapM (fun i => DataW.trod enc P W 0 (fun _ => true) true fuel e ((cs.drop (i * P.cellsOf e)).take (P.cellsOf e))) with
    | none => rw [hm] at h; cases h
    | some ys => exact mapM_get hm i (List.mem_range.2 hi)
  · cases h
theorem flat_cells : ∀ (n : Nat) (t : TypeId) (ks : List CK) (fuel : Nat) (cs : List Value) (d : DataW HH) (ps : List MemPlace), flat P n t = some ks → DataW.trod enc P W 0 (fun _ => true) true fuel t cs = some (d, ps) → CellsAre enc P W ks cs
  | 0, _, _, _, _, _, _, h, _ => by cases h
  | n + 1, _, _, 0, _, _, _, _, h => by cases h
  | n + 1, t, ks, fuel + 1, cs, d, ps, h, hr => by
    simp only [flat] at h
    split at h
    · rename_i ht
      cases h
      obtain ⟨x, rfl⟩ := cells_bool ht hr
      exact ⟨⟨x, rfl⟩, True.intro⟩
    · rename_i ht
      cases h
      obtain ⟨x, rfl, hx⟩ := cells_int ht hr
      exact ⟨⟨x, rfl, bounds_i64 hx⟩, True.intro⟩
    · rename_i ht
      cases h
      obtain ⟨x, rfl, hx⟩ := cells_string ht hr
      exact ⟨⟨x, rfl, by unfold maxLen at hx; omega⟩, True.intro⟩
    · rename_i e ht
      cases h
      rcases cells_slice ht hr with rfl | ⟨a, len, cap, rfl, hl, hlc, hx⟩
      · exact ⟨.inl rfl, True.intro⟩
      · refine ⟨.inr ⟨a, len, cap, rfl, by unfold maxLen at hl; omega, hlc, fun i hi => ?_⟩, True.intro⟩
        obtain ⟨⟨d', ps'⟩, hy⟩ := hx i hi
        cases hc : W.cells? 0 (a.add (i * P.cellsOf e)) (P.cellsOf e) with
        | none => rw [hc] at hy; cases hy
        | some row => rw [hc] at hy; exact ⟨row, rfl, fuel, d', ps', hy⟩
    · rename_i fs ht
      obtain ⟨hl, hf⟩ := cells_struct ht hr
      cases hk : flatF P (flat P n) fs.toList 0 with
      | none => rw [hk] at h; cases h
      | some k =>
        rw [hk] at h
        simp only [Option.bind_some] at h
        split at h
        · rename_i hsz
          cases h
          have := flatF_cells (fuel := fuel) (fun t ks cs d ps h1 h2 => flat_cells n t ks fuel cs d ps h1 h2) fs.toList 0 ks cs hk hf
          rw [List.drop_zero, List.take_of_length_le (by omega)] at this
          exact this
        · cases h
    · rename_i m e ht
      obtain ⟨hl, hf⟩ := cells_array ht hr
      cases hk : flat P n e with
      | none => rw [hk] at h; cases h
      | some k =>
        rw [hk] at h
        simp only [Option.bind_some] at h
        split at h
        · rename_i hsz
          cases h
          have := arr_cells (fuel := fuel) (e := e) hsz.1 (fun cs d ps h2 => flat_cells n e k fuel cs d ps hk h2) cs m 0 (fun i hi => hf i (by omega))
          rw [Nat.zero_mul, List.drop_zero, List.take_of_length_le (by omega)] at this
          exact this
        · cases h
    · cases h
theorem list_choose {α : Type} {Q : Nat → α → Prop} : ∀ n : Nat, (∀ i, i < n → ∃ x, Q i x) → ∃ l : List α, l.length = n ∧ ∀ i x, l[i]? = some x → Q i x
  | 0, _ => ⟨[], rfl, fun i x h => by simp at h⟩
  | n + 1, h => by
    obtain ⟨l, hl, hq⟩ := list_choose n fun i hi => h i (by omega)
    obtain ⟨x, hx⟩ := h n (by omega)
    refine ⟨l ++ [x], by simp [hl], fun i y hy => ?_⟩
    by_cases hi : i < n
    · rw [List.getElem?_append_left (by omega)] at hy; exact hq i y hy
    · rw [List.getElem?_append_right (by omega)] at hy
      have : i - l.length = 0 := by
        have := (List.getElem?_eq_some_iff.1 hy).1
        simp at this; omega
      rw [this] at hy
      simp only [List.getElem?_cons_zero, Option.some.injEq] at hy
      subst hy
      have : i = n := by omega
      subst this; exact hx
theorem cells?_get {a : Addr} {n : Nat} {row : List Value} (h : W.cells? 0 a n = some row) : row.length = n ∧ ∀ j v, row[j]? = some v → W.cell? (a.add j) = some v := by
  unfold World.cells? at h
  rw [if_pos (Nat.zero_le _)] at h
  have key : ∀ (l : List Nat) (ys : List Value), l.mapM (fun i => W.cell? (a.add i)) = some ys → ys.length = l.length ∧ ∀ (j : Nat) (v : Value), ys[j]? = some v → ∃ i : Nat, l[j]? = some i ∧ W.cell? (a.add i) = some v := by
    intro l
    induction l with
    | nil => intro ys h; simp at h; subst h; simp
    | cons x l ih =>
      intro ys h
      rw [List.mapM_cons] at h
      cases hx : W.cell? (a.add x) with
      | none => rw [hx] at h; cases h
      | some y =>
        rw [hx] at h
        cases hl : l.mapM (fun i => W.cell? (a.add i)) with
        | none => rw [hl] at h; cases h
        | some zs =>
          rw [hl] at h
          cases h
          obtain ⟨h1, h2⟩ := ih zs hl
          refine ⟨by simp [h1], fun j v hj => ?_⟩
          cases j with
          | zero => simp at hj; subst hj; exact ⟨x, rfl, hx⟩
          | succ j => simp at hj; obtain ⟨i, h3, h4⟩ := h2 j v hj; exact ⟨i, by simpa using h3, h4⟩
  obtain ⟨h1, h2⟩ := key _ _ h
  refine ⟨by simpa using h1, fun j v hj => ?_⟩
  obtain ⟨i, h3, h4⟩ := h2 j v hj
  have hj' := (List.getElem?_eq_some_iff.1 h3).1
  rw [List.getElem?_range (by simpa using hj')] at h3
  cases h3; exact h4
theorem cell_block {a : Addr} {v : Value} (h : W.cell? a = some v) : ∃ ob, W.heap[a.block]? = some ob ∧ oCell ob a = some v := by
  cases hb : W.heap[a.block]? with
  | none => unfold World.cell? at h; rw [hb] at h; cases h
  | some ob => exact ⟨ob, rfl, by rw [← oCell_eq hb]; exact h⟩
theorem slice_of2 {α : Type} {e : TypeId} {ks : List CK} {n esz : Nat} {v : Value} (en : α → List Value) (Pr : α → Prop) (hk : flat P n e = some ks) (hs : P.cellsOf e = esz) (h0 : 0 < esz) (dec : ∀ row, CellsAre enc P W ks row → row.length = esz → ∃ x, row = en x ∧ Pr x) (h : CellIs enc P W (.sl e) v) :
    ∃ (oa : Option Addr) (m c : Nat) (l : List α), v = .slice oa m c ∧ l.length = m ∧ m ≤ 9223372036854775807 ∧ (∀ x ∈ l, Pr x) ∧ (oa = Option.none → m = 0 ∧ c = 0) ∧ SlO (allH W) oa esz en l ∧ m ≤ c := by
  rcases h with rfl | ⟨a, len, cap, rfl, hl, hlc, hx⟩
  · exact ⟨Option.none, 0, 0, [], rfl, rfl, by omega, (fun x hx => by cases hx), (fun _ => ⟨rfl, rfl⟩), SlO.nil, Nat.le_refl _⟩
  · obtain ⟨l, h1, h2⟩ := list_choose (Q := fun i x => Pr x ∧ (en x).length = esz ∧ ∀ j u, (en x)[j]? = some u → W.cell? (a.add (i * esz + j)) = some u) len fun i hi => by
      obtain ⟨row, hr, fuel, d, ps, ht⟩ := hx i hi
      obtain ⟨g1, g2⟩ := cells?_get hr
      obtain ⟨x, rfl, hp⟩ := dec row (flat_cells n e ks fuel row d ps hk ht) (by rw [g1, hs])
      refine ⟨x, hp, by rw [g1, hs], fun j u hj => ?_⟩
      have := g2 j u hj
      rw [add_add, hs] at this; exact this
    refine ⟨some a, len, cap, l, rfl, h1, hl, fun x hx => ?_, (fun h => by cases h), ⟨fun i x hi => ?_⟩, hlc⟩
    · obtain ⟨i, hi, e⟩ := List.mem_iff_getElem.1 hx
      exact (h2 i x (by rw [List.getElem?_eq_getElem hi, e])).1
    · obtain ⟨_, h3, h4⟩ := h2 i x hi
      refine ⟨h3, ?_⟩
      have hpos : 0 < (en x).length := by rw [h3]; exact h0
      obtain ⟨ob, hb, _⟩ := cell_block (h4 0 _ (List.getElem?_eq_getElem hpos))
      rw [add_block] at hb
      refine ⟨a, ob, rfl, allH_mem.2 hb, fun j u hj => ?_⟩
      have := h4 j u hj
      rw [← oCell_eq (w := W) (by rw [add_block]; exact hb)]; exact this
theorem trod_cells {t : TypeId} {v : Value} {d : DataW HH} {ps : List MemPlace} {n : Nat} {ks : List CK} (hk : flat P n t = some ks) (h : DataW.Trod enc P W 0 (fun _ => true) true t v d ps) : CellsAre enc P W ks v.cells.toList :=
  let ⟨fuel, hf⟩ := h; flat_cells n t ks fuel _ d ps hk hf
end
end Go.Proofs.YtoebpndlbldfcaaGreatDoor
