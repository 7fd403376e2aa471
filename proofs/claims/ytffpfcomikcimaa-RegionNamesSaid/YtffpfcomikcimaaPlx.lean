/-
  Plain Lean: counts, extremes, squared distances. No condition, no program.
-/
import Derived.Test.YtffpfcomikcimaaPlr
namespace Go.Proofs.Ytffpfcomikcimaa

def cntF (l : List Rw) : Int := l.foldl (fun n w => n + (w.b - w.a + 1)) 0
theorem cntF_snoc (l : List Rw) (w : Rw) : cntF (l ++ [w]) = cntF l + (w.b - w.a + 1) := by simp [cntF]
theorem cntF_from : ∀ (l : List Rw) (n : Int), l.foldl (fun n w => n + (w.b - w.a + 1)) n = n + cntF l
  | [], n => by simp [cntF]
  | w :: l, n => by
    simp only [List.foldl_cons, cntF]
    rw [cntF_from l (n + (w.b - w.a + 1)), cntF_from l (0 + (w.b - w.a + 1))]; omega
theorem cntF_cons (w : Rw) (l : List Rw) : cntF (w :: l) = (w.b - w.a + 1) + cntF l := by
  simp only [cntF, List.foldl_cons]; rw [cntF_from]; simp only [cntF]; omega
def cntE (r : Rg) : Int × Int := if r.ok then (cntF (rows r), 0) else (0, 11)
theorem rowsN_len (r : Rg) : ∀ n, (rowsN r n).length ≤ n
  | 0 => by simp [rowsN, xsF]
  | n + 1 => by
    rw [rowsN_succ, List.length_append]
    have := rowsN_len r n
    have h : (rowL r (r.x.lo + n)).length ≤ 1 := by unfold rowL; split <;> simp
    omega
theorem cntF_bd {m : Int} (hm : 0 ≤ m) : ∀ (l : List Rw), (∀ w ∈ l, 0 ≤ w.b - w.a + 1 ∧ w.b - w.a + 1 ≤ m) → 0 ≤ cntF l ∧ cntF l ≤ l.length * m
  | [], _ => by simp [cntF]
  | w :: l, h => by
    have h1 := cntF_bd hm l fun w hw => h w (by simp [hw])
    have h2 := h w (by simp)
    rw [cntF_cons, List.length_cons, Int.natCast_add, Int.add_mul]
    simp only [Int.natCast_one, Int.one_mul]
    omega
/-- What is counted so far does not overflow. -/
theorem cnt_pre {r : Rg} (hr : r.ok) {pre post : List Rw} (h : rows r = pre ++ post) : 0 ≤ cntF pre ∧ cntF pre ≤ 13107400000 := by
  have hl : pre.length ≤ 65537 := by
    have h1 := rowsN_len r r.x.len
    have h2 : (rows r).length = pre.length + post.length := by rw [h, List.length_append]
    have h3 : r.x.len ≤ 65537 := by unfold Rg.ok Bd.fits at hr; unfold Bd.len; omega
    unfold rows at h2; omega
  have := cntF_bd (m := 200000) (by omega) pre fun w hw => by
    have hm : w ∈ rows r := by rw [h]; simp [hw]
    have h1 := mem_rows.1 hm
    have h2 := rows_sm hr.sm hm
    omega
  have h2 : (pre.length : Int) * 200000 ≤ 65537 * 200000 := Int.mul_le_mul_of_nonneg_right (by omega) (by omega)
  omega

/-! ### The best of a list -/
def bestS {α : Type} (better : α → α → Bool) (b : Option α) (x : α) : Option α := match b with | none => some x | some y => if better x y = true then some x else some y
def pickL {α : Type} (better : α → α → Bool) (l : List α) : Option α := l.foldl (bestS better) none
theorem pick_n {α : Type} {better : α → α → Bool} {pre : List α} {x : α} (h : (!(pickL better pre).isSome) = true) : pickL better (pre ++ [x]) = some x := by
  simp only [pickL, List.foldl_append, List.foldl_cons, List.foldl_nil]
  have := optN h; unfold pickL at this; rw [this]; rfl
theorem pick_y {α : Type} {better : α → α → Bool} {z : α} {pre : List α} {x : α} (h : (!(pickL better pre).isSome) = false) (hb : better x ((pickL better pre).getD z) = true) : pickL better (pre ++ [x]) = some x := by
  simp only [pickL, List.foldl_append, List.foldl_cons, List.foldl_nil]
  obtain ⟨g, hg⟩ := optS h
  rw [hg] at hb
  unfold pickL at hg; rw [hg]
  exact if_pos hb
theorem pick_k {α : Type} {better : α → α → Bool} {z : α} {pre : List α} {x : α} (h : (!(pickL better pre).isSome) = false) (hb : better x ((pickL better pre).getD z) = false) : pickL better (pre ++ [x]) = pickL better pre := by
  simp only [pickL, List.foldl_append, List.foldl_cons, List.foldl_nil]
  obtain ⟨g, hg⟩ := optS h
  rw [hg] at hb
  unfold pickL at hg; rw [hg]
  exact if_neg (by simp at hb; simp [hb])

/-- A valued place. -/
structure Vd where
  n : Int
  p : Pt
  deriving DecidableEq
def zP : Pt := ⟨0, 0⟩
def zV : Vd := ⟨0, zP⟩
def zB : Bd := ⟨0, 0⟩
def val (v p : Pt) : Vd := ⟨v.x * p.x + v.y * p.y, p⟩
def lessV (a b : Vd) : Bool := decide (a.n < b.n)
def moreV (a b : Vd) : Bool := decide (a.n > b.n)
structure Pk where
  lo : Int
  hi : Int
  a : Pt
  t : Pt
  deriving DecidableEq
def zK : Pk := ⟨0, 0, zP, zP⟩
def Pt.okS (p : Pt) : Prop := (-1000 ≤ p.x ∧ p.x ≤ 1000) ∧ (-1000 ≤ p.y ∧ p.y ≤ 1000)
instance (p : Pt) : Decidable p.okS := by unfold Pt.okS; exact inferInstance
def vals (r : Rg) (v : Pt) : List Vd := (endsOf r).map (val v)
def extE (r : Rg) (v : Pt) : Pk × Int := if r.ok then (if v.okS then (match pickL lessV (vals r v), pickL moreV (vals r v) with | some a, some b => (⟨a.n, b.n, a.p, b.p⟩, 0) | _, _ => (zK, 4)) else (zK, 7)) else (zK, 11)

/-! ### Squared distances -/
def nearY (p : Pt) (w : Rw) : Int := max w.a (min p.y w.b) - p.y
def sqI (p : Pt) (w : Rw) : Bd := ⟨(w.x - p.x) * (w.x - p.x) + nearY p w * nearY p w, (w.x - p.x) * (w.x - p.x) + max ((w.a - p.y) * (w.a - p.y)) ((w.b - p.y) * (w.b - p.y))⟩
def sqS (b : Option Bd) (i : Bd) : Option Bd := some ((b.getD i).span i)
def sqL (l : List Bd) : Option Bd := l.foldl sqS none
def sqP (r : Rg) (p : Pt) : Option Bd := sqL ((rows r).map (sqI p))
def lessB (a b : Bd) : Bool := decide (a.lo < b.lo)
def moreB (a b : Bd) : Bool := decide (a.hi > b.hi)
/-- Three searches, side by side. -/
def SqR : Option Bd → Option Bd → Option Bd → Prop
  | none, none, none => True
  | some a, some b, some o => a.lo = o.lo ∧ b.hi = o.hi
  | _, _, _ => False
theorem sq_step {a b o : Option Bd} (h : SqR a b o) (i : Bd) : SqR (bestS lessB a i) (bestS moreB b i) (sqS o i) := by
  cases a <;> cases b <;> cases o <;> simp only [SqR] at h
  · simp only [bestS, sqS, SqR, Option.getD_none, Bd.span]; omega
  · rename_i a b o
    simp only [bestS, sqS, Option.getD_some, lessB, moreB, decide_eq_true_eq]
    split <;> split <;> simp only [SqR, Bd.span] <;> omega
theorem sq_fold : ∀ (l : List Bd) {a b o : Option Bd}, SqR a b o → SqR (l.foldl (bestS lessB) a) (l.foldl (bestS moreB) b) (l.foldl sqS o)
  | [], _, _, _, h => h
  | i :: l, _, _, _, h => sq_fold l (sq_step h i)
theorem sq_pick (l : List Bd) : SqR (pickL lessB l) (pickL moreB l) (sqL l) := sq_fold l (a := none) (b := none) (o := none) True.intro
theorem sq_pick_lo (l : List Bd) : ((pickL lessB l).getD zB).lo = ((sqL l).getD zB).lo := by
  have := sq_pick l
  cases h1 : pickL lessB l <;> cases h2 : pickL moreB l <;> cases h3 : sqL l <;> simp_all [SqR]
theorem sq_pick_hi (l : List Bd) : ((pickL moreB l).getD zB).hi = ((sqL l).getD zB).hi := by
  have := sq_pick l
  cases h1 : pickL lessB l <;> cases h2 : pickL moreB l <;> cases h3 : sqL l <;> simp_all [SqR]
theorem sq_pick_some (l : List Bd) : (pickL lessB l).isSome = (sqL l).isSome := by
  have := sq_pick l
  cases h1 : pickL lessB l <;> cases h2 : pickL moreB l <;> cases h3 : sqL l <;> simp_all [SqR]
/-- A bound, or none, and the error. -/
abbrev BE := Bd × Int
def distE (r : Rg) (p : Pt) : BE := if r.ok then (if p.ok then (match sqP r p with | some b => (b, 0) | none => (zB, 4)) else (zB, 10)) else (zB, 11)
def gapE (a b : Rg) : BE := if (twoE a b).2.2 = 0 then ((sqP ((twoE a b).1.map2 Bd.minus (twoE a b).2.1) zP).getD zB, 0) else (zB, (twoE a b).2.2)
end Go.Proofs.Ytffpfcomikcimaa
