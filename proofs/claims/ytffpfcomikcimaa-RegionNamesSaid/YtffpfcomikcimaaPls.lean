/-
  Plain Lean: the search for regions that contradict each other. No condition, no program.
-/
import Derived.Test.YtffpfcomikcimaaPlh
namespace Go.Proofs.Ytffpfcomikcimaa

def atR (l : List Rg) (i : Nat) : Rg := (l[i]?).getD zR
/-- The first list of so many more indices, from one on. -/
def srch (l : List Rg) : Nat → Rg → List Int → Nat → Option (List Int)
  | 0, f, cs, _ => if (tightP f).isSome = true then none else some cs
  | k + 1, f, cs, from_ => (List.range (l.length - from_)).findSome? fun j => srch l k (f.map2 Bd.cut (atR l (from_ + j))) (cs ++ [((from_ + j : Nat) : Int)]) (from_ + j + 1)
/-- One index after another is tried. -/
theorem srch_step (l : List Rg) (k : Nat) (f : Rg) (cs : List Int) (i : Nat) (h : i < l.length) :
    srch l (k + 1) f cs i = (match srch l k (f.map2 Bd.cut (atR l i)) (cs ++ [(i : Int)]) (i + 1) with | some out => some out | none => srch l (k + 1) f cs (i + 1)) := by
  rw [srch, show l.length - i = (l.length - (i + 1)) + 1 by omega, List.range_succ_eq_map, List.findSome?_cons, List.findSome?_map]
  simp only [Nat.add_zero]
  cases srch l k (f.map2 Bd.cut (atR l i)) (cs ++ [(i : Int)]) (i + 1) with
  | some out => rfl
  | none =>
    simp only [srch]
    congr 1
    funext j
    simp only [Function.comp, Nat.succ_eq_add_one]
    rw [show i + (j + 1) = i + 1 + j by omega]
theorem srch_end (l : List Rg) (k : Nat) (f : Rg) (cs : List Int) (i : Nat) (h : ¬ i < l.length) : srch l (k + 1) f cs i = none := by
  rw [srch, show l.length - i = 0 by omega]; rfl
end Go.Proofs.Ytffpfcomikcimaa
