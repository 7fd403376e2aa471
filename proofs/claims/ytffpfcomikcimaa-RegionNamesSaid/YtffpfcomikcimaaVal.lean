/-
  Go's values for the plain data; small lemmas for the ends of walks. No condition.
-/
import Derived.Test.YtffpfcomikcimaaTyp
import Derived.Test.YtffpfcomikcimaaDrw
import Derived.Test.YtffpfcomikcimaaPla
namespace Go.Proofs.Ytffpfcomikcimaa
open Go
abbrev I (n : Int) : Value := .int .i64 n
abbrev bnd (a b : Int) : Value := .agg [I a, I b].toArray
abbrev ag3 (a b c : Int) : Value := .agg [I a, I b, I c].toArray
abbrev ag8 (a b c d e f g h : Int) : Value := .agg [I a, I b, I c, I d, I e, I f, I g, I h].toArray
abbrev vB (b : Bd) : Value := bnd b.lo b.hi
abbrev vP (p : Pt) : Value := bnd p.x p.y
abbrev vR (r : Rg) : Value := ag8 r.x.lo r.x.hi r.y.lo r.y.hi r.s.lo r.s.hi r.d.lo r.d.hi
abbrev tup (l : List Value) : Value := .tuple l.toArray
abbrev fnv (g : Nat) : Value := .func (.func g) #[] #[]

theorem Try.mixed : Try.prog.follows .mixedOrders = true := by kernel_rfl

theorem obt {p : Prop} {_ : Decidable p} (h : p) : Out.val (.bool true) = Out.val (.bool (decide p)) := by simp [h]
theorem obf {p : Prop} {_ : Decidable p} (h : ¬ p) : Out.val (.bool false) = Out.val (.bool (decide p)) := by simp [h]
theorem obd {p q : Prop} {_ : Decidable p} {_ : Decidable q} (h : p ↔ q) : Out.val (.bool (decide p)) = Out.val (.bool (decide q)) := by
  congr 2; exact decide_eq_decide.2 h
end Go.Proofs.Ytffpfcomikcimaa
