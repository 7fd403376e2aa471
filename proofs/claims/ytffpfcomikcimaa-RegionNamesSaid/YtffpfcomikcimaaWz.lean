/-
  Contracts whose results are known otherwise.
-/
import Derived.Test.YtffpfcomikcimaaWy
namespace Go.Proofs.Ytffpfcomikcimaa
open Go
set_option maxRecDepth 100000

section
variable {P : Program} {k : FuncId} {xs : List Value}
theorem VPure.reR {X : RE} {a : Rg} {b : Int} (h : VPure P k xs (tup [vR X.1, I X.2])) (e : X = (a, b)) : VPure P k xs (tup [vR a, I b]) := by rw [e] at h; exact h
theorem VPure.reI {X : Int × Int} {a b : Int} (h : VPure P k xs (tup [I X.1, I X.2])) (e : X = (a, b)) : VPure P k xs (tup [I a, I b]) := by rw [e] at h; exact h
theorem VPure.reB {X : BE} {a : Bd} {b : Int} (h : VPure P k xs (tup [vB X.1, I X.2])) (e : X = (a, b)) : VPure P k xs (tup [vB a, I b]) := by rw [e] at h; exact h
theorem VPure.reT {X : Bool × Int} {a : Bool} {b : Int} (h : VPure P k xs (tup [.bool X.1, I X.2])) (e : X = (a, b)) : VPure P k xs (tup [.bool a, I b]) := by rw [e] at h; exact h
theorem VPure.reK {X : Pk × Int} {a : Pk} {b : Int} (h : VPure P k xs (tup [vK X.1, I X.2])) (e : X = (a, b)) : VPure P k xs (tup [vK a, I b]) := by rw [e] at h; exact h
theorem VPure.reC {v : Value} {a b : Bool} (h : VPure P k xs (tup [v, .bool a])) (e : a = b) : VPure P k xs (tup [v, .bool b]) := by rw [e] at h; exact h
theorem VHas.reT {A B : Heap} {X : Bool × Int} {a : Bool} {b : Int} (h : VHas P k xs (tup [.bool X.1, I X.2]) A B) (e : X = (a, b)) : VHas P k xs (tup [.bool a, I b]) A B := by rw [e] at h; exact h
theorem VHas.reP {A B : Heap} {X : Pt × Int} {a : Pt} {b : Int} (h : VHas P k xs (tup [vP X.1, I X.2]) A B) (e : X = (a, b)) : VHas P k xs (tup [vP a, I b]) A B := by rw [e] at h; exact h
end
theorem sq_bd {a m : Int} (h : -m ≤ a ∧ a ≤ m) : 0 ≤ a * a ∧ a * a ≤ m * m := ⟨sq_nn a, sq_abs_le h⟩
theorem mul_rng {a b m s : Int} (ha : 0 ≤ a ∧ a ≤ m) (hb : -s ≤ b ∧ b ≤ s) : -(m * s) ≤ a * b ∧ a * b ≤ m * s := by
  have h1 : a * b ≤ a * s := Int.mul_le_mul_of_nonneg_left hb.2 ha.1
  have h2 : a * -s ≤ a * b := Int.mul_le_mul_of_nonneg_left hb.1 ha.1
  have h3 : a * s ≤ m * s := Int.mul_le_mul_of_nonneg_right ha.2 (by omega)
  rw [Int.mul_neg] at h2
  omega
theorem InR_of {n m : Int} (hm : 0 ≤ m ∧ m ≤ 4611686018427387904) (h : -m ≤ n ∧ n ≤ m) : InR n := by unfold InR; omega

end Go.Proofs.Ytffpfcomikcimaa
