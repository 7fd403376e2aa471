/-
  Strings that are only read; comparisons of integers of any kind. No condition.
-/
import Derived.Test.YtffpfcomikcimaaSlc
namespace Go.Proofs.Ytffpfcomikcimaa
open Go
class TSg (P : Program) (T : TypeId) : Prop where
  und : P.underlying T = some .string
def byteAt (s : ByteArray) (i : Nat) : Int := match s[i]? with | some b => (b.toNat : Int) | Option.none => 0
section
variable {P : Program} {f : FuncId} {ro : Option Nat} {N : Nat} {k : List Item} {E : Env} {D : List Deferred} {H : Heap} {Q : Out → Heap → Prop}
variable {d : Nat} {x y : Operand} {T T' ty : TypeId} {pos : String} {af : Array Edge} {g : Option (Nat × Bool)} {a b : Int} {kd : IntKind}
theorem vlens {s : ByteArray} {ats : List TypeId} [hT : TSg P T] (hx : ev E x = some (.string s)) :
    OQ P N E D H ⟨some d, .call ⟨.builtin .len, #[x], (T :: ats).toArray⟩, ty, pos, af, g⟩ (.int .i64 (s.size : Int)) :=
  ov (by simp) (fun t w hA hE => by simp [execOp, resolve, invoke, builtin, Builtin.len_, ev_eval hA hx, run_underlying hT.und, goInt])
theorem vixs {s : ByteArray} {i : Int} [hT : TSg P T] (hx : ev E x = some (.string s)) (hy : ev E y = some (.int kd i)) (hi : 0 ≤ i ∧ i < s.size) :
    OQ P N E D H ⟨some d, .index T x y, ty, pos, af, g⟩ (.int .u8 (byteAt s i.toNat)) :=
  ov (by simp) (fun t w hA hE => by
    have hlt : i.toNat < s.size := by omega
    have hg : s[i.toNat]? = some s[i.toNat] := getElem?_pos s i.toNat hlt
    have hb : byteAt s i.toNat = (s[i.toNat].toNat : Int) := by unfold byteAt; rw [hg]
    have hr : (Instr.index T (.string s) (.int kd i)).run P w = .ok (.int .u8 (byteAt s i.toNat)) w := by
      simp only [Instr.index, asIntOf, Sem.run_bind, Sem.run_pure, run_underlying hT.und, Result.andThen]
      rw [if_pos hi.1, hg, hb]
      simp
    simp [execOp, ev_eval hA hx, ev_eval hA hy, hr])
theorem vlssk (hx : ev E x = some (.int kd a)) (hy : ev E y = some (.int kd b)) :
    OQ P N E D H ⟨some d, .binOp .lss T x y T', ty, pos, af, g⟩ (.bool (decide (a < b))) :=
  ov (by simp) (fun t w hA _ => by simp [execOp, ev_eval hA hx, ev_eval hA hy, binOp, eqGuard, Op.intCmp])
theorem vleqk (hx : ev E x = some (.int kd a)) (hy : ev E y = some (.int kd b)) :
    OQ P N E D H ⟨some d, .binOp .leq T x y T', ty, pos, af, g⟩ (.bool (decide (a ≤ b))) :=
  ov (by simp) (fun t w hA _ => by simp [execOp, ev_eval hA hx, ev_eval hA hy, binOp, eqGuard, Op.intCmp])
theorem vgtrk (hx : ev E x = some (.int kd a)) (hy : ev E y = some (.int kd b)) :
    OQ P N E D H ⟨some d, .binOp .gtr T x y T', ty, pos, af, g⟩ (.bool (decide (b < a))) :=
  ov (by simp) (fun t w hA _ => by simp [execOp, ev_eval hA hx, ev_eval hA hy, binOp, eqGuard, Op.intCmp])
theorem vgeqk (hx : ev E x = some (.int kd a)) (hy : ev E y = some (.int kd b)) :
    OQ P N E D H ⟨some d, .binOp .geq T x y T', ty, pos, af, g⟩ (.bool (decide (b ≤ a))) :=
  ov (by simp) (fun t w hA _ => by simp [execOp, ev_eval hA hx, ev_eval hA hy, binOp, eqGuard, Op.intCmp])
end
/-! ### Names -/
def letP (c : Int) : Prop := 97 ≤ c ∧ c ≤ 122
def goodP (s : ByteArray) (i : Nat) : Prop := letP (byteAt s i) ∨ i ≠ 0 ∧ (byteAt s i = 95 ∨ 48 ≤ byteAt s i ∧ byteAt s i ≤ 57)
def nameP (s : ByteArray) : Prop := (1 ≤ s.size ∧ s.size ≤ 16) ∧ ∀ i, i < s.size → goodP s i
noncomputable def nameB (s : ByteArray) : Bool := @decide (nameP s) (Classical.propDecidable _)
theorem nameB_t {s : ByteArray} (h : nameP s) : nameB s = true := by unfold nameB; exact @decide_eq_true _ (Classical.propDecidable _) h
theorem nameB_f {s : ByteArray} (h : ¬ nameP s) : nameB s = false := by unfold nameB; exact @decide_eq_false _ (Classical.propDecidable _) h
end Go.Proofs.Ytffpfcomikcimaa
