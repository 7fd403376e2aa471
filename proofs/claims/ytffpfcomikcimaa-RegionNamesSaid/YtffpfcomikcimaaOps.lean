/-
  The engine's rules for a region's operations, one by one, in the order of the text. No condition.
-/
import Derived.Test.YtffpfcomikcimaaEng
import Derived.Laws.StructEq
import Derived.WalkKit
namespace Go.Proofs.Ytffpfcomikcimaa
open Go

section
variable {P : Program} {f : FuncId} {ro : Option Nat} {N : Nat} {k : List Item} {E : Env} {D : List Deferred} {H : Heap} {Q : Out → Heap → Prop}
variable {ops : Array Oper} {l : List Oper}

/-- What remains of a region: these operations, in this order. -/
def VL (P : Program) (f : FuncId) (ro : Option Nat) (N : Nat) (ops : Array Oper) (l : List Oper) (k : List Item) (E : Env) (D : List Deferred) (H : Heap) (Q : Out → Heap → Prop) : Prop :=
  ∀ is : List Nat, is.map (ops[·]?) = l.map some → VRun P f ro N (.inRegion ops is :: k) E D H Q

/-- The next operation, its guard met. -/
def VX (P : Program) (f : FuncId) (ro : Option Nat) (N : Nat) (ops : Array Oper) (o : Oper) (l : List Oper) (k : List Item) (E : Env) (D : List Deferred) (H : Heap) (Q : Out → Heap → Prop) : Prop :=
  ∀ (i : Nat) (is : List Nat), ops[i]? = some o → is.map (ops[·]?) = l.map some → (∀ t, Agree N E t → Region.wanted o (yielded ops t) = true) →
    VRun P f ro N (.inRegion ops (i :: is) :: k) E D H Q

theorem vnil (h : VRun P f ro N k E D H Q) : VL P f ro N ops [] k E D H Q := by
  intro is his
  have : is = [] := by simpa using his
  subst this
  exact vregend h

theorem vregion {id : Nat} {l : List Oper} (h : VL P f ro N l.toArray l k E D H Q) : VRun P f ro N (.code (.region id l.toArray false) :: k) E D H Q := by
  refine vregion0 (h _ ?_)
  simp only [List.size_toArray]
  refine List.ext_getElem? fun i => ?_
  simp only [List.getElem?_map, List.getElem?_toArray]
  by_cases hi : i < l.length
  · simp [List.getElem?_range hi, hi]
  · have h1 : (List.range l.length)[i]? = Option.none := List.getElem?_eq_none (by simpa using hi)
    have h2 : l[i]? = Option.none := List.getElem?_eq_none (by simpa using hi)
    simp [h1, h2]

theorem vone {o : Oper} (hg : o.guard = Option.none) (h : VX P f ro N ops o l k E D H Q) : VL P f ro N ops (o :: l) k E D H Q := by
  intro is his
  cases is with
  | nil => simp at his
  | cons i is =>
    simp only [List.map_cons, List.cons.injEq] at his
    exact h i is his.1 his.2 (fun t _ => by simp [Region.wanted, hg])

theorem yielded_of {j d : Nat} {b : Bool} {t : Array Value} (hA : Agree N E t) (hd : (ops[j]?).bind (·.dst) = some d) (hb : look E d = some (.bool b)) : yielded ops t j = some b := by
  have h := hA.val d _ hb
  unfold yielded
  rw [hd]
  simp only [Option.bind_some]
  by_cases hs : d < t.size
  · simp only [Array.getD_eq_getD_getElem?, Array.getElem?_eq_getElem hs, Option.getD_some] at h
    simp [Array.getElem?_eq_getElem hs, h]
  · have : t.getD d undef = undef := by simp [Array.getD, hs]
    rw [this] at h
    simp [undef] at h

theorem yielded_undef {j d : Nat} {t : Array Value} (hA : Agree N E t) (hd : (ops[j]?).bind (·.dst) = some d) (hb : look E d = some undef) : yielded ops t j = Option.none := by
  have h := hA.val d _ hb
  unfold yielded
  rw [hd]
  simp only [Option.bind_some]
  by_cases hs : d < t.size
  · simp only [Array.getD_eq_getD_getElem?, Array.getElem?_eq_getElem hs, Option.getD_some] at h
    simp [Array.getElem?_eq_getElem hs, h, undef]
  · simp [hs]

theorem vyes {o : Oper} {j d : Nat} {want : Bool} (hg : o.guard = some (j, want)) (hd : (ops[j]?).bind (·.dst) = some d) (hb : look E d = some (.bool want)) (h : VX P f ro N ops o l k E D H Q) :
    VL P f ro N ops (o :: l) k E D H Q := by
  intro is his
  cases is with
  | nil => simp at his
  | cons i is =>
    simp only [List.map_cons, List.cons.injEq] at his
    exact h i is his.1 his.2 (fun t hA => by simp [Region.wanted, hg, yielded_of hA hd hb])

def upd (E : Env) (d : Option Nat) (v : Value) : Env := match d with | some d => (d, v) :: E | Option.none => E

theorem Agree.upd {t : Array Value} (hA : Agree N E t) {o : Option Nat} (hN : ∀ d, o = some d → d < N) (v : Value) (D : List Deferred) : Agree N (upd E o v) ((Act.put ⟨t, D⟩ o v).tmps) := by
  cases o with
  | none => exact hA
  | some d => exact hA.put (hN d rfl) v

theorem put_defers (t : Array Value) (o : Option Nat) (v : Value) : Act.put ⟨t, D⟩ o v = ⟨(Act.put ⟨t, D⟩ o v).tmps, D⟩ := by cases o <;> rfl

theorem vno {o : Oper} {j d d' : Nat} {want : Bool} (hg : o.guard = some (j, want)) (hd : (ops[j]?).bind (·.dst) = some d) (hb : look E d = some (.bool (!want))) (ho : o.dst = some d') (hN : Nat.blt d' N = true)
    (h : VL P f ro N ops l k ((d', undef) :: E) D H Q) : VL P f ro N ops (o :: l) k E D H Q := by
  intro is his
  cases is with
  | nil => simp at his
  | cons i is =>
    simp only [List.map_cons, List.cons.injEq] at his
    have hlt : d' < N := Nat.le_of_ble_eq_true hN
    refine .stp fun t w cs hA hE => ⟨t.setIfInBounds d' undef, w, .inRegion ops is :: k, (d', undef) :: E, D, H, ?_, hA.put hlt undef, Fr.refl hE, h is his.2⟩
    have hs := stepR_op_skip (P := P) (b := bas f ro) (a := ⟨t, D⟩) (k := k) (cs := cs) (w := w) (ops := ops) (i := i) (rest := is)
      (by simp [his.1, Region.wanted, hg, yielded_of hA hd hb])
    simp only [his.1, Option.bind_some, ho, Act.put] at hs
    exact .one hs

theorem vnou {o : Oper} {j d d' : Nat} {want : Bool} (hg : o.guard = some (j, want)) (hd : (ops[j]?).bind (·.dst) = some d) (hb : look E d = some undef) (ho : o.dst = some d') (hN : Nat.blt d' N = true)
    (h : VL P f ro N ops l k ((d', undef) :: E) D H Q) : VL P f ro N ops (o :: l) k E D H Q := by
  intro is his
  cases is with
  | nil => simp at his
  | cons i is =>
    simp only [List.map_cons, List.cons.injEq] at his
    have hlt : d' < N := Nat.le_of_ble_eq_true hN
    refine .stp fun t w cs hA hE => ⟨t.setIfInBounds d' undef, w, .inRegion ops is :: k, (d', undef) :: E, D, H, ?_, hA.put hlt undef, Fr.refl hE, h is his.2⟩
    have hs := stepR_op_skip (P := P) (b := bas f ro) (a := ⟨t, D⟩) (k := k) (cs := cs) (w := w) (ops := ops) (i := i) (rest := is)
      (by simp [his.1, Region.wanted, hg, yielded_undef hA hd hb])
    simp only [his.1, Option.bind_some, ho, Act.put] at hs
    exact .one hs

/-! ### One operation -/
/-- What an operation has come to: a value; a call (or a round) that comes back with one. -/
def NGo (P : Program) (n : Next) (w : World) (R : Value → World → Prop) : Prop :=
  match n with
  | .value v => R v w
  | .skip => R undef w
  | .enter g args => ∀ (c : Frame) (cs : List Frame), ∃ v w', R v w' ∧ Steps P (lone (Frame.enter P g args .normal) (c :: cs) w) (lone (c.finish v) cs w')
  | .round l g tmps assign body => ∀ (c : Frame) (cs : List Frame), ∃ v w', R v w' ∧ Steps P (lone (Frame.round l g tmps assign body .normal) (c :: cs) w) (lone (c.finish v) cs w')
  | _ => False

theorem NGo.mono {n : Next} {w : World} {R R' : Value → World → Prop} (h : NGo P n w R) (hr : ∀ v w', R v w' → R' v w') : NGo P n w R' := by
  cases n <;> simp only [NGo] at h ⊢ <;> first | exact hr _ _ h | exact (fun c cs => let ⟨v, w', r, s⟩ := h c cs; ⟨v, w', hr _ _ r, s⟩) | exact h

/-- What is known of an operation: in every world that holds the blocks it comes to a value, and to blocks, of which R holds. -/
structure OG (P : Program) (N : Nat) (E : Env) (D : List Deferred) (H : Heap) (o : Oper) (R : Value → Heap → Prop) : Prop where
  nodef : ∀ c, o.op ≠ .defer c
  go : ∀ (t : Array Value) (w : World), Agree N E t → Emb H w → ∃ n w1, (execOp (Act.eval ⟨t, D⟩) o).run P w = .ok n w1 ∧ NGo P n w1 (fun v w2 => ∃ H', Fr H w H' w2 ∧ R v H')

/-- A quiet operation: one value, and nothing turns that was known. -/
abbrev OQ (P : Program) (N : Nat) (E : Env) (D : List Deferred) (H : Heap) (o : Oper) (v : Value) : Prop := OG P N E D H o (fun u H' => u = v ∧ H' = H)

theorem ov {o : Oper} {v : Value} (hdef : ∀ c, o.op ≠ .defer c) (h : ∀ (t : Array Value) (w : World), Agree N E t → Emb H w → (execOp (Act.eval ⟨t, D⟩) o).run P w = .ok (.value v) w) : OQ P N E D H o v :=
  ⟨hdef, fun t w hA hE => ⟨_, w, h t w hA hE, H, Fr.refl hE, rfl, rfl⟩⟩

theorem vx_gen {o : Oper} {R : Value → Heap → Prop} (h : OG P N E D H o R) (hN : ∀ d, o.dst = some d → d < N) (hL : ∀ v H', R v H' → VL P f ro N ops l k (upd E o.dst v) D H' Q) : VX P f ro N ops o l k E D H Q := by
  intro i is hi his hw
  refine .stp fun t w cs hA hE => ?_
  obtain ⟨n, w1, hr, hn⟩ := h.go t w hA hE
  have hg := stepGR_op (P := P) (b := bas f ro) (a := ⟨t, D⟩) (k := k) (cs := cs) (w := w) (rest := is) hi (hw t hA)
  rw [Oper.semAt_eq _ _ _ h.nodef] at hg
  have hfin : ∀ v, ((bas f ro).atR ⟨t, D⟩ (.inRegion ops (i :: is) :: k)).finish v = (bas f ro).atR (Act.put ⟨t, D⟩ o.dst v) (.inRegion ops is :: k) := by
    intro v; rw [Frame.finish_atR, hi]; rfl
  have key : ∀ v w' H', Fr H w H' w' → R v H' → Steps P (lone ((bas f ro).atR ⟨t, D⟩ (.inRegion ops (i :: is) :: k)) cs w) (lone ((bas f ro).atR (Act.put ⟨t, D⟩ o.dst v) (.inRegion ops is :: k)) cs w') →
      ∃ t' w' k' E' D' H', Steps P (lone ((bas f ro).atR ⟨t, D⟩ (.inRegion ops (i :: is) :: k)) cs w) (lone ((bas f ro).atR ⟨t', D'⟩ k') cs w') ∧ Agree N E' t' ∧ Fr H w H' w' ∧ VRun P f ro N k' E' D' H' Q := by
    intro v w' H' hF hR hs
    exact ⟨(Act.put ⟨t, D⟩ o.dst v).tmps, w', .inRegion ops is :: k, upd E o.dst v, D, H', by rw [← put_defers]; exact hs, hA.upd hN v D, hF, hL v H' hR is his⟩
  cases n <;> simp only [NGo] at hn
  case value v =>
    obtain ⟨H', hF, hR⟩ := hn
    refine key v w1 H' hF hR (.one (step_lone_go ?_))
    rw [hg, ← hfin]; simp [stepG.apply, hr]
  case skip =>
    obtain ⟨H', hF, hR⟩ := hn
    refine key undef w1 H' hF hR (.one (step_lone_go ?_))
    rw [hg, ← hfin]; simp [stepG.apply, hr]
  case enter g args =>
    obtain ⟨v, w', ⟨H', hF, hR⟩, hs⟩ := hn ((bas f ro).atR ⟨t, D⟩ (.inRegion ops (i :: is) :: k)) cs
    refine key v w' H' hF hR (.head (step_lone_go ?_) (by rw [← hfin]; exact hs))
    rw [hg]; simp [stepG.apply, hr, Frame.atR]
  case round l g tmps assign body =>
    obtain ⟨v, w', ⟨H', hF, hR⟩, hs⟩ := hn ((bas f ro).atR ⟨t, D⟩ (.inRegion ops (i :: is) :: k)) cs
    refine key v w' H' hF hR (.head (step_lone_go ?_) (by rw [← hfin]; exact hs))
    rw [hg]; simp [stepG.apply, hr, Frame.atR]

theorem vxg {o : Oper} {d : Nat} {R : Value → Heap → Prop} (h : OG P N E D H o R) (ho : o.dst = some d) (hN : Nat.blt d N = true) (hL : ∀ v H', R v H' → VL P f ro N ops l k ((d, v) :: E) D H' Q) : VX P f ro N ops o l k E D H Q :=
  vx_gen h (fun d' hd' => by rw [ho] at hd'; cases hd'; exact Nat.le_of_ble_eq_true hN) (fun v H' hR => by rw [ho]; exact hL v H' hR)
theorem vxq {o : Oper} {d : Nat} {v : Value} (h : OQ P N E D H o v) (ho : o.dst = some d) (hN : Nat.blt d N = true) (hL : VL P f ro N ops l k ((d, v) :: E) D H Q) : VX P f ro N ops o l k E D H Q :=
  vxg h ho hN (fun u H' hR => by obtain ⟨rfl, rfl⟩ := hR; exact hL)
theorem vxs {o : Oper} {H1 : Heap} (h : OG P N E D H o (fun _ H' => H' = H1)) (ho : o.dst = Option.none) (hL : VL P f ro N ops l k E D H1 Q) : VX P f ro N ops o l k E D H Q :=
  vx_gen h (fun d' hd' => by rw [ho] at hd'; cases hd') (fun v H' hR => by subst hR; rw [ho]; exact hL)
/-- A new block. -/
def OA (P : Program) (N : Nat) (E : Env) (D : List Deferred) (o : Oper) (ob : Obj) : Prop := (∀ c, o.op ≠ .defer c) ∧
  ∀ (t : Array Value) (w : World), Agree N E t → (execOp (Act.eval ⟨t, D⟩) o).run P w = .ok (.value (.pointer (some ⟨w.heap.size, 0, Option.none⟩))) { w with heap := w.heap.push ob }

/-! ### Values -/
def InR (n : Int) : Prop := -9223372036854775808 ≤ n ∧ n ≤ 9223372036854775807
theorem wrap_id {n : Int} (h : InR n) : IntKind.i64.wrap n = n := by
  rw [IntKind.wrap_i64]
  have h1 := h.1
  have h2 := h.2
  omega

theorem vmv {d : Nat} {x : Operand} {v : Value} {ty : TypeId} {pos : String} {af : Array Edge} {g : Option (Nat × Bool)} (hx : ev E x = some v) :
    OQ P N E D H ⟨some d, .move x, ty, pos, af, g⟩ v :=
  ov (by simp) (fun t w hA _ => by simp [execOp, ev_eval hA hx])

theorem vas {d : Nat} {x : Operand} {v : Value} {ty : TypeId} {pos : String} {af : Array Edge} {g : Option (Nat × Bool)} (hx : ev E x = some v) :
    OQ P N E D H ⟨some d, .assign x, ty, pos, af, g⟩ v :=
  ov (by simp) (fun t w hA _ => by simp [execOp, ev_eval hA hx])

theorem vpkt {d : Nat} {c a b : Operand} {v : Value} {ty : TypeId} {pos : String} {af : Array Edge} {g : Option (Nat × Bool)} (hc : ev E c = some (.bool true)) (hx : ev E a = some v) :
    OQ P N E D H ⟨some d, .pick c a b, ty, pos, af, g⟩ v :=
  ov (by simp) (fun t w hA _ => by simp [execOp, ev_eval hA hx, ev_eval hA hc, asBool])

theorem vpkf {d : Nat} {c a b : Operand} {v : Value} {ty : TypeId} {pos : String} {af : Array Edge} {g : Option (Nat × Bool)} (hc : ev E c = some (.bool false)) (hx : ev E b = some v) :
    OQ P N E D H ⟨some d, .pick c a b, ty, pos, af, g⟩ v :=
  ov (by simp) (fun t w hA _ => by simp [execOp, ev_eval hA hx, ev_eval hA hc, asBool])

/-- A symbolic truth value in a slot is parted on. -/
theorem vsplit {d : Nat} {b : Bool} (hb : look E d = some (.bool b)) (ht : b = true → VL P f ro N ops l k ((d, .bool true) :: E) D H Q) (hf : b = false → VL P f ro N ops l k ((d, .bool false) :: E) D H Q) :
    VL P f ro N ops l k E D H Q := by
  have key : ∀ b', b = b' → VL P f ro N ops l k ((d, .bool b') :: E) D H Q → VL P f ro N ops l k E D H Q := by
    intro b' hbb h is his
    refine VRun.weak (E' := (d, .bool b') :: E) (fun i v hi => ?_) (h is his)
    rw [look_cons] at hi
    by_cases e : i = d
    · subst e; rw [if_pos rfl] at hi; rw [hb, hbb]; exact hi
    · rw [if_neg e] at hi; exact hi
  cases b
  · exact key false rfl (hf rfl)
  · exact key true rfl (ht rfl)

theorem vsplitd {d : Nat} {p : Prop} {_ : Decidable p} (hb : look E d = some (.bool (decide p))) (ht : p → VL P f ro N ops l k ((d, .bool true) :: E) D H Q) (hf : ¬ p → VL P f ro N ops l k ((d, .bool false) :: E) D H Q) :
    VL P f ro N ops l k E D H Q := vsplit hb (fun h => ht (of_decide_eq_true h)) (fun h => hf (of_decide_eq_false h))
theorem vcondd {c : Operand} {x y : Code} {p : Prop} {_ : Decidable p} (hc : ev E c = some (.bool (decide p))) (ht : p → VRun P f ro N (.code x :: k) E D H Q) (hf : ¬ p → VRun P f ro N (.code y :: k) E D H Q) :
    VRun P f ro N (.code (.cond c x y) :: k) E D H Q := vcond hc (fun h => ht (of_decide_eq_true h)) (fun h => hf (of_decide_eq_false h))
/-- A truth value that is known by a fact. -/
theorem vknow {d : Nat} {b b' : Bool} (hb : look E d = some (.bool b)) (hbb : b = b') (h : VL P f ro N ops l k ((d, .bool b') :: E) D H Q) : VL P f ro N ops l k E D H Q := by
  subst hbb
  cases b
  · exact vsplit hb (fun h => by cases h) (fun _ => h)
  · exact vsplit hb (fun _ => h) (fun h => by cases h)

section arith
variable {d : Nat} {x y : Operand} {a b : Int} {T T' ty : TypeId} {pos : String} {af : Array Edge} {g : Option (Nat × Bool)}

theorem vadd (hx : ev E x = some (.int .i64 a)) (hy : ev E y = some (.int .i64 b)) (hr : InR (a + b)) :
    OQ P N E D H ⟨some d, .binOp .add T x y T', ty, pos, af, g⟩ (.int .i64 (a + b)) :=
  ov (by simp) (fun t w hA _ => by simp [execOp, ev_eval hA hx, ev_eval hA hy, binOp, eqGuard, Op.intArith, wrap_id hr])
theorem vsub (hx : ev E x = some (.int .i64 a)) (hy : ev E y = some (.int .i64 b)) (hr : InR (a - b)) :
    OQ P N E D H ⟨some d, .binOp .sub T x y T', ty, pos, af, g⟩ (.int .i64 (a - b)) :=
  ov (by simp) (fun t w hA _ => by simp [execOp, ev_eval hA hx, ev_eval hA hy, binOp, eqGuard, Op.intArith, wrap_id hr])
theorem vmul (hx : ev E x = some (.int .i64 a)) (hy : ev E y = some (.int .i64 b)) (hr : InR (a * b)) :
    OQ P N E D H ⟨some d, .binOp .mul T x y T', ty, pos, af, g⟩ (.int .i64 (a * b)) :=
  ov (by simp) (fun t w hA _ => by simp [execOp, ev_eval hA hx, ev_eval hA hy, binOp, eqGuard, Op.intArith, wrap_id hr])
theorem vaddw (hx : ev E x = some (.int .i64 a)) (hy : ev E y = some (.int .i64 b)) :
    OQ P N E D H ⟨some d, .binOp .add T x y T', ty, pos, af, g⟩ (.int .i64 (IntKind.i64.wrap (a + b))) :=
  ov (by simp) (fun t w hA _ => by simp [execOp, ev_eval hA hx, ev_eval hA hy, binOp, eqGuard, Op.intArith])
theorem vsubw (hx : ev E x = some (.int .i64 a)) (hy : ev E y = some (.int .i64 b)) :
    OQ P N E D H ⟨some d, .binOp .sub T x y T', ty, pos, af, g⟩ (.int .i64 (IntKind.i64.wrap (a - b))) :=
  ov (by simp) (fun t w hA _ => by simp [execOp, ev_eval hA hx, ev_eval hA hy, binOp, eqGuard, Op.intArith])
theorem vmulw (hx : ev E x = some (.int .i64 a)) (hy : ev E y = some (.int .i64 b)) :
    OQ P N E D H ⟨some d, .binOp .mul T x y T', ty, pos, af, g⟩ (.int .i64 (IntKind.i64.wrap (a * b))) :=
  ov (by simp) (fun t w hA _ => by simp [execOp, ev_eval hA hx, ev_eval hA hy, binOp, eqGuard, Op.intArith])
theorem vquo (hx : ev E x = some (.int .i64 a)) (hy : ev E y = some (.int .i64 b)) (hb : b ≠ 0) (hr : InR (a.tdiv b)) :
    OQ P N E D H ⟨some d, .binOp .quo T x y T', ty, pos, af, g⟩ (.int .i64 (a.tdiv b)) :=
  ov (by simp) (fun t w hA _ => by simp [execOp, ev_eval hA hx, ev_eval hA hy, binOp, eqGuard, Op.intDiv, wrap_id hr, hb])
theorem vrem (hx : ev E x = some (.int .i64 a)) (hy : ev E y = some (.int .i64 b)) (hb : b ≠ 0) :
    OQ P N E D H ⟨some d, .binOp .rem T x y T', ty, pos, af, g⟩ (.int .i64 (a.tmod b)) :=
  ov (by simp) (fun t w hA _ => by simp [execOp, ev_eval hA hx, ev_eval hA hy, binOp, eqGuard, Op.intDiv, hb])
theorem vlss (hx : ev E x = some (.int .i64 a)) (hy : ev E y = some (.int .i64 b)) :
    OQ P N E D H ⟨some d, .binOp .lss T x y T', ty, pos, af, g⟩ (.bool (decide (a < b))) :=
  ov (by simp) (fun t w hA _ => by simp [execOp, ev_eval hA hx, ev_eval hA hy, binOp, eqGuard, Op.intCmp])
theorem vleq (hx : ev E x = some (.int .i64 a)) (hy : ev E y = some (.int .i64 b)) :
    OQ P N E D H ⟨some d, .binOp .leq T x y T', ty, pos, af, g⟩ (.bool (decide (a ≤ b))) :=
  ov (by simp) (fun t w hA _ => by simp [execOp, ev_eval hA hx, ev_eval hA hy, binOp, eqGuard, Op.intCmp])
theorem vgtr (hx : ev E x = some (.int .i64 a)) (hy : ev E y = some (.int .i64 b)) :
    OQ P N E D H ⟨some d, .binOp .gtr T x y T', ty, pos, af, g⟩ (.bool (decide (b < a))) :=
  ov (by simp) (fun t w hA _ => by simp [execOp, ev_eval hA hx, ev_eval hA hy, binOp, eqGuard, Op.intCmp])
theorem vgeq (hx : ev E x = some (.int .i64 a)) (hy : ev E y = some (.int .i64 b)) :
    OQ P N E D H ⟨some d, .binOp .geq T x y T', ty, pos, af, g⟩ (.bool (decide (b ≤ a))) :=
  ov (by simp) (fun t w hA _ => by simp [execOp, ev_eval hA hx, ev_eval hA hy, binOp, eqGuard, Op.intCmp])
theorem veql {kd : IntKind} (hx : ev E x = some (.int kd a)) (hy : ev E y = some (.int kd b)) :
    OQ P N E D H ⟨some d, .binOp .eql T x y T', ty, pos, af, g⟩ (.bool (decide (a = b))) :=
  ov (by simp) (fun t w hA _ => by simp [execOp, ev_eval hA hx, ev_eval hA hy, binOp, eqGuard, Op.intCmp, BEq.beq])
theorem vneq {kd : IntKind} (hx : ev E x = some (.int kd a)) (hy : ev E y = some (.int kd b)) :
    OQ P N E D H ⟨some d, .binOp .neq T x y T', ty, pos, af, g⟩ (.bool (decide (a ≠ b))) :=
  ov (by simp) (fun t w hA _ => by simp [execOp, ev_eval hA hx, ev_eval hA hy, binOp, eqGuard, Op.intCmp, bne, BEq.beq])
theorem vneg (hx : ev E x = some (.int .i64 a)) (hr : InR (-a)) :
    OQ P N E D H ⟨some d, .unOp .neg T x, ty, pos, af, g⟩ (.int .i64 (-a)) :=
  ov (by simp) (fun t w hA _ => by simp [execOp, ev_eval hA hx, Op.unary, Op.intArith, wrap_id hr])
theorem vnegw (hx : ev E x = some (.int .i64 a)) :
    OQ P N E D H ⟨some d, .unOp .neg T x, ty, pos, af, g⟩ (.int .i64 (IntKind.i64.wrap (-a))) :=
  ov (by simp) (fun t w hA _ => by simp [execOp, ev_eval hA hx, Op.unary, Op.intArith])
theorem vnot {b : Bool} (hx : ev E x = some (.bool b)) :
    OQ P N E D H ⟨some d, .unOp .not T x, ty, pos, af, g⟩ (.bool (!b)) :=
  ov (by simp) (fun t w hA _ => by simp [execOp, ev_eval hA hx, Op.unary])
theorem vnotd {p : Prop} {_ : Decidable p} (hx : ev E x = some (.bool (decide p))) :
    OQ P N E D H ⟨some d, .unOp .not T x, ty, pos, af, g⟩ (.bool (decide (¬ p))) :=
  ov (by simp) (fun t w hA _ => by simp [execOp, ev_eval hA hx, Op.unary])
theorem vmin2 {ats : Array TypeId} (hx : ev E x = some (.int .i64 a)) (hy : ev E y = some (.int .i64 b)) :
    OQ P N E D H ⟨some d, .call ⟨.builtin .min, #[x, y], ats⟩, ty, pos, af, g⟩ (.int .i64 (min a b)) :=
  ov (by simp) (fun t w hA _ => by
    have : (if b < a then b else a) = min a b := by omega
    simp [execOp, resolve, invoke, builtin, Builtin.min_, Builtin.min2, ev_eval hA hx, ev_eval hA hy, this])
theorem vmax2 {ats : Array TypeId} (hx : ev E x = some (.int .i64 a)) (hy : ev E y = some (.int .i64 b)) :
    OQ P N E D H ⟨some d, .call ⟨.builtin .max, #[x, y], ats⟩, ty, pos, af, g⟩ (.int .i64 (max a b)) :=
  ov (by simp) (fun t w hA _ => by
    have : (if a < b then b else a) = max a b := by omega
    simp [execOp, resolve, invoke, builtin, Builtin.max_, Builtin.max2, ev_eval hA hx, ev_eval hA hy, this])
theorem vmin3 {z : Operand} {c : Int} {ats : Array TypeId} (hx : ev E x = some (.int .i64 a)) (hy : ev E y = some (.int .i64 b)) (hz : ev E z = some (.int .i64 c)) :
    OQ P N E D H ⟨some d, .call ⟨.builtin .min, #[x, y, z], ats⟩, ty, pos, af, g⟩ (.int .i64 (min (min a b) c)) :=
  ov (by simp) (fun t w hA _ => by
    have h1 : (if b < a then b else a) = min a b := by omega
    have h2 : (if c < min a b then c else min a b) = min (min a b) c := by omega
    simp [execOp, resolve, invoke, builtin, Builtin.min_, Builtin.min2, ev_eval hA hx, ev_eval hA hy, ev_eval hA hz, h1, h2])
theorem vmax3 {z : Operand} {c : Int} {ats : Array TypeId} (hx : ev E x = some (.int .i64 a)) (hy : ev E y = some (.int .i64 b)) (hz : ev E z = some (.int .i64 c)) :
    OQ P N E D H ⟨some d, .call ⟨.builtin .max, #[x, y, z], ats⟩, ty, pos, af, g⟩ (.int .i64 (max (max a b) c)) :=
  ov (by simp) (fun t w hA _ => by
    have h1 : (if a < b then b else a) = max a b := by omega
    have h2 : (if max a b < c then c else max a b) = max (max a b) c := by omega
    simp [execOp, resolve, invoke, builtin, Builtin.max_, Builtin.max2, ev_eval hA hx, ev_eval hA hy, ev_eval hA hz, h1, h2])
end arith
end
end Go.Proofs.Ytffpfcomikcimaa
