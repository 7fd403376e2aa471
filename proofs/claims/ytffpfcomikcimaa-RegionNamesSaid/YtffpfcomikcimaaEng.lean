/-
  The engine of this claim's walks: a run of one activation ('VRun') over partial knowledge of its temporaries (an association list) and of the blocks that it may look at (a list of blocks with their contents); everything else is untouched. No condition.
-/
import Derived.RangeFuncIn
import Derived.Orders
import Derived.KernelRfl
namespace Go.Proofs.Ytffpfcomikcimaa
open Go

/-! ### Knowledge -/
abbrev Heap := List (Nat × Obj)
abbrev Env := List (Nat × Value)

def look : Env → Nat → Option Value
  | [], _ => Option.none
  | (j, v) :: r, i => bif Nat.beq i j then some v else look r i

theorem look_cons (j i : Nat) (v : Value) (r : Env) : look ((j, v) :: r) i = if i = j then some v else look r i := by
  show (bif Nat.beq i j then some v else look r i) = _
  by_cases h : i = j
  · subst h; simp
  · have : Nat.beq i j = false := by
      cases hb : Nat.beq i j
      · rfl
      · exact absurd (Nat.eq_of_beq_eq_true hb) h
    simp [this, h]

structure Agree (N : Nat) (E : Env) (t : Array Value) : Prop where
  size : t.size = N
  val : ∀ i v, look E i = some v → t.getD i undef = v

theorem Agree.put {N : Nat} {E : Env} {t : Array Value} (h : Agree N E t) {d : Nat} (hd : d < N) (v : Value) : Agree N ((d, v) :: E) (t.setIfInBounds d v) := by
  refine ⟨by simp [h.size], fun i u hi => ?_⟩
  rw [look_cons] at hi
  by_cases e : i = d
  · subst e
    rw [if_pos rfl] at hi
    have hs : i < t.size := by rw [h.size]; exact hd
    simp at hi
    subst hi
    simp [Array.getD, hs]
  · rw [if_neg e] at hi
    have := h.val i u hi
    rw [← this]
    simp only [Array.getD_eq_getD_getElem?]
    rw [Array.getElem?_setIfInBounds_ne (Ne.symm e)]

theorem Agree.weak {N : Nat} {E E' : Env} {t : Array Value} (h : Agree N E t) (hs : ∀ i v, look E' i = some v → look E i = some v) : Agree N E' t :=
  ⟨h.size, fun i v hv => h.val i v (hs i v hv)⟩

structure Emb (H : Heap) (w : World) : Prop where
  nodup : (H.map Prod.fst).Nodup
  at_ : ∀ e ∈ H, w.heap[e.1]? = some e.2

structure Fr (H : Heap) (w : World) (H' : Heap) (w' : World) : Prop where
  os : w'.os = w.os
  tape : w'.tape = w.tape
  output : w'.output = w.output
  size : w.heap.size ≤ w'.heap.size
  keep : ∀ k, k < w.heap.size → k ∉ H.map Prod.fst → w'.heap[k]? = w.heap[k]?
  emb : Emb H' w'
  dom : ∀ e ∈ H', e.1 ∈ H.map Prod.fst ∨ w.heap.size ≤ e.1

theorem Emb.lt {H : Heap} {w : World} (h : Emb H w) {e : Nat × Obj} (he : e ∈ H) : e.1 < w.heap.size := by
  have := h.at_ e he
  exact (Array.getElem?_eq_some_iff.1 this).1

theorem Fr.refl {H : Heap} {w : World} (h : Emb H w) : Fr H w H w :=
  ⟨rfl, rfl, rfl, Nat.le_refl _, fun _ _ _ => rfl, h, fun e he => .inl (List.mem_map.2 ⟨e, he, rfl⟩)⟩

theorem Fr.trans {H H' H'' : Heap} {w w' w'' : World} (h : Fr H w H' w') (g : Fr H' w' H'' w'') : Fr H w H'' w'' := by
  refine ⟨g.os.trans h.os, g.tape.trans h.tape, g.output.trans h.output, Nat.le_trans h.size g.size, fun k hk hn => ?_, g.emb, fun e he => ?_⟩
  · have hn' : k ∉ H'.map Prod.fst := by
      intro hm
      obtain ⟨e, he, rfl⟩ := List.mem_map.1 hm
      rcases h.dom e he with h1 | h1
      · exact hn h1
      · omega
    exact (g.keep k (Nat.lt_of_lt_of_le hk h.size) hn').trans (h.keep k hk hn)
  · rcases g.dom e he with h1 | h1
    · obtain ⟨e', he', h2⟩ := List.mem_map.1 h1
      rw [← h2]
      exact h.dom e' he'
    · exact .inr (Nat.le_trans h.size h1)

/-- Blocks may be forgotten at any time. -/
theorem Emb.sub {H H' : Heap} {w : World} (h : Emb H w) (hs : H'.Sublist H) : Emb H' w :=
  ⟨h.nodup.sublist (hs.map _), fun e he => h.at_ e (hs.subset he)⟩

theorem Fr.sub {H H' H'' : Heap} {w w' : World} (h : Fr H w H' w') (hs : H''.Sublist H') : Fr H w H'' w' :=
  ⟨h.os, h.tape, h.output, h.size, h.keep, h.emb.sub hs, fun e he => h.dom e (hs.subset he)⟩

theorem Fr.of_sub {H H0 H' : Heap} {w w' : World} (hs : H0.Sublist H) (h : Fr H0 w H' w') : Fr H w H' w' :=
  ⟨h.os, h.tape, h.output, h.size, fun k hk hn => h.keep k hk (fun hm => hn ((hs.map _).subset hm)), h.emb,
   fun e he => (h.dom e he).imp (fun hm => (hs.map _).subset hm) id⟩

/-- What a part of the blocks is enough for, all of them are enough for, and the others stay. -/
theorem Fr.frame {A B A' : Heap} {w w' : World} (hE : Emb (A ++ B) w) (h : Fr A w A' w') : Fr (A ++ B) w (A' ++ B) w' := by
  have hnd := hE.nodup
  rw [List.map_append, List.nodup_append] at hnd
  obtain ⟨hA, hB, hAB⟩ := hnd
  refine ⟨h.os, h.tape, h.output, h.size, fun k hk hn => h.keep k hk (fun hm => hn (by rw [List.map_append]; exact List.mem_append_left _ hm)), ⟨?_, ?_⟩, ?_⟩
  · rw [List.map_append, List.nodup_append]
    refine ⟨h.emb.nodup, hB, fun a ha b hb hab => ?_⟩
    subst hab
    obtain ⟨e, he, rfl⟩ := List.mem_map.1 ha
    obtain ⟨e', he', h2⟩ := List.mem_map.1 hb
    rcases h.dom e he with h1 | h1
    · exact hAB _ h1 _ hb rfl
    · have := hE.lt (List.mem_append_right _ he')
      omega
  · intro e he
    rcases List.mem_append.1 he with he | he
    · exact h.emb.at_ e he
    · have h1 := hE.at_ e (List.mem_append_right _ he)
      rw [← h1]
      refine h.keep e.1 (hE.lt (List.mem_append_right _ he)) (fun hm => hAB _ hm _ (List.mem_map.2 ⟨e, he, rfl⟩) rfl)
  · intro e he
    rcases List.mem_append.1 he with he | he
    · exact (h.dom e he).imp (fun hm => by rw [List.map_append]; exact List.mem_append_left _ hm) id
    · exact .inl (List.mem_map.2 ⟨e, List.mem_append_right _ he, rfl⟩)

theorem Emb.perm {H H' : Heap} {w : World} (h : Emb H w) (hp : H.Perm H') : Emb H' w :=
  ⟨(hp.map _).nodup_iff.1 h.nodup, fun e he => h.at_ e (hp.mem_iff.2 he)⟩

theorem Fr.perm {H H' G G' : Heap} {w w' : World} (h : Fr H w H' w') (hp : H.Perm G) (hp' : H'.Perm G') : Fr G w G' w' :=
  ⟨h.os, h.tape, h.output, h.size, fun k hk hn => h.keep k hk (fun hm => hn ((hp.map _).mem_iff.1 hm)), h.emb.perm hp',
   fun e he => (h.dom e (hp'.mem_iff.2 he)).imp (fun hm => (hp.map _).mem_iff.1 hm) id⟩

/-! ### Runs -/
inductive Out where
  | val (v : Value)
  | pan (ch : List PanicEntry)
  | jump (c : Option Code)

def bas (f : FuncId) (ro : Option Nat) : Frame := { (default : Frame) with fn := f, kind := .normal, roundOf := ro }

/-- How an activation ends: a function's returns or panics; a round's stands where it leaves its body (at its end; at a return; at an exit that nothing in it takes). -/
def Fin (P : Program) (f : FuncId) (ro : Option Nat) (cs : List Frame) (w' : World) (m' : Machine) : Out → Prop
  | .val v => ro = Option.none ∧ ∃ fr', m' = lone fr' cs w' ∧ fr'.fn = f ∧ fr'.leaving P w' (.returned v)
  | .pan ch => ro = Option.none ∧ ∃ fr', m' = lone fr' cs w' ∧ fr'.fn = f ∧ fr'.leaving P w' (.panicked ch)
  | .jump Option.none => ∃ l a, ro = some l ∧ m' = lone ((bas f ro).atR a []) cs w' ∧ a.defers = []
  | .jump (some .ret) => ∃ l a k1, ro = some l ∧ m' = lone ((bas f ro).atR a (.code .ret :: k1)) cs w' ∧ a.defers = []
  | .jump (some (.exit id)) => ∃ l a k1, ro = some l ∧ m' = lone ((bas f ro).atR a (.code (.exit id) :: k1)) cs w' ∧ a.defers = [] ∧ exitTo id k1 = Option.none
  | .jump _ => False

def VRun (P : Program) (f : FuncId) (ro : Option Nat) (N : Nat) (k : List Item) (E : Env) (D : List Deferred) (H : Heap) (Q : Out → Heap → Prop) : Prop :=
  ∀ (t : Array Value) (w : World) (cs : List Frame), Agree N E t → Emb H w →
    ∃ o w' m' H', Q o H' ∧ Fr H w H' w' ∧ Steps P (lone ((bas f ro).atR ⟨t, D⟩ k) cs w) m' ∧ Fin P f ro cs w' m' o

def VCall (P : Program) (g : FuncId) (args : Array Value) (H : Heap) (R : Out → Heap → Prop) : Prop :=
  ∀ (w : World) (cs : List Frame), Emb H w →
    ∃ o w' m' H', R o H' ∧ Fr H w H' w' ∧ Steps P (lone (Frame.enter P g args .normal) cs w) m' ∧ Fin P g Option.none cs w' m' o

section core
variable {P : Program} {f : FuncId} {ro : Option Nat} {N : Nat} {k : List Item} {E : Env} {D : List Deferred} {H : Heap} {Q : Out → Heap → Prop}

theorem VRun.stp (h : ∀ (t : Array Value) (w : World) (cs : List Frame), Agree N E t → Emb H w →
    ∃ t' w' k' E' D' H', Steps P (lone ((bas f ro).atR ⟨t, D⟩ k) cs w) (lone ((bas f ro).atR ⟨t', D'⟩ k') cs w') ∧ Agree N E' t' ∧ Fr H w H' w' ∧ VRun P f ro N k' E' D' H' Q) :
    VRun P f ro N k E D H Q := by
  intro t w cs hA hE
  obtain ⟨t', w', k', E', D', H', hs, hA', hF, hr⟩ := h t w cs hA hE
  obtain ⟨o, w2, m2, H2, hq, hF2, hs2, hfin⟩ := hr t' w' cs hA' hF.emb
  exact ⟨o, w2, m2, H2, hq, hF.trans hF2, hs.trans hs2, hfin⟩

/-- A step of control: nothing turns but what is to be done next. -/
theorem VRun.go {k' : List Item} (h : ∀ (t : Array Value) (w : World) (cs : List Frame), Agree N E t → step P (lone ((bas f ro).atR ⟨t, D⟩ k) cs w) = .next (lone ((bas f ro).atR ⟨t, D⟩ k') cs w))
    (hr : VRun P f ro N k' E D H Q) : VRun P f ro N k E D H Q :=
  VRun.stp fun t w cs hA hE => ⟨t, w, k', E, D, H, .one (h t w cs hA), hA, Fr.refl hE, hr⟩

theorem VRun.mono {Q' : Out → Heap → Prop} (h : VRun P f ro N k E D H Q) (hq : ∀ o H', Q o H' → Q' o H') : VRun P f ro N k E D H Q' :=
  fun t w cs hA hE => let ⟨o, w', m', H', q, r⟩ := h t w cs hA hE; ⟨o, w', m', H', hq _ _ q, r⟩

theorem VRun.weak {E' : Env} (hs : ∀ i v, look E' i = some v → look E i = some v) (h : VRun P f ro N k E' D H Q) : VRun P f ro N k E D H Q :=
  fun t w cs hA hE => h t w cs (hA.weak hs) hE

theorem VRun.sub {H' : Heap} (hs : H'.Sublist H) (h : VRun P f ro N k E D H' Q) : VRun P f ro N k E D H Q :=
  fun t w cs hA hE => let ⟨o, w', m', H2, q, fr, r⟩ := h t w cs hA (hE.sub hs); ⟨o, w', m', H2, q, fr.of_sub hs, r⟩

theorem VRun.perm {H' : Heap} (hp : H.Perm H') (h : VRun P f ro N k E D H' Q) : VRun P f ro N k E D H Q :=
  fun t w cs hA hE => let ⟨o, w', m', H2, q, fr, r⟩ := h t w cs hA (hE.perm hp); ⟨o, w', m', H2, q, fr.perm hp.symm (.refl _), r⟩

theorem VCall.mono {g : FuncId} {args : Array Value} {R R' : Out → Heap → Prop} (h : VCall P g args H R) (hq : ∀ o H', R o H' → R' o H') : VCall P g args H R' :=
  fun w cs hE => let ⟨o, w', m', H', q, r⟩ := h w cs hE; ⟨o, w', m', H', hq _ _ q, r⟩

theorem VCall.sub {g : FuncId} {args : Array Value} {R : Out → Heap → Prop} {H' : Heap} (hs : H'.Sublist H) (h : VCall P g args H' R) : VCall P g args H R :=
  fun w cs hE => let ⟨o, w', m', H2, q, fr, r⟩ := h w cs (hE.sub hs); ⟨o, w', m', H2, q, fr.of_sub hs, r⟩

theorem VCall.perm {g : FuncId} {args : Array Value} {R : Out → Heap → Prop} {H' : Heap} (hp : H.Perm H') (h : VCall P g args H' R) : VCall P g args H R :=
  fun w cs hE => let ⟨o, w', m', H2, q, fr, r⟩ := h w cs (hE.perm hp); ⟨o, w', m', H2, q, fr.perm hp.symm (.refl _), r⟩

theorem VCall.frame {g : FuncId} {args : Array Value} {R : Out → Heap → Prop} {A B : Heap} (h : VCall P g args A R) :
    VCall P g args (A ++ B) fun o H' => ∃ A', H' = A' ++ B ∧ R o A' :=
  fun w cs hE => let ⟨o, w', m', H2, q, fr, r⟩ := h w cs (hE.sub (List.sublist_append_left A B)); ⟨o, w', m', H2 ++ B, ⟨H2, rfl, q⟩, fr.frame hE, r⟩

/-! ### Control -/
theorem vskip (h : VRun P f ro N k E D H Q) : VRun P f ro N (.code .skip :: k) E D H Q := .go (fun _ _ _ _ => stepR_skip) h
theorem vlabel {l : Nat} (h : VRun P f ro N k E D H Q) : VRun P f ro N (.code (.label l) :: k) E D H Q := .go (fun _ _ _ _ => stepR_label) h
theorem vseq {x y : Code} (h : VRun P f ro N (.code x :: .code y :: k) E D H Q) : VRun P f ro N (.code (.seq x y) :: k) E D H Q := .go (fun _ _ _ _ => stepR_seq) h
theorem vblock {id : Nat} {c : Code} (h : VRun P f ro N (.code c :: .inBlock id :: k) E D H Q) : VRun P f ro N (.code (.block id c) :: k) E D H Q := .go (fun _ _ _ _ => stepR_block) h
theorem vinblock {id : Nat} (h : VRun P f ro N k E D H Q) : VRun P f ro N (.inBlock id :: k) E D H Q := .go (fun _ _ _ _ => stepR_inBlock) h
theorem vloop1 {c : Code} (h : VRun P f ro N (.code c :: .inLoop c :: k) E D H Q) : VRun P f ro N (.code (.loop c) :: k) E D H Q := .go (fun _ _ _ _ => stepR_loop) h
theorem vinloop1 {c : Code} (h : VRun P f ro N (.code c :: .inLoop c :: k) E D H Q) : VRun P f ro N (.inLoop c :: k) E D H Q := .go (fun _ _ _ _ => stepR_inLoop) h
theorem vexit {id : Nat} {k' : List Item} (hk : exitTo id k = some k') (h : VRun P f ro N k' E D H Q) : VRun P f ro N (.code (.exit id) :: k) E D H Q := .go (fun _ _ _ _ => stepR_exit hk) h
theorem vregion0 {id : Nat} {ops : Array Oper} (h : VRun P f ro N (.inRegion ops (List.range ops.size) :: k) E D H Q) : VRun P f ro N (.code (.region id ops false) :: k) E D H Q :=
  .go (fun _ _ _ _ => stepR_region) h
theorem vregend {ops : Array Oper} (h : VRun P f ro N k E D H Q) : VRun P f ro N (.inRegion ops [] :: k) E D H Q := .go (fun _ _ _ _ => stepR_region_end) h

def ev (E : Env) : Operand → Option Value
  | .tmp t => look E t
  | .const v => some v
  | .global g => some (.pointer (some ⟨g, 0, Option.none⟩))
  | .func g => some (.func (.func g) #[] #[])

theorem ev_eval {t : Array Value} (hA : Agree N E t) {x : Operand} {v : Value} (h : ev E x = some v) : Act.eval ⟨t, D⟩ x = v := by
  cases x with
  | tmp i => exact hA.val i v h
  | const u => simpa [ev, Act.eval] using h
  | global g => simpa [ev, Act.eval] using h
  | func g => simpa [ev, Act.eval] using h

theorem vcond {c : Operand} {x y : Code} {b : Bool} (hc : ev E c = some (.bool b)) (ht : b = true → VRun P f ro N (.code x :: k) E D H Q) (hf : b = false → VRun P f ro N (.code y :: k) E D H Q) :
    VRun P f ro N (.code (.cond c x y) :: k) E D H Q := by
  refine .go (fun t w cs hA => stepR_cond (t := b) (ev_eval hA hc)) ?_
  cases b
  · exact hf rfl
  · exact ht rfl
theorem vcondt {c : Operand} {x y : Code} (hc : ev E c = some (.bool true)) (ht : VRun P f ro N (.code x :: k) E D H Q) : VRun P f ro N (.code (.cond c x y) :: k) E D H Q :=
  .go (fun t w cs hA => stepR_cond (t := true) (ev_eval hA hc)) ht
theorem vcondf {c : Operand} {x y : Code} (hc : ev E c = some (.bool false)) (hf : VRun P f ro N (.code y :: k) E D H Q) : VRun P f ro N (.code (.cond c x y) :: k) E D H Q :=
  .go (fun t w cs hA => stepR_cond (t := false) (ev_eval hA hc)) hf

/-- Entering a function. -/
def argsE : Nat → List Value → Env
  | _, [] => []
  | i, v :: r => (i, v) :: argsE (i + 1) r

theorem argsE_look : ∀ (l : List Value) (i j : Nat) (v : Value), look (argsE i l) j = some v → i ≤ j ∧ l[j - i]? = some v
  | [], _, _, _, h => by simp [argsE, look] at h
  | u :: r, i, j, v, h => by
    rw [argsE, look_cons] at h
    by_cases e : j = i
    · subst e; simp at h; subst h; simp
    · rw [if_neg e] at h
      obtain ⟨h1, h2⟩ := argsE_look r (i + 1) j v h
      refine ⟨by omega, ?_⟩
      have : j - i = (j - (i + 1)) + 1 := by omega
      rw [this]; simpa using h2

theorem vcall_of_vrun {g : FuncId} {fn : Func} {c : Code} {args : List Value} {R : Out → Heap → Prop} (hf : P.funcs[g]? = some fn) (hb : fn.body = some c) (hn : fn.ntmps = N) (ha : Nat.ble args.length N = true)
    (h : VRun P g Option.none N [.code c] (argsE 0 args) [] H R) : VCall P g args.toArray H R := by
  intro w cs hE
  have henter : Frame.enter P g args.toArray .normal = (bas g Option.none).atR ⟨args.toArray ++ Array.replicate (fn.ntmps - args.toArray.size) undef, []⟩ [.code c] := by
    simp [Frame.enter, Frame.atR, hf, hb, bas]
  rw [henter]
  have hle : args.length ≤ N := by simpa using ha
  refine h _ w cs ⟨by simp [hn]; omega, fun i v hi => ?_⟩ hE
  obtain ⟨_, h2⟩ := argsE_look args 0 i v hi
  have hlt : i < args.length := by
    have := List.getElem?_eq_some_iff.1 h2
    simpa using this.1
  simp only [Nat.sub_zero] at h2
  rw [Array.getD_eq_getD_getElem?, Array.getElem?_append_left (by simpa using hlt), List.getElem?_toArray, h2]
  rfl

/-! ### The end of a function -/
/-- What a result variable holds. -/
inductive ResV (P : Program) (E : Env) (H : Heap) : ResultVar → Value → Prop
  | mk {r : ResultVar} {v : Value} (h : ∀ (t : Array Value) (w : World), Agree N E t → Emb H w →
      (match r with | .tmp t' => (pure (t.getD t' undef) : Sem Value) | .cell a ty => do loadVar ty (← asAddr (t.getD a undef))).run P w = .ok v w) : ResV P E H r v

/-- The activation is returning, with these deferred calls to be taken up. -/
def VRet (P : Program) (f : FuncId) (N : Nat) (E : Env) (D : List Deferred) (H : Heap) (Q : Out → Heap → Prop) : Prop :=
  ∀ (t : Array Value) (w : World) (cs : List Frame) (k : List Item), Agree N E t → Emb H w →
    ∃ o w' m' H', Q o H' ∧ Fr H w H' w' ∧ Steps P (lone { (bas f Option.none).atR ⟨t, D⟩ k with mode := .returning } cs w) m' ∧ Fin P f Option.none cs w' m' o

theorem vret (h : VRet P f N E D H Q) : VRun P f Option.none N (.code .ret :: k) E D H Q := fun t w cs hA hE =>
  let ⟨o, w', m', H', q, fr, s, fin⟩ := h t w cs (.code .ret :: k) hA hE
  ⟨o, w', m', H', q, fr, .head (stepR_ret (b := bas f Option.none) rfl) s, fin⟩
theorem vend (h : VRet P f N E D H Q) : VRun P f Option.none N [] E D H Q := fun t w cs hA hE =>
  let ⟨o, w', m', H', q, fr, s, fin⟩ := h t w cs [] hA hE
  ⟨o, w', m', H', q, fr, .head (stepR_end (b := bas f Option.none) rfl) s, fin⟩

theorem vret_vals {fn : Func} {v : Value} {H' : Heap} (hf : P.funcs[f]? = some fn) (hr : ∀ (t : Array Value) (w : World), Agree N E t → Emb H w → (results fn t).run P w = .ok v w)
    (hs : H'.Sublist H) (hq : Q (.val v) H') : VRet P f N E [] H Q := fun t w cs k hA hE =>
  ⟨.val v, w, _, H', hq, (Fr.refl hE).sub hs, .refl _ _, rfl, _, rfl, rfl, ⟨rfl, rfl, rfl, fn, hf, hr t w hA hE⟩⟩

end core
end Go.Proofs.Ytffpfcomikcimaa
