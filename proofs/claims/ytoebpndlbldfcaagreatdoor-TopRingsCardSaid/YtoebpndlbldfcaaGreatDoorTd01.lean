/-
  Parts of the proof: rules of the engine, walks of functions, plain Lean. No condition.
-/
import Derived.RangeFuncIn
import Derived.Orders
import Derived.KernelRfl
import Derived.Laws.StructEq
import Derived.WalkKit
import Derived.ChangeKeysEq
namespace Go.Proofs.YtoebpndlbldfcaaGreatDoor
open Go
abbrev Heap := List (Nat × Obj)
abbrev Env := List (Nat × Value)
def look : Env → Nat → Option Value
  | [], _ => Option.none
  | (j, v) :: r, i => bif Nat.beq i j then some v else look r i
theorem look_cons (j i : Nat) (v : Value) (r : Env) : look ((j, v) :: r) i = if i = j then some v else look r i := by
  show (bif Nat.beq i j then some v else look r i) = _
  by_cases h : i = j
  · subst h; simp
  · have : Nat.beq i j = false := by
      cases hb : Nat.beq i j
      · rfl
      · exact absurd (Nat.eq_of_beq_eq_true hb) h
    simp [this, h]
structure Agree (N : Nat) (E : Env) (t : Array Value) : Prop where
  size : t.size = N
  val : ∀ i v, look E i = some v → t.getD i undef = v
theorem Agree.put {N : Nat} {E : Env} {t : Array Value} (h : Agree N E t) {d : Nat} (hd : d < N) (v : Value) : Agree N ((d, v) :: E) (t.setIfInBounds d v) := by
  refine ⟨by simp [h.size], fun i u hi => ?_⟩
  rw [look_cons] at hi
  by_cases e : i = d
  · subst e
    rw [if_pos rfl] at hi
    have hs : i < t.size := by rw [h.size]; exact hd
    simp at hi
    subst hi
    simp [Array.getD, hs]
  · rw [if_neg e] at hi
    have := h.val i u hi
    rw [← this]
    simp only [Array.getD_eq_getD_getElem?]
    rw [Array.getElem?_setIfInBounds_ne (Ne.symm e)]
theorem Agree.weak {N : Nat} {E E' : Env} {t : Array Value} (h : Agree N E t) (hs : ∀ i v, look E' i = some v → look E i = some v) : Agree N E' t :=
  ⟨h.size, fun i v hv => h.val i v (hs i v hv)⟩
structure Emb (H : Heap) (w : World) : Prop where
  nodup : (H.map Prod.fst).Nodup
  at_ : ∀ e ∈ H, w.heap[e.1]? = some e.2
structure Fr (H : Heap) (w : World) (H' : Heap) (w' : World) : Prop where
  os : w'.os = w.os
  tape : w'.tape = w.tape
  output : w'.output = w.output
  size : w.heap.size ≤ w'.heap.size
  keep : ∀ k, k < w.heap.size → k ∉ H.map Prod.fst → w'.heap[k]? = w.heap[k]?
  emb : Emb H' w'
  dom : ∀ e ∈ H', e.1 ∈ H.map Prod.fst ∨ w.heap.size ≤ e.1
theorem Emb.lt {H : Heap} {w : World} (h : Emb H w) {e : Nat × Obj} (he : e ∈ H) : e.1 < w.heap.size := by
  have := h.at_ e he
  exact (Array.getElem?_eq_some_iff.1 this).1
theorem Fr.refl {H : Heap} {w : World} (h : Emb H w) : Fr H w H w :=
  ⟨rfl, rfl, rfl, Nat.le_refl _, fun _ _ _ => rfl, h, fun e he => .inl (List.mem_map.2 ⟨e, he, rfl⟩)⟩
theorem Fr.trans {H H' H'' : Heap} {w w' w'' : World} (h : Fr H w H' w') (g : Fr H' w' H'' w'') : Fr H w H'' w'' := by
  refine ⟨g.os.trans h.os, g.tape.trans h.tape, g.output.trans h.output, Nat.le_trans h.size g.size, fun k hk hn => ?_, g.emb, fun e he => ?_⟩
  · have hn' : k ∉ H'.map Prod.fst := by
      intro hm
      obtain ⟨e, he, rfl⟩ := List.mem_map.1 hm
      rcases h.dom e he with h1 | h1
      · exact hn h1
      · omega
    exact (g.keep k (Nat.lt_of_lt_of_le hk h.size) hn').trans (h.keep k hk hn)
  · rcases g.dom e he with h1 | h1
    · obtain ⟨e', he', h2⟩ := List.mem_map.1 h1
      rw [← h2]
      exact h.dom e' he'
    · exact .inr (Nat.le_trans h.size h1)
theorem Emb.sub {H H' : Heap} {w : World} (h : Emb H w) (hs : H'.Sublist H) : Emb H' w :=
  ⟨h.nodup.sublist (hs.map _), fun e he => h.at_ e (hs.subset he)⟩
theorem Fr.sub {H H' H'' : Heap} {w w' : World} (h : Fr H w H' w') (hs : H''.Sublist H') : Fr H w H'' w' :=
  ⟨h.os, h.tape, h.output, h.size, h.keep, h.emb.sub hs, fun e he => h.dom e (hs.subset he)⟩
theorem Fr.of_sub {H H0 H' : Heap} {w w' : World} (hs : H0.Sublist H) (h : Fr H0 w H' w') : Fr H w H' w' :=
  ⟨h.os, h.tape, h.output, h.size, fun k hk hn => h.keep k hk (fun hm => hn ((hs.map _).subset hm)), h.emb,
   fun e he => (h.dom e he).imp (fun hm => (hs.map _).subset hm) id⟩
theorem Fr.frame {A B A' : Heap} {w w' : World} (hE : Emb (A ++ B) w) (h : Fr A w A' w') : Fr (A ++ B) w (A' ++ B) w' := by
  have hnd := hE.nodup
  rw [List.map_append, List.nodup_append] at hnd
  obtain ⟨hA, hB, hAB⟩ := hnd
  refine ⟨h.os, h.tape, h.output, h.size, fun k hk hn => h.keep k hk (fun hm => hn (by rw [List.map_append]; exact List.mem_append_left _ hm)), ⟨?_, ?_⟩, ?_⟩
  · rw [List.map_append, List.nodup_append]
    refine ⟨h.emb.nodup, hB, fun a ha b hb hab => ?_⟩
    subst hab
    obtain ⟨e, he, rfl⟩ := List.mem_map.1 ha
    obtain ⟨e', he', h2⟩ := List.mem_map.1 hb
    rcases h.dom e he with h1 | h1
    · exact hAB _ h1 _ hb rfl
    · have := hE.lt (List.mem_append_right _ he')
      omega
  · intro e he
    rcases List.mem_append.1 he with he | he
    · exact h.emb.at_ e he
    · have h1 := hE.at_ e (List.mem_append_right _ he)
      rw [← h1]
      refine h.keep e.1 (hE.lt (List.mem_append_right _ he)) (fun hm => hAB _ hm _ (List.mem_map.2 ⟨e, he, rfl⟩) rfl)
  · intro e he
    rcases List.mem_append.1 he with he | he
    · exact (h.dom e he).imp (fun hm => by rw [List.map_append]; exact List.mem_append_left _ hm) id
    · exact .inl (List.mem_map.2 ⟨e, List.mem_append_right _ he, rfl⟩)
theorem Emb.perm {H H' : Heap} {w : World} (h : Emb H w) (hp : H.Perm H') : Emb H' w :=
  ⟨(hp.map _).nodup_iff.1 h.nodup, fun e he => h.at_ e (hp.mem_iff.2 he)⟩
theorem Fr.perm {H H' G G' : Heap} {w w' : World} (h : Fr H w H' w') (hp : H.Perm G) (hp' : H'.Perm G') : Fr G w G' w' :=
  ⟨h.os, h.tape, h.output, h.size, fun k hk hn => h.keep k hk (fun hm => hn ((hp.map _).mem_iff.1 hm)), h.emb.perm hp',
   fun e he => (h.dom e (hp'.mem_iff.2 he)).imp (fun hm => (hp.map _).mem_iff.1 hm) id⟩
inductive Out where
  | val (v : Value)
  | pan (ch : List PanicEntry)
  | jump (c : Option Code)
def bas (f : FuncId) (ro : Option Nat) : Frame := { (default : Frame) with fn := f, kind := .normal, roundOf := ro }
def Fin (P : Program) (f : FuncId) (ro : Option Nat) (cs : List Frame) (w' : World) (m' : Machine) : Out → Prop
  | .val v => ro = Option.none ∧ ∃ fr', m' = lone fr' cs w' ∧ fr'.fn = f ∧ fr'.leaving P w' (.returned v)
  | .pan ch => ro = Option.none ∧ ∃ fr', m' = lone fr' cs w' ∧ fr'.fn = f ∧ fr'.leaving P w' (.panicked ch)
  | .jump Option.none => ∃ l a, ro = some l ∧ m' = lone ((bas f ro).atR a []) cs w' ∧ a.defers = []
  | .jump (some .ret) => ∃ l a k1, ro = some l ∧ m' = lone ((bas f ro).atR a (.code .ret :: k1)) cs w' ∧ a.defers = []
  | .jump (some (.exit id)) => ∃ l a k1, ro = some l ∧ m' = lone ((bas f ro).atR a (.code (.exit id) :: k1)) cs w' ∧ a.defers = [] ∧ exitTo id k1 = Option.none
  | .jump _ => False
def VRun (P : Program) (f : FuncId) (ro : Option Nat) (N : Nat) (k : List Item) (E : Env) (D : List Deferred) (H : Heap) (Q : Out → Heap → Prop) : Prop :=
  ∀ (t : Array Value) (w : World) (cs : List Frame), Agree N E t → Emb H w →
    ∃ o w' m' H', Q o H' ∧ Fr H w H' w' ∧ Steps P (lone ((bas f ro).atR ⟨t, D⟩ k) cs w) m' ∧ Fin P f ro cs w' m' o
def VCall (P : Program) (g : FuncId) (args : Array Value) (H : Heap) (R : Out → Heap → Prop) : Prop :=
  ∀ (w : World) (cs : List Frame), Emb H w →
    ∃ o w' m' H', R o H' ∧ Fr H w H' w' ∧ Steps P (lone (Frame.enter P g args .normal) cs w) m' ∧ Fin P g Option.none cs w' m' o
section core
variable {P : Program} {f : FuncId} {ro : Option Nat} {N : Nat} {k : List Item} {E : Env} {D : List Deferred} {H : Heap} {Q : Out → Heap → Prop}
theorem VRun.stp (h : ∀ (t : Array Value) (w : World) (cs : List Frame), Agree N E t → Emb H w →
    ∃ t' w' k' E' D' H', Steps P (lone ((bas f ro).atR ⟨t, D⟩ k) cs w) (lone ((bas f ro).atR ⟨t', D'⟩ k') cs w') ∧ Agree N E' t' ∧ Fr H w H' w' ∧ VRun P f ro N k' E' D' H' Q) :
    VRun P f ro N k E D H Q := by
  intro t w cs hA hE
  obtain ⟨t', w', k', E', D', H', hs, hA', hF, hr⟩ := h t w cs hA hE
  obtain ⟨o, w2, m2, H2, hq, hF2, hs2, hfin⟩ := hr t' w' cs hA' hF.emb
  exact ⟨o, w2, m2, H2, hq, hF.trans hF2, hs.trans hs2, hfin⟩
theorem VRun.go {k' : List Item} (h : ∀ (t : Array Value) (w : World) (cs : List Frame), Agree N E t → step P (lone ((bas f ro).atR ⟨t, D⟩ k) cs w) = .next (lone ((bas f ro).atR ⟨t, D⟩ k') cs w))
    (hr : VRun P f ro N k' E D H Q) : VRun P f ro N k E D H Q :=
  VRun.stp fun t w cs hA hE => ⟨t, w, k', E, D, H, .one (h t w cs hA), hA, Fr.refl hE, hr⟩
theorem VRun.mono {Q' : Out → Heap → Prop} (h : VRun P f ro N k E D H Q) (hq : ∀ o H', Q o H' → Q' o H') : VRun P f ro N k E D H Q' :=
  fun t w cs hA hE => let ⟨o, w', m', H', q, r⟩ := h t w cs hA hE; ⟨o, w', m', H', hq _ _ q, r⟩
theorem VRun.weak {E' : Env} (hs : ∀ i v, look E' i = some v → look E i = some v) (h : VRun P f ro N k E' D H Q) : VRun P f ro N k E D H Q :=
  fun t w cs hA hE => h t w cs (hA.weak hs) hE
theorem VRun.sub {H' : Heap} (hs : H'.Sublist H) (h : VRun P f ro N k E D H' Q) : VRun P f ro N k E D H Q :=
  fun t w cs hA hE => let ⟨o, w', m', H2, q, fr, r⟩ := h t w cs hA (hE.sub hs); ⟨o, w', m', H2, q, fr.of_sub hs, r⟩
theorem VRun.perm {H' : Heap} (hp : H.Perm H') (h : VRun P f ro N k E D H' Q) : VRun P f ro N k E D H Q :=
  fun t w cs hA hE => let ⟨o, w', m', H2, q, fr, r⟩ := h t w cs hA (hE.perm hp); ⟨o, w', m', H2, q, fr.perm hp.symm (.refl _), r⟩
theorem VCall.mono {g : FuncId} {args : Array Value} {R R' : Out → Heap → Prop} (h : VCall P g args H R) (hq : ∀ o H', R o H' → R' o H') : VCall P g args H R' :=
  fun w cs hE => let ⟨o, w', m', H', q, r⟩ := h w cs hE; ⟨o, w', m', H', hq _ _ q, r⟩
theorem VCall.sub {g : FuncId} {args : Array Value} {R : Out → Heap → Prop} {H' : Heap} (hs : H'.Sublist H) (h : VCall P g args H' R) : VCall P g args H R :=
  fun w cs hE => let ⟨o, w', m', H2, q, fr, r⟩ := h w cs (hE.sub hs); ⟨o, w', m', H2, q, fr.of_sub hs, r⟩
theorem VCall.perm {g : FuncId} {args : Array Value} {R : Out → Heap → Prop} {H' : Heap} (hp : H.Perm H') (h : VCall P g args H' R) : VCall P g args H R :=
  fun w cs hE => let ⟨o, w', m', H2, q, fr, r⟩ := h w cs (hE.perm hp); ⟨o, w', m', H2, q, fr.perm hp.symm (.refl _), r⟩
theorem VCall.frame {g : FuncId} {args : Array Value} {R : Out → Heap → Prop} {A B : Heap} (h : VCall P g args A R) :
    VCall P g args (A ++ B) fun o H' => ∃ A', H' = A' ++ B ∧ R o A' :=
  fun w cs hE => let ⟨o, w', m', H2, q, fr, r⟩ := h w cs (hE.sub (List.sublist_append_left A B)); ⟨o, w', m', H2 ++ B, ⟨H2, rfl, q⟩, fr.frame hE, r⟩
theorem vskip (h : VRun P f ro N k E D H Q) : VRun P f ro N (.code .skip :: k) E D H Q := .go (fun _ _ _ _ => stepR_skip) h
theorem vlabel {l : Nat} (h : VRun P f ro N k E D H Q) : VRun P f ro N (.code (.label l) :: k) E D H Q := .go (fun _ _ _ _ => stepR_label) h
theorem vseq {x y : Code} (h : VRun P f ro N (.code x :: .code y :: k) E D H Q) : VRun P f ro N (.code (.seq x y) :: k) E D H Q := .go (fun _ _ _ _ => stepR_seq) h
theorem vblock {id : Nat} {c : Code} (h : VRun P f ro N (.code c :: .inBlock id :: k) E D H Q) : VRun P f ro N (.code (.block id c) :: k) E D H Q := .go (fun _ _ _ _ => stepR_block) h
theorem vinblock {id : Nat} (h : VRun P f ro N k E D H Q) : VRun P f ro N (.inBlock id :: k) E D H Q := .go (fun _ _ _ _ => stepR_inBlock) h
theorem vloop1 {c : Code} (h : VRun P f ro N (.code c :: .inLoop c :: k) E D H Q) : VRun P f ro N (.code (.loop c) :: k) E D H Q := .go (fun _ _ _ _ => stepR_loop) h
theorem vinloop1 {c : Code} (h : VRun P f ro N (.code c :: .inLoop c :: k) E D H Q) : VRun P f ro N (.inLoop c :: k) E D H Q := .go (fun _ _ _ _ => stepR_inLoop) h
theorem vexit {id : Nat} {k' : List Item} (hk : exitTo id k = some k') (h : VRun P f ro N k' E D H Q) : VRun P f ro N (.code (.exit id) :: k) E D H Q := .go (fun _ _ _ _ => stepR_exit hk) h
theorem vregion0 {id : Nat} {ops : Array Oper} (h : VRun P f ro N (.inRegion ops (List.range ops.size) :: k) E D H Q) : VRun P f ro N (.code (.region id ops false) :: k) E D H Q :=
  .go (fun _ _ _ _ => stepR_region) h
theorem vregend {ops : Array Oper} (h : VRun P f ro N k E D H Q) : VRun P f ro N (.inRegion ops [] :: k) E D H Q := .go (fun _ _ _ _ => stepR_region_end) h
def ev (E : Env) : Operand → Option Value
  | .tmp t => look E t
  | .const v => some v
  | .global g => some (.pointer (some ⟨g, 0, Option.none⟩))
  | .func g => some (.func (.func g) #[] #[])
theorem ev_eval {t : Array Value} (hA : Agree N E t) {x : Operand} {v : Value} (h : ev E x = some v) : Act.eval ⟨t, D⟩ x = v := by
  cases x with
  | tmp i => exact hA.val i v h
  | const u => simpa [ev, Act.eval] using h
  | global g => simpa [ev, Act.eval] using h
  | func g => simpa [ev, Act.eval] using h
theorem vcond {c : Operand} {x y : Code} {b : Bool} (hc : ev E c = some (.bool b)) (ht : b = true → VRun P f ro N (.code x :: k) E D H Q) (hf : b = false → VRun P f ro N (.code y :: k) E D H Q) :
    VRun P f ro N (.code (.cond c x y) :: k) E D H Q := by
  refine .go (fun t w cs hA => stepR_cond (t := b) (ev_eval hA hc)) ?_
  cases b
  · exact hf rfl
  · exact ht rfl
theorem vcondt {c : Operand} {x y : Code} (hc : ev E c = some (.bool true)) (ht : VRun P f ro N (.code x :: k) E D H Q) : VRun P f ro N (.code (.cond c x y) :: k) E D H Q :=
  .go (fun t w cs hA => stepR_cond (t := true) (ev_eval hA hc)) ht
theorem vcondf {c : Operand} {x y : Code} (hc : ev E c = some (.bool false)) (hf : VRun P f ro N (.code y :: k) E D H Q) : VRun P f ro N (.code (.cond c x y) :: k) E D H Q :=
  .go (fun t w cs hA => stepR_cond (t := false) (ev_eval hA hc)) hf
def argsE : Nat → List Value → Env
  | _, [] => []
  | i, v :: r => (i, v) :: argsE (i + 1) r
theorem argsE_look : ∀ (l : List Value) (i j : Nat) (v : Value), look (argsE i l) j = some v → i ≤ j ∧ l[j - i]? = some v
  | [], _, _, _, h => by simp [argsE, look] at h
  | u :: r, i, j, v, h => by
    rw [argsE, look_cons] at h
    by_cases e : j = i
    · subst e; simp at h; subst h; simp
    · rw [if_neg e] at h
      obtain ⟨h1, h2⟩ := argsE_look r (i + 1) j v h
      refine ⟨by omega, ?_⟩
      have : j - i = (j - (i + 1)) + 1 := by omega
      rw [this]; simpa using h2
theorem vcall_of_vrun {g : FuncId} {fn : Func} {c : Code} {args : List Value} {R : Out → Heap → Prop} (hf : P.funcs[g]? = some fn) (hb : fn.body = some c) (hn : fn.ntmps = N) (ha : Nat.ble args.length N = true)
    (h : VRun P g Option.none N [.code c] (argsE 0 args) [] H R) : VCall P g args.toArray H R := by
  intro w cs hE
  have henter : Frame.enter P g args.toArray .normal = (bas g Option.none).atR ⟨args.toArray ++ Array.replicate (fn.ntmps - args.toArray.size) undef, []⟩ [.code c] := by
    simp [Frame.enter, Frame.atR, hf, hb, bas]
  rw [henter]
  have hle : args.length ≤ N := by simpa using ha
  refine h _ w cs ⟨by simp [hn]; omega, fun i v hi => ?_⟩ hE
  obtain ⟨_, h2⟩ := argsE_look args 0 i v hi
  have hlt : i < args.length := by
    have := List.getElem?_eq_some_iff.1 h2
    simpa using this.1
  simp only [Nat.sub_zero] at h2
  rw [Array.getD_eq_getD_getElem?, Array.getElem?_append_left (by simpa using hlt), List.getElem?_toArray, h2]
  rfl
inductive ResV (P : Program) (E : Env) (H : Heap) : ResultVar → Value → Prop
  | mk {r : ResultVar} {v : Value} (h : ∀ (t : Array Value) (w : World), Agree N E t → Emb H w →
      (match r with | .tmp t' => (pure (t.getD t' undef) : Sem Value) | .cell a ty => do loadVar ty (← asAddr (t.getD a undef))).run P w = .ok v w) : ResV P E H r v
def VRet (P : Program) (f : FuncId) (N : Nat) (E : Env) (D : List Deferred) (H : Heap) (Q : Out → Heap → Prop) : Prop :=
  ∀ (t : Array Value) (w : World) (cs : List Frame) (k : List Item), Agree N E t → Emb H w →
    ∃ o w' m' H', Q o H' ∧ Fr H w H' w' ∧ Steps P (lone { (bas f Option.none).atR ⟨t, D⟩ k with mode := .returning } cs w) m' ∧ Fin P f Option.none cs w' m' o
theorem vret (h : VRet P f N E D H Q) : VRun P f Option.none N (.code .ret :: k) E D H Q := fun t w cs hA hE =>
  let ⟨o, w', m', H', q, fr, s, fin⟩ := h t w cs (.code .ret :: k) hA hE
  ⟨o, w', m', H', q, fr, .head (stepR_ret (b := bas f Option.none) rfl) s, fin⟩
theorem vend (h : VRet P f N E D H Q) : VRun P f Option.none N [] E D H Q := fun t w cs hA hE =>
  let ⟨o, w', m', H', q, fr, s, fin⟩ := h t w cs [] hA hE
  ⟨o, w', m', H', q, fr, .head (stepR_end (b := bas f Option.none) rfl) s, fin⟩
theorem vret_vals {fn : Func} {v : Value} {H' : Heap} (hf : P.funcs[f]? = some fn) (hr : ∀ (t : Array Value) (w : World), Agree N E t → Emb H w → (results fn t).run P w = .ok v w)
    (hs : H'.Sublist H) (hq : Q (.val v) H') : VRet P f N E [] H Q := fun t w cs k hA hE =>
  ⟨.val v, w, _, H', hq, (Fr.refl hE).sub hs, .refl _ _, rfl, _, rfl, rfl, ⟨rfl, rfl, rfl, fn, hf, hr t w hA hE⟩⟩
end core
end Go.Proofs.YtoebpndlbldfcaaGreatDoor
namespace Go.Proofs.YtoebpndlbldfcaaGreatDoor
open Go
section
variable {P : Program} {f : FuncId} {ro : Option Nat} {N : Nat} {k : List Item} {E : Env} {D : List Deferred} {H : Heap} {Q : Out → Heap → Prop}
variable {ops : Array Oper} {l : List Oper}
def VL (P : Program) (f : FuncId) (ro : Option Nat) (N : Nat) (ops : Array Oper) (l : List Oper) (k : List Item) (E : Env) (D : List Deferred) (H : Heap) (Q : Out → Heap → Prop) : Prop :=
  ∀ is : List Nat, is.map (ops[·]?) = l.map some → VRun P f ro N (.inRegion ops is :: k) E D H Q
def VX (P : Program) (f : FuncId) (ro : Option Nat) (N : Nat) (ops : Array Oper) (o : Oper) (l : List Oper) (k : List Item) (E : Env) (D : List Deferred) (H : Heap) (Q : Out → Heap → Prop) : Prop :=
  ∀ (i : Nat) (is : List Nat), ops[i]? = some o → is.map (ops[·]?) = l.map some → (∀ t, Agree N E t → Region.wanted o (yielded ops t) = true) →
    VRun P f ro N (.inRegion ops (i :: is) :: k) E D H Q
theorem vnil (h : VRun P f ro N k E D H Q) : VL P f ro N ops [] k E D H Q := by
  intro is his
  have : is = [] := by simpa using his
  subst this
  exact vregend h
theorem vregion {id : Nat} {l : List Oper} (h : VL P f ro N l.toArray l k E D H Q) : VRun P f ro N (.code (.region id l.toArray false) :: k) E D H Q := by
  refine vregion0 (h _ ?_)
  simp only [List.size_toArray]
  refine List.ext_getElem? fun i => ?_
  simp only [List.getElem?_map, List.getElem?_toArray]
  by_cases hi : i < l.length
  · simp [List.getElem?_range hi, hi]
  · have h1 : (List.range l.length)[i]? = Option.none := List.getElem?_eq_none (by simpa using hi)
    have h2 : l[i]? = Option.none := List.getElem?_eq_none (by simpa using hi)
    simp [h1, h2]
theorem vone {o : Oper} (hg : o.guard = Option.none) (h : VX P f ro N ops o l k E D H Q) : VL P f ro N ops (o :: l) k E D H Q := by
  intro is his
  cases is with
  | nil => simp at his
  | cons i is =>
    simp only [List.map_cons, List.cons.injEq] at his
    exact h i is his.1 his.2 (fun t _ => by simp [Region.wanted, hg])
theorem yielded_of {j d : Nat} {b : Bool} {t : Array Value} (hA : Agree N E t) (hd : (ops[j]?).bind (·.dst) = some d) (hb : look E d = some (.bool b)) : yielded ops t j = some b := by
  have h := hA.val d _ hb
  unfold yielded
  rw [hd]
  simp only [Option.bind_some]
  by_cases hs : d < t.size
  · simp only [Array.getD_eq_getD_getElem?, Array.getElem?_eq_getElem hs, Option.getD_some] at h
    simp [Array.getElem?_eq_getElem hs, h]
  · have : t.getD d undef = undef := by simp [Array.getD, hs]
    rw [this] at h
    simp [undef] at h
theorem yielded_undef {j d : Nat} {t : Array Value} (hA : Agree N E t) (hd : (ops[j]?).bind (·.dst) = some d) (hb : look E d = some undef) : yielded ops t j = Option.none := by
  have h := hA.val d _ hb
  unfold yielded
  rw [hd]
  simp only [Option.bind_some]
  by_cases hs : d < t.size
  · simp only [Array.getD_eq_getD_getElem?, Array.getElem?_eq_getElem hs, Option.getD_some] at h
    simp [Array.getElem?_eq_getElem hs, h, undef]
  · simp [hs]
theorem vyes {o : Oper} {j d : Nat} {want : Bool} (hg : o.guard = some (j, want)) (hd : (ops[j]?).bind (·.dst) = some d) (hb : look E d = some (.bool want)) (h : VX P f ro N ops o l k E D H Q) :
    VL P f ro N ops (o :: l) k E D H Q := by
  intro is his
  cases is with
  | nil => simp at his
  | cons i is =>
    simp only [List.map_cons, List.cons.injEq] at his
    exact h i is his.1 his.2 (fun t hA => by simp [Region.wanted, hg, yielded_of hA hd hb])
def upd (E : Env) (d : Option Nat) (v : Value) : Env := match d with | some d => (d, v) :: E | Option.none => E
theorem Agree.upd {t : Array Value} (hA : Agree N E t) {o : Option Nat} (hN : ∀ d, o = some d → d < N) (v : Value) (D : List Deferred) : Agree N (upd E o v) ((Act.put ⟨t, D⟩ o v).tmps) := by
  cases o with
  | none => exact hA
  | some d => exact hA.put (hN d rfl) v
theorem put_defers (t : Array Value) (o : Option Nat) (v : Value) : Act.put ⟨t, D⟩ o v = ⟨(Act.put ⟨t, D⟩ o v).tmps, D⟩ := by cases o <;> rfl
theorem vno {o : Oper} {j d d' : Nat} {want : Bool} (hg : o.guard = some (j, want)) (hd : (ops[j]?).bind (·.dst) = some d) (hb : look E d = some (.bool (!want))) (ho : o.dst = some d') (hN : Nat.blt d' N = true)
    (h : VL P f ro N ops l k ((d', undef) :: E) D H Q) : VL P f ro N ops (o :: l) k E D H Q := by
  intro is his
  cases is with
  | nil => simp at his
  | cons i is =>
    simp only [List.map_cons, List.cons.injEq] at his
    have hlt : d' < N := Nat.le_of_ble_eq_true hN
    refine .stp fun t w cs hA hE => ⟨t.setIfInBounds d' undef, w, .inRegion ops is :: k, (d', undef) :: E, D, H, ?_, hA.put hlt undef, Fr.refl hE, h is his.2⟩
    have hs := stepR_op_skip (P := P) (b := bas f ro) (a := ⟨t, D⟩) (k := k) (cs := cs) (w := w) (ops := ops) (i := i) (rest := is)
      (by simp [his.1, Region.wanted, hg, yielded_of hA hd hb])
    simp only [his.1, Option.bind_some, ho, Act.put] at hs
    exact .one hs
theorem vnou {o : Oper} {j d d' : Nat} {want : Bool} (hg : o.guard = some (j, want)) (hd : (ops[j]?).bind (·.dst) = some d) (hb : look E d = some undef) (ho : o.dst = some d') (hN : Nat.blt d' N = true)
    (h : VL P f ro N ops l k ((d', undef) :: E) D H Q) : VL P f ro N ops (o :: l) k E D H Q := by
  intro is his
  cases is with
  | nil => simp at his
  | cons i is =>
    simp only [List.map_cons, List.cons.injEq] at his
    have hlt : d' < N := Nat.le_of_ble_eq_true hN
    refine .stp fun t w cs hA hE => ⟨t.setIfInBounds d' undef, w, .inRegion ops is :: k, (d', undef) :: E, D, H, ?_, hA.put hlt undef, Fr.refl hE, h is his.2⟩
    have hs := stepR_op_skip (P := P) (b := bas f ro) (a := ⟨t, D⟩) (k := k) (cs := cs) (w := w) (ops := ops) (i := i) (rest := is)
      (by simp [his.1, Region.wanted, hg, yielded_undef hA hd hb])
    simp only [his.1, Option.bind_some, ho, Act.put] at hs
    exact .one hs
def NGo (P : Program) (n : Next) (w : World) (R : Value → World → Prop) : Prop :=
  match n with
  | .value v => R v w
  | .skip => R undef w
  | .enter g args => ∀ (c : Frame) (cs : List Frame), ∃ v w', R v w' ∧ Steps P (lone (Frame.enter P g args .normal) (c :: cs) w) (lone (c.finish v) cs w')
  | .round l g tmps assign body => ∀ (c : Frame) (cs : List Frame), ∃ v w', R v w' ∧ Steps P (lone (Frame.round l g tmps assign body .normal) (c :: cs) w) (lone (c.finish v) cs w')
  | _ => False
theorem NGo.mono {n : Next} {w : World} {R R' : Value → World → Prop} (h : NGo P n w R) (hr : ∀ v w', R v w' → R' v w') : NGo P n w R' := by
  cases n <;> simp only [NGo] at h ⊢ <;> first | exact hr _ _ h | exact (fun c cs => let ⟨v, w', r, s⟩ := h c cs; ⟨v, w', hr _ _ r, s⟩) | exact h
structure OG (P : Program) (N : Nat) (E : Env) (D : List Deferred) (H : Heap) (o : Oper) (R : Value → Heap → Prop) : Prop where
  nodef : ∀ c, o.op ≠ .defer c
  go : ∀ (t : Array Value) (w : World), Agree N E t → Emb H w → ∃ n w1, (execOp (Act.eval ⟨t, D⟩) o).run P w = .ok n w1 ∧ NGo P n w1 (fun v w2 => ∃ H', Fr H w H' w2 ∧ R v H')
abbrev OQ (P : Program) (N : Nat) (E : Env) (D : List Deferred) (H : Heap) (o : Oper) (v : Value) : Prop := OG P N E D H o (fun u H' => u = v ∧ H' = H)
theorem ov {o : Oper} {v : Value} (hdef : ∀ c, o.op ≠ .defer c) (h : ∀ (t : Array Value) (w : World), Agree N E t → Emb H w → (execOp (Act.eval ⟨t, D⟩) o).run P w = .ok (.value v) w) : OQ P N E D H o v :=
  ⟨hdef, fun t w hA hE => ⟨_, w, h t w hA hE, H, Fr.refl hE, rfl, rfl⟩⟩
theorem vx_gen {o : Oper} {R : Value → Heap → Prop} (h : OG P N E D H o R) (hN : ∀ d, o.dst = some d → d < N) (hL : ∀ v H', R v H' → VL P f ro N ops l k (upd E o.dst v) D H' Q) : VX P f ro N ops o l k E D H Q := by
  intro i is hi his hw
  refine .stp fun t w cs hA hE => ?_
  obtain ⟨n, w1, hr, hn⟩ := h.go t w hA hE
  have hg := stepGR_op (P := P) (b := bas f ro) (a := ⟨t, D⟩) (k := k) (cs := cs) (w := w) (rest := is) hi (hw t hA)
  rw [Oper.semAt_eq _ _ _ h.nodef] at hg
  have hfin : ∀ v, ((bas f ro).atR ⟨t, D⟩ (.inRegion ops (i :: is) :: k)).finish v = (bas f ro).atR (Act.put ⟨t, D⟩ o.dst v) (.inRegion ops is :: k) := by
    intro v; rw [Frame.finish_atR, hi]; rfl
  have key : ∀ v w' H', Fr H w H' w' → R v H' → Steps P (lone ((bas f ro).atR ⟨t, D⟩ (.inRegion ops (i :: is) :: k)) cs w) (lone ((bas f ro).atR (Act.put ⟨t, D⟩ o.dst v) (.inRegion ops is :: k)) cs w') →
      ∃ t' w' k' E' D' H', Steps P (lone ((bas f ro).atR ⟨t, D⟩ (.inRegion ops (i :: is) :: k)) cs w) (lone ((bas f ro).atR ⟨t', D'⟩ k') cs w') ∧ Agree N E' t' ∧ Fr H w H' w' ∧ VRun P f ro N k' E' D' H' Q := by
    intro v w' H' hF hR hs
    exact ⟨(Act.put ⟨t, D⟩ o.dst v).tmps, w', .inRegion ops is :: k, upd E o.dst v, D, H', by rw [← put_defers]; exact hs, hA.upd hN v D, hF, hL v H' hR is his⟩
  cases n <;> simp only [NGo] at hn
  case value v =>
    obtain ⟨H', hF, hR⟩ := hn
    refine key v w1 H' hF hR (.one (step_lone_go ?_))
    rw [hg, ← hfin]; simp [stepG.apply, hr]
  case skip =>
    obtain ⟨H', hF, hR⟩ := hn
    refine key undef w1 H' hF hR (.one (step_lone_go ?_))
    rw [hg, ← hfin]; simp [stepG.apply, hr]
  case enter g args =>
    obtain ⟨v, w', ⟨H', hF, hR⟩, hs⟩ := hn ((bas f ro).atR ⟨t, D⟩ (.inRegion ops (i :: is) :: k)) cs
    refine key v w' H' hF hR (.head (step_lone_go ?_) (by rw [← hfin]; exact hs))
    rw [hg]; simp [stepG.apply, hr, Frame.atR]
  case round l g tmps assign body =>
    obtain ⟨v, w', ⟨H', hF, hR⟩, hs⟩ := hn ((bas f ro).atR ⟨t, D⟩ (.inRegion ops (i :: is) :: k)) cs
    refine key v w' H' hF hR (.head (step_lone_go ?_) (by rw [← hfin]; exact hs))
    rw [hg]; simp [stepG.apply, hr, Frame.atR]
theorem vxg {o : Oper} {d : Nat} {R : Value → Heap → Prop} (h : OG P N E D H o R) (ho : o.dst = some d) (hN : Nat.blt d N = true) (hL : ∀ v H', R v H' → VL P f ro N ops l k ((d, v) :: E) D H' Q) : VX P f ro N ops o l k E D H Q :=
  vx_gen h (fun d' hd' => by rw [ho] at hd'; cases hd'; exact Nat.le_of_ble_eq_true hN) (fun v H' hR => by rw [ho]; exact hL v H' hR)
theorem vxq {o : Oper} {d : Nat} {v : Value} (h : OQ P N E D H o v) (ho : o.dst = some d) (hN : Nat.blt d N = true) (hL : VL P f ro N ops l k ((d, v) :: E) D H Q) : VX P f ro N ops o l k E D H Q :=
  vxg h ho hN (fun u H' hR => by obtain ⟨rfl, rfl⟩ := hR; exact hL)
theorem vxs {o : Oper} {H1 : Heap} (h : OG P N E D H o (fun _ H' => H' = H1)) (ho : o.dst = Option.none) (hL : VL P f ro N ops l k E D H1 Q) : VX P f ro N ops o l k E D H Q :=
  vx_gen h (fun d' hd' => by rw [ho] at hd'; cases hd') (fun v H' hR => by subst hR; rw [ho]; exact hL)
def OA (P : Program) (N : Nat) (E : Env) (D : List Deferred) (o : Oper) (ob : Obj) : Prop := (∀ c, o.op ≠ .defer c) ∧
  ∀ (t : Array Value) (w : World), Agree N E t → (execOp (Act.eval ⟨t, D⟩) o).run P w = .ok (.value (.pointer (some ⟨w.heap.size, 0, Option.none⟩))) { w with heap := w.heap.push ob }
def InR (n : Int) : Prop := -9223372036854775808 ≤ n ∧ n ≤ 9223372036854775807
theorem wrap_id {n : Int} (h : InR n) : IntKind.i64.wrap n = n := by
  rw [IntKind.wrap_i64]
  have h1 := h.1
  have h2 := h.2
  omega
theorem vmv {d : Nat} {x : Operand} {v : Value} {ty : TypeId} {pos : String} {af : Array Edge} {g : Option (Nat × Bool)} (hx : ev E x = some v) :
    OQ P N E D H ⟨some d, .move x, ty, pos, af, g⟩ v :=
  ov (by simp) (fun t w hA _ => by simp [execOp, ev_eval hA hx])
theorem vas {d : Nat} {x : Operand} {v : Value} {ty : TypeId} {pos : String} {af : Array Edge} {g : Option (Nat × Bool)} (hx : ev E x = some v) :
    OQ P N E D H ⟨some d, .assign x, ty, pos, af, g⟩ v :=
  ov (by simp) (fun t w hA _ => by simp [execOp, ev_eval hA hx])
theorem vpkt {d : Nat} {c a b : Operand} {v : Value} {ty : TypeId} {pos : String} {af : Array Edge} {g : Option (Nat × Bool)} (hc : ev E c = some (.bool true)) (hx : ev E a = some v) :
    OQ P N E D H ⟨some d, .pick c a b, ty, pos, af, g⟩ v :=
  ov (by simp) (fun t w hA _ => by simp [execOp, ev_eval hA hx, ev_eval hA hc, asBool])
theorem vpkf {d : Nat} {c a b : Operand} {v : Value} {ty : TypeId} {pos : String} {af : Array Edge} {g : Option (Nat × Bool)} (hc : ev E c = some (.bool false)) (hx : ev E b = some v) :
    OQ P N E D H ⟨some d, .pick c a b, ty, pos, af, g⟩ v :=
  ov (by simp) (fun t w hA _ => by simp [execOp, ev_eval hA hx, ev_eval hA hc, asBool])
theorem vsplit {d : Nat} {b : Bool} (hb : look E d = some (.bool b)) (ht : b = true → VL P f ro N ops l k ((d, .bool true) :: E) D H Q) (hf : b = false → VL P f ro N ops l k ((d, .bool false) :: E) D H Q) :
    VL P f ro N ops l k E D H Q := by
  have key : ∀ b', b = b' → VL P f ro N ops l k ((d, .bool b') :: E) D H Q → VL P f ro N ops l k E D H Q := by
    intro b' hbb h is his
    refine VRun.weak (E' := (d, .bool b') :: E) (fun i v hi => ?_) (h is his)
    rw [look_cons] at hi
    by_cases e : i = d
    · subst e; rw [if_pos rfl] at hi; rw [hb, hbb]; exact hi
    · rw [if_neg e] at hi; exact hi
  cases b
  · exact key false rfl (hf rfl)
  · exact key true rfl (ht rfl)
theorem vsplitd {d : Nat} {p : Prop} {_ : Decidable p} (hb : look E d = some (.bool (decide p))) (ht : p → VL P f ro N ops l k ((d, .bool true) :: E) D H Q) (hf : ¬ p → VL P f ro N ops l k ((d, .bool false) :: E) D H Q) :
    VL P f ro N ops l k E D H Q := vsplit hb (fun h => ht (of_decide_eq_true h)) (fun h => hf (of_decide_eq_false h))
theorem vcondd {c : Operand} {x y : Code} {p : Prop} {_ : Decidable p} (hc : ev E c = some (.bool (decide p))) (ht : p → VRun P f ro N (.code x :: k) E D H Q) (hf : ¬ p → VRun P f ro N (.code y :: k) E D H Q) :
    VRun P f ro N (.code (.cond c x y) :: k) E D H Q := vcond hc (fun h => ht (of_decide_eq_true h)) (fun h => hf (of_decide_eq_false h))
theorem vknow {d : Nat} {b b' : Bool} (hb : look E d = some (.bool b)) (hbb : b = b') (h : VL P f ro N ops l k ((d, .bool b') :: E) D H Q) : VL P f ro N ops l k E D H Q := by
  subst hbb
  cases b
  · exact vsplit hb (fun h => by cases h) (fun _ => h)
  · exact vsplit hb (fun _ => h) (fun h => by cases h)
section arith
variable {d : Nat} {x y : Operand} {a b : Int} {T T' ty : TypeId} {pos : String} {af : Array Edge} {g : Option (Nat × Bool)}
theorem vadd (hx : ev E x = some (.int .i64 a)) (hy : ev E y = some (.int .i64 b)) (hr : InR (a + b)) :
    OQ P N E D H ⟨some d, .binOp .add T x y T', ty, pos, af, g⟩ (.int .i64 (a + b)) :=
  ov (by simp) (fun t w hA _ => by simp [execOp, ev_eval hA hx, ev_eval hA hy, binOp, eqGuard, Op.intArith, wrap_id hr])
theorem vsub (hx : ev E x = some (.int .i64 a)) (hy : ev E y = some (.int .i64 b)) (hr : InR (a - b)) :
    OQ P N E D H ⟨some d, .binOp .sub T x y T', ty, pos, af, g⟩ (.int .i64 (a - b)) :=
  ov (by simp) (fun t w hA _ => by simp [execOp, ev_eval hA hx, ev_eval hA hy, binOp, eqGuard, Op.intArith, wrap_id hr])
theorem vmul (hx : ev E x = some (.int .i64 a)) (hy : ev E y = some (.int .i64 b)) (hr : InR (a * b)) :
    OQ P N E D H ⟨some d, .binOp .mul T x y T', ty, pos, af, g⟩ (.int .i64 (a * b)) :=
  ov (by simp) (fun t w hA _ => by simp [execOp, ev_eval hA hx, ev_eval hA hy, binOp, eqGuard, Op.intArith, wrap_id hr])
theorem vquo (hx : ev E x = some (.int .i64 a)) (hy : ev E y = some (.int .i64 b)) (hb : b ≠ 0) (hr : InR (a.tdiv b)) :
    OQ P N E D H ⟨some d, .binOp .quo T x y T', ty, pos, af, g⟩ (.int .i64 (a.tdiv b)) :=
  ov (by simp) (fun t w hA _ => by simp [execOp, ev_eval hA hx, ev_eval hA hy, binOp, eqGuard, Op.intDiv, wrap_id hr, hb])
theorem vrem (hx : ev E x = some (.int .i64 a)) (hy : ev E y = some (.int .i64 b)) (hb : b ≠ 0) :
    OQ P N E D H ⟨some d, .binOp .rem T x y T', ty, pos, af, g⟩ (.int .i64 (a.tmod b)) :=
  ov (by simp) (fun t w hA _ => by simp [execOp, ev_eval hA hx, ev_eval hA hy, binOp, eqGuard, Op.intDiv, hb])
theorem vlss (hx : ev E x = some (.int .i64 a)) (hy : ev E y = some (.int .i64 b)) :
    OQ P N E D H ⟨some d, .binOp .lss T x y T', ty, pos, af, g⟩ (.bool (decide (a < b))) :=
  ov (by simp) (fun t w hA _ => by simp [execOp, ev_eval hA hx, ev_eval hA hy, binOp, eqGuard, Op.intCmp])
theorem vleq (hx : ev E x = some (.int .i64 a)) (hy : ev E y = some (.int .i64 b)) :
    OQ P N E D H ⟨some d, .binOp .leq T x y T', ty, pos, af, g⟩ (.bool (decide (a ≤ b))) :=
  ov (by simp) (fun t w hA _ => by simp [execOp, ev_eval hA hx, ev_eval hA hy, binOp, eqGuard, Op.intCmp])
theorem vgtr (hx : ev E x = some (.int .i64 a)) (hy : ev E y = some (.int .i64 b)) :
    OQ P N E D H ⟨some d, .binOp .gtr T x y T', ty, pos, af, g⟩ (.bool (decide (b < a))) :=
  ov (by simp) (fun t w hA _ => by simp [execOp, ev_eval hA hx, ev_eval hA hy, binOp, eqGuard, Op.intCmp])
theorem vgeq (hx : ev E x = some (.int .i64 a)) (hy : ev E y = some (.int .i64 b)) :
    OQ P N E D H ⟨some d, .binOp .geq T x y T', ty, pos, af, g⟩ (.bool (decide (b ≤ a))) :=
  ov (by simp) (fun t w hA _ => by simp [execOp, ev_eval hA hx, ev_eval hA hy, binOp, eqGuard, Op.intCmp])
theorem veql {kd : IntKind} (hx : ev E x = some (.int kd a)) (hy : ev E y = some (.int kd b)) :
    OQ P N E D H ⟨some d, .binOp .eql T x y T', ty, pos, af, g⟩ (.bool (decide (a = b))) :=
  ov (by simp) (fun t w hA _ => by simp [execOp, ev_eval hA hx, ev_eval hA hy, binOp, eqGuard, Op.intCmp, BEq.beq])
theorem vneq {kd : IntKind} (hx : ev E x = some (.int kd a)) (hy : ev E y = some (.int kd b)) :
    OQ P N E D H ⟨some d, .binOp .neq T x y T', ty, pos, af, g⟩ (.bool (decide (a ≠ b))) :=
  ov (by simp) (fun t w hA _ => by simp [execOp, ev_eval hA hx, ev_eval hA hy, binOp, eqGuard, Op.intCmp, bne, BEq.beq])
theorem vneg (hx : ev E x = some (.int .i64 a)) (hr : InR (-a)) :
    OQ P N E D H ⟨some d, .unOp .neg T x, ty, pos, af, g⟩ (.int .i64 (-a)) :=
  ov (by simp) (fun t w hA _ => by simp [execOp, ev_eval hA hx, Op.unary, Op.intArith, wrap_id hr])
theorem vnot {b : Bool} (hx : ev E x = some (.bool b)) :
    OQ P N E D H ⟨some d, .unOp .not T x, ty, pos, af, g⟩ (.bool (!b)) :=
  ov (by simp) (fun t w hA _ => by simp [execOp, ev_eval hA hx, Op.unary])
theorem vnotd {p : Prop} {_ : Decidable p} (hx : ev E x = some (.bool (decide p))) :
    OQ P N E D H ⟨some d, .unOp .not T x, ty, pos, af, g⟩ (.bool (decide (¬ p))) :=
  ov (by simp) (fun t w hA _ => by simp [execOp, ev_eval hA hx, Op.unary])
theorem vmin2 {ats : Array TypeId} (hx : ev E x = some (.int .i64 a)) (hy : ev E y = some (.int .i64 b)) :
    OQ P N E D H ⟨some d, .call ⟨.builtin .min, #[x, y], ats⟩, ty, pos, af, g⟩ (.int .i64 (min a b)) :=
  ov (by simp) (fun t w hA _ => by
    have : (if b < a then b else a) = min a b := by omega
    simp [execOp, resolve, invoke, builtin, Builtin.min_, Builtin.min2, ev_eval hA hx, ev_eval hA hy, this])
theorem vmax2 {ats : Array TypeId} (hx : ev E x = some (.int .i64 a)) (hy : ev E y = some (.int .i64 b)) :
    OQ P N E D H ⟨some d, .call ⟨.builtin .max, #[x, y], ats⟩, ty, pos, af, g⟩ (.int .i64 (max a b)) :=
  ov (by simp) (fun t w hA _ => by
    have : (if a < b then b else a) = max a b := by omega
    simp [execOp, resolve, invoke, builtin, Builtin.max_, Builtin.max2, ev_eval hA hx, ev_eval hA hy, this])
theorem vmin3 {z : Operand} {c : Int} {ats : Array TypeId} (hx : ev E x = some (.int .i64 a)) (hy : ev E y = some (.int .i64 b)) (hz : ev E z = some (.int .i64 c)) :
    OQ P N E D H ⟨some d, .call ⟨.builtin .min, #[x, y, z], ats⟩, ty, pos, af, g⟩ (.int .i64 (min (min a b) c)) :=
  ov (by simp) (fun t w hA _ => by
    have h1 : (if b < a then b else a) = min a b := by omega
    have h2 : (if c < min a b then c else min a b) = min (min a b) c := by omega
    simp [execOp, resolve, invoke, builtin, Builtin.min_, Builtin.min2, ev_eval hA hx, ev_eval hA hy, ev_eval hA hz, h1, h2])
theorem vmax3 {z : Operand} {c : Int} {ats : Array TypeId} (hx : ev E x = some (.int .i64 a)) (hy : ev E y = some (.int .i64 b)) (hz : ev E z = some (.int .i64 c)) :
    OQ P N E D H ⟨some d, .call ⟨.builtin .max, #[x, y, z], ats⟩, ty, pos, af, g⟩ (.int .i64 (max (max a b) c)) :=
  ov (by simp) (fun t w hA _ => by
    have h1 : (if a < b then b else a) = max a b := by omega
    have h2 : (if max a b < c then c else max a b) = max (max a b) c := by omega
    simp [execOp, resolve, invoke, builtin, Builtin.max_, Builtin.max2, ev_eval hA hx, ev_eval hA hy, ev_eval hA hz, h1, h2])
end arith
end
end Go.Proofs.YtoebpndlbldfcaaGreatDoor
namespace Go.Proofs.YtoebpndlbldfcaaGreatDoor
open Go
class TSc (P : Program) (T : TypeId) : Prop where
  agg : ∀ w, (isAgg T).run P w = .ok false w
  size : ∀ w, (sizeOf T).run P w = .ok 1 w
class TAg (P : Program) (T : TypeId) (n : outParam Nat) : Prop where
  agg : ∀ w, (isAgg T).run P w = .ok true w
  size : ∀ w, (sizeOf T).run P w = .ok n w
class TZe (P : Program) (T : TypeId) (zs : outParam (List Value)) : Prop where
  zero : ∃ z, z.cells = zs.toArray ∧ ∀ w, (zeroValue T).run P w = .ok z w
class TFl (P : Program) (T : TypeId) (i : Nat) (off : outParam Nat) : Prop where
  fld : ∀ b o w, (Instr.fieldAt T (.pointer (some ⟨b, o, Option.none⟩)) i).run P w = .ok (.pointer (some ⟨b, o + off, Option.none⟩)) w
class TBd (P : Program) (T : TypeId) (zs : outParam (List Value)) (pl : outParam (Nat → Option (Nat × Nat))) : Prop where
  bd : ∀ parts c w, Instr.fill pl zs.toArray parts.toList = some c → (Instr.build T parts).run P w = .ok (.agg c) w
class TAr (P : Program) (T : TypeId) (n esz : outParam Nat) : Prop where
  addr : ∀ b o (kd : IntKind) (i : Int) w, 0 ≤ i ∧ i < n → (Instr.indexAt T (.pointer (some ⟨b, o, Option.none⟩)) (.int kd i)).run P w = .ok (.pointer (some ⟨b, o + i.toNat * esz, Option.none⟩)) w
class TAv (P : Program) (T : TypeId) (sc : Bool) (n esz : outParam Nat) : Prop where
  idx : ∀ (cs vs : List Value) (kd : IntKind) (i : Int) w, 0 ≤ i ∧ i < n → vs.length = esz → (cs.drop (i.toNat * esz)).take esz = vs →
    (Instr.index T (.agg cs.toArray) (.int kd i)).run P w = .ok (bif sc then vs.headD undef else .agg vs.toArray) w
class TSl (P : Program) (T : TypeId) (e esz : outParam Nat) : Prop where
  und : P.underlying T = some (.slice e)
  size : ∀ w, (sizeOf e).run P w = .ok esz w
class TEq (P : Program) (T : TypeId) (n : outParam Nat) : Prop where
  grd : ∀ op x y xs ys w, (eqGuard op T x y (.agg xs) (.agg ys)).run P w = .ok () w
  eq : ∀ (xs ys : List Int) w, xs.length = n → ys.length = n → (Op.equalIn 10000 T (.agg (xs.map (Value.int .i64)).toArray) (.agg (ys.map (Value.int .i64)).toArray)).run P w = .ok (decide (xs = ys)) w
class TFn (P : Program) (g : FuncId) : Prop where
  fn : ∃ fn, P.funcs[g]? = some fn ∧ (fn.name == "runtime.NumGoroutine") = false ∧ fn.body.isNone = false
def blk (cs : List Value) (T : TypeId) : Obj := .cells cs.toArray T (0, 0)
def nth : List Value → Nat → Option Value
  | [], _ => Option.none
  | v :: r, n => match n with | 0 => some v | n + 1 => nth r n
theorem nth_eq : ∀ (l : List Value) (n : Nat), nth l n = l[n]?
  | [], _ => by simp [nth]
  | v :: r, 0 => by simp [nth]
  | v :: r, n + 1 => by simp [nth, nth_eq r n]
def tak : List Value → Nat → Option (List Value)
  | _, 0 => some []
  | [], _ + 1 => Option.none
  | v :: r, n + 1 => match tak r n with | some l => some (v :: l) | Option.none => Option.none
theorem tak_eq : ∀ (l : List Value) (n : Nat) (vs : List Value), tak l n = some vs → l.take n = vs ∧ vs.length = n
  | _, 0, vs, h => by simp [tak] at h; subst h; simp
  | [], n + 1, vs, h => by simp [tak] at h
  | v :: r, n + 1, vs, h => by
    simp only [tak] at h
    split at h
    · rename_i l hl
      obtain ⟨h1, h2⟩ := tak_eq r n l hl
      cases h
      simp [h1, h2]
    · cases h
def sub : List Value → Nat → Nat → Option (List Value)
  | l, 0, n => tak l n
  | [], _ + 1, _ => Option.none
  | _ :: r, o + 1, n => sub r o n
theorem sub_eq : ∀ (l : List Value) (o n : Nat) (vs : List Value), sub l o n = some vs → (l.drop o).take n = vs ∧ vs.length = n
  | l, 0, n, vs, h => by simpa using tak_eq l n vs (by simpa [sub] using h)
  | [], o + 1, n, vs, h => by simp [sub] at h
  | _ :: r, o + 1, n, vs, h => by simpa using sub_eq r o n vs (by simpa [sub] using h)
def put : List Value → Nat → List Value → Option (List Value)
  | l, 0, [] => some l
  | [], 0, _ :: _ => Option.none
  | _ :: r, 0, v :: vs => match put r 0 vs with | some l => some (v :: l) | Option.none => Option.none
  | [], _ + 1, _ => Option.none
  | u :: r, o + 1, vs => match put r o vs with | some l => some (u :: l) | Option.none => Option.none
theorem put_cons : ∀ (l : List Value) (o : Nat) (v : Value) (vs l' : List Value), put l o (v :: vs) = some l' → o < l.length ∧ put (l.set o v) (o + 1) vs = some l'
  | [], 0, v, vs, l', h => by simp [put] at h
  | u :: r, 0, v, vs, l', h => by
    simp only [put] at h
    refine ⟨by simp, ?_⟩
    simpa [put] using h
  | [], o + 1, v, vs, l', h => by simp [put] at h
  | u :: r, o + 1, v, vs, l', h => by
    simp only [put] at h
    split at h
    · rename_i l hl
      obtain ⟨h1, h2⟩ := put_cons r o v vs l hl
      refine ⟨by simpa using h1, ?_⟩
      simp only [List.set_cons_succ, put, h2]
      exact h
    · cases h
theorem put_nil : ∀ (l : List Value) (o : Nat) (l' : List Value), put l o [] = some l' → l' = l
  | l, 0, l', h => by simp [put] at h; exact h.symm
  | [], o + 1, l', h => by simp [put] at h
  | u :: r, o + 1, l', h => by
    simp only [put] at h
    split at h
    · rename_i l hl; cases h; rw [put_nil r o l hl]
    · cases h
def oneC : Value → Bool
  | .agg _ | .tuple _ => false
  | _ => true
def allOne : List Value → Bool
  | [] => true
  | v :: r => match oneC v with | true => allOne r | false => false
theorem allOne_mem : ∀ (l : List Value), allOne l = true → ∀ v ∈ l, oneC v = true
  | [], _, v, h => by cases h
  | u :: r, h, v, hv => by
    simp only [allOne] at h
    split at h
    · rename_i hu
      rcases List.mem_cons.1 hv with rfl | hv
      · exact hu
      · exact allOne_mem r h v hv
    · cases h
def cellsL : Value → Option (List Value)
  | .agg ⟨l⟩ => some l
  | .tuple _ => Option.none
  | v => some [v]
theorem cellsL_eq {v : Value} {l : List Value} (h : cellsL v = some l) : v.cells = l.toArray := by
  cases v <;> simp_all [cellsL, Value.cells]
  subst h; rfl
def evL (E : Env) : List Operand → Option (List Value)
  | [] => some []
  | x :: r => match ev E x with
    | some v => match evL E r with | some l => some (v :: l) | Option.none => Option.none
    | Option.none => Option.none
theorem evL_map {N : Nat} {E : Env} {D : List Deferred} {t : Array Value} (hA : Agree N E t) : ∀ (xs : List Operand) (vs : List Value), evL E xs = some vs → xs.map (Act.eval ⟨t, D⟩) = vs
  | [], vs, h => by simp [evL] at h; simp [h]
  | x :: r, vs, h => by
    simp only [evL] at h
    split at h
    · rename_i v hv
      split at h
      · rename_i l hl
        cases h
        simp [ev_eval hA hv, evL_map hA r l hl]
      · cases h
    · cases h
def app : List Value → List Value → List Value
  | [], ys => ys
  | x :: xs, ys => x :: app xs ys
theorem app_eq : ∀ (xs ys : List Value), app xs ys = xs ++ ys
  | [], ys => rfl
  | x :: xs, ys => by simp [app, app_eq xs ys]
def appO : List Value → List Value → Option (List Value)
  | [], ys => some ys
  | x :: xs, ys => match appO xs ys with | some l => some (x :: l) | Option.none => Option.none
theorem appO_eq : ∀ (xs ys l : List Value), appO xs ys = some l → xs ++ ys = l
  | [], ys, l, h => by simp [appO] at h; simp [h]
  | x :: xs, ys, l, h => by
    simp only [appO] at h
    split at h
    · rename_i m hm; cases h; simp [appO_eq xs ys m hm]
    · cases h
def intsOf : List Value → Option (List Int)
  | [] => some []
  | .int .i64 n :: r => match intsOf r with | some l => some (n :: l) | Option.none => Option.none
  | _ :: _ => Option.none
theorem intsOf_eq : ∀ (l : List Value) (xs : List Int), intsOf l = some xs → l = xs.map (Value.int .i64)
  | [], xs, h => by simp [intsOf] at h; subst h; rfl
  | v :: r, xs, h => by
    unfold intsOf at h
    split at h
    · cases h <;> simp_all
    · rename_i n r' heq
      cases heq
      split at h
      · rename_i l hl; cases h; simp [intsOf_eq r l hl]
      · cases h
    · cases h
class HAt (H : Heap) (b : Nat) (cs : outParam (List Value)) (T : outParam TypeId) : Prop where
  mem : (b, blk cs T) ∈ H
instance HAt.head {H : Heap} {b : Nat} {cs : List Value} {T : TypeId} : HAt ((b, blk cs T) :: H) b cs T := ⟨by simp⟩
instance (priority := low) HAt.tail {x : Nat × Obj} {H : Heap} {b : Nat} {cs : List Value} {T : TypeId} [h : HAt H b cs T] : HAt (x :: H) b cs T := ⟨List.mem_cons_of_mem _ h.mem⟩
class HUp (H : Heap) (b : Nat) (cs : outParam (List Value)) (T : outParam TypeId) (F : outParam (List Value → Heap)) : Prop where
  split : ∃ pre post, H = pre ++ (b, blk cs T) :: post ∧ ∀ c, F c = pre ++ (b, blk c T) :: post
instance HUp.head {H : Heap} {b : Nat} {cs : List Value} {T : TypeId} : HUp ((b, blk cs T) :: H) b cs T (fun c => (b, blk c T) :: H) := ⟨[], H, rfl, fun _ => rfl⟩
instance (priority := low) HUp.tail {x : Nat × Obj} {H : Heap} {b : Nat} {cs : List Value} {T : TypeId} {F : List Value → Heap} [h : HUp H b cs T F] : HUp (x :: H) b cs T (fun c => x :: F c) := by
  obtain ⟨pre, post, h1, h2⟩ := h.split
  exact ⟨x :: pre, post, by rw [h1]; rfl, fun c => by rw [h2]; rfl⟩
theorem HAt.get {H : Heap} {b : Nat} {cs : List Value} {T : TypeId} (h : HAt H b cs T) {w : World} (hE : Emb H w) : w.heap[b]? = some (.cells cs.toArray T (0, 0)) := hE.at_ _ h.mem
theorem cell_of {b : Nat} {cs : List Value} {T : TypeId} {w : World} (h : w.heap[b]? = some (.cells cs.toArray T (0, 0))) (o : Nat) : w.cell? ⟨b, o, Option.none⟩ = cs[o]? := by
  simp [World.cell?, h]
theorem HUp.set {H : Heap} {b : Nat} {cs : List Value} {T : TypeId} {F : List Value → Heap} (h : HUp H b cs T F) {w w' : World} (hE : Emb H w) {c : List Value}
    (h1 : w'.heap[b]? = some (.cells c.toArray T (0, 0))) (h2 : ∀ j, j ≠ b → w'.heap[j]? = w.heap[j]?) (hs : w'.heap.size = w.heap.size) (ho : w'.os = w.os) (ht : w'.tape = w.tape) (hu : w'.output = w.output) :
    Fr H w (F c) w' := by
  obtain ⟨pre, post, rfl, hF⟩ := h.split
  rw [hF]
  have hnd := hE.nodup
  have hk : (pre ++ (b, blk c T) :: post).map Prod.fst = (pre ++ (b, blk cs T) :: post).map Prod.fst := by simp
  have hb : ∀ e, (e ∈ pre ∨ e ∈ post) → e.1 ≠ b := by
    intro e he heb
    simp only [List.map_append, List.map_cons, List.nodup_append, List.nodup_cons] at hnd
    obtain ⟨_, ⟨hp, _⟩, hd⟩ := hnd
    rcases he with he | he
    · exact hd e.1 (List.mem_map.2 ⟨e, he, rfl⟩) b (by simp) heb
    · exact hp (List.mem_map.2 ⟨e, he, heb⟩)
  refine ⟨ho, ht, hu, by omega, fun j hj hn => h2 j (fun e => hn (by subst e; simp)), ⟨by rw [hk]; exact hnd, fun e he => ?_⟩, fun e he => .inl (by rw [← hk]; exact List.mem_map.2 ⟨e, he, rfl⟩)⟩
  rcases List.mem_append.1 he with he' | he'
  · rw [h2 _ (hb e (.inl he'))]; exact hE.at_ e (by simp [he'])
  · rcases List.mem_cons.1 he' with rfl | he'
    · exact h1
    · rw [h2 _ (hb e (.inr he'))]; exact hE.at_ e (by simp [he'])
theorem Fr.new {H : Heap} {w : World} (hE : Emb H w) (o : Obj) : Fr H w ((w.heap.size, o) :: H) { w with heap := w.heap.push o } := by
  have hget : ∀ j, j < w.heap.size → (w.heap.push o)[j]? = w.heap[j]? := fun j hj => by rw [Array.getElem?_push, if_neg (by omega)]
  refine ⟨rfl, rfl, rfl, by simp, fun j hj _ => hget j hj, ⟨?_, ?_⟩, ?_⟩
  · simp only [List.map_cons, List.nodup_cons]
    refine ⟨fun hm => ?_, hE.nodup⟩
    obtain ⟨e, he, h1⟩ := List.mem_map.1 hm
    have := hE.lt he
    omega
  · intro e he
    rcases List.mem_cons.1 he with rfl | he
    · simp
    · show (w.heap.push o)[e.1]? = _
      rw [hget _ (hE.lt he)]; exact hE.at_ e he
  · intro e he
    rcases List.mem_cons.1 he with rfl | he
    · exact .inr (Nat.le_refl _)
    · exact .inl (List.mem_map.2 ⟨e, he, rfl⟩)
theorem run_loadCellsFrom {P : Program} {w : World} {b o : Nat} : ∀ (vs : List Value) (i : Nat) (acc : Array Value), (∀ j, j < vs.length → w.cell? ⟨b, o + (i + j), Option.none⟩ = vs[j]?) →
    (loadCellsFrom ⟨b, o, Option.none⟩ i vs.length acc).run P w = .ok (acc ++ vs.toArray) w
  | [], i, acc, _ => by simp [loadCellsFrom]
  | v :: r, i, acc, h => by
    have h0 := h 0 (by simp)
    have hadd : (⟨b, o, Option.none⟩ : Addr).add i = ⟨b, o + i, Option.none⟩ := by
      unfold Addr.add; split
      · rename_i e; subst e; simp
      · rfl
    simp only [Nat.add_zero, List.getElem?_cons_zero] at h0
    simp only [List.length_cons, loadCellsFrom, hadd]
    have hl : (load ⟨b, o + i, Option.none⟩).run P w = .ok v w := by simp [load, Sem.run, h0]
    rw [Sem.run_bind, hl]
    simp only [Result.andThen]
    have := run_loadCellsFrom (P := P) (w := w) (b := b) (o := o) r (i + 1) (acc.push v) (fun j hj => by
      have := h (j + 1) (by simpa using hj)
      rw [show o + (i + 1 + j) = o + (i + (j + 1)) by omega]; simpa using this)
    rw [this]
    simp
theorem run_loadN {P : Program} {w : World} {b o n : Nat} {cs vs : List Value} {T T' : TypeId} [hT : TAg P T n] (hb : w.heap[b]? = some (.cells cs.toArray T' (0, 0))) (hv : sub cs o n = some vs) :
    (loadVar T ⟨b, o, Option.none⟩).run P w = .ok (.agg vs.toArray) w := by
  obtain ⟨h1, h2⟩ := sub_eq cs o n vs hv
  have key := run_loadCellsFrom (P := P) (w := w) (b := b) (o := o) vs 0 #[] (fun j hj => by
    rw [cell_of hb, ← h1]
    simp only [Nat.zero_add]
    rw [List.getElem?_take_of_lt (by omega), List.getElem?_drop])
  simp only [loadVar, Sem.run_bind, hT.agg, Result.andThen, if_true, hT.size, Sem.run_pure]
  rw [loadCells, ← h2, key]
  simp
theorem run_load1 {P : Program} {w : World} {b o : Nat} {v : Value} {T : TypeId} [hT : TSc P T] (hv : w.cell? ⟨b, o, Option.none⟩ = some v) :
    (loadVar T ⟨b, o, Option.none⟩).run P w = .ok v w := by
  simp only [loadVar, Sem.run_bind, hT.agg, Result.andThen]
  simp [load, Sem.run, hv]
theorem run_storeCells {P : Program} {b o : Nat} {T' : TypeId} : ∀ (vs : List Value) (i : Nat) (cs cs' : List Value) (w : World), w.heap[b]? = some (.cells cs.toArray T' (0, 0)) → put cs (o + i) vs = some cs' → allOne vs = true →
    ∃ w', (storeCells ⟨b, o, Option.none⟩ vs i).run P w = .ok () w' ∧ w'.heap[b]? = some (.cells cs'.toArray T' (0, 0)) ∧ (∀ j, j ≠ b → w'.heap[j]? = w.heap[j]?) ∧ w'.heap.size = w.heap.size ∧ w'.os = w.os ∧ w'.tape = w.tape ∧ w'.output = w.output
  | [], i, cs, cs', w, hb, hp, _ => by
    have := put_nil cs (o + i) cs' hp
    subst this
    exact ⟨w, by simp [storeCells], hb, fun _ _ => rfl, rfl, rfl, rfl, rfl⟩
  | v :: vs, i, cs, cs', w, hb, hp, h1 => by
    obtain ⟨hlt, hp'⟩ := put_cons cs (o + i) v vs cs' hp
    have hadd : (⟨b, o, Option.none⟩ : Addr).add i = ⟨b, o + i, Option.none⟩ := by
      unfold Addr.add; split
      · rename_i e; subst e; simp
      · rfl
    have hv := allOne_mem _ h1 v (by simp)
    have h1' : allOne vs = true := by simp only [allOne, hv] at h1; exact h1
    have hcell : w.cell? ⟨b, o + i, Option.none⟩ = some (cs[o + i]'hlt) := by rw [cell_of hb]; simp [hlt]
    have hfz : w.frozen? ⟨b, o + i, Option.none⟩ = false := by simp [World.frozen?, hb]
    have hst : (store ⟨b, o + i, Option.none⟩ v).run P w = .ok () (w.setCell ⟨b, o + i, Option.none⟩ v) := by
      unfold store
      cases v <;> simp_all [Sem.run, oneC]
    have hnew : (w.setCell ⟨b, o + i, Option.none⟩ v).heap[b]? = some (.cells (cs.set (o + i) v).toArray T' (0, 0)) := by
      simp [World.setCell, Array.getElem?_modify, hb]
    have hoth : ∀ j, j ≠ b → (w.setCell ⟨b, o + i, Option.none⟩ v).heap[j]? = w.heap[j]? := fun j hj => by
      simp only [World.setCell, Array.getElem?_modify]
      rw [if_neg (Ne.symm hj)]
    obtain ⟨w', hr, g1, g2, g3, g4, g5, g6⟩ := run_storeCells vs (i + 1) (cs.set (o + i) v) cs' _ hnew (by rw [← Nat.add_assoc]; exact hp') h1'
    refine ⟨w', ?_, g1, fun j hj => (g2 j hj).trans (hoth j hj), g3.trans (by simp [World.setCell]), g4, g5, g6⟩
    simp only [storeCells, hadd, Sem.run_bind, hst, Result.andThen]
    exact hr
theorem run_storeN {P : Program} {b o : Nat} {T T' : TypeId} {v : Value} {n : Nat} {vs cs cs' : List Value} {w : World} (hs : ∀ w, (sizeOf T).run P w = .ok n w) (hb : w.heap[b]? = some (.cells cs.toArray T' (0, 0)))
    (hc : v.cells = vs.toArray) (hn : vs.length = n) (hp : put cs o vs = some cs') (h1 : allOne vs = true) :
    ∃ w', (storeVar T ⟨b, o, Option.none⟩ v).run P w = .ok () w' ∧ w'.heap[b]? = some (.cells cs'.toArray T' (0, 0)) ∧ (∀ j, j ≠ b → w'.heap[j]? = w.heap[j]?) ∧ w'.heap.size = w.heap.size ∧ w'.os = w.os ∧ w'.tape = w.tape ∧ w'.output = w.output := by
  obtain ⟨w', hr, g⟩ := run_storeCells (P := P) (o := o) vs 0 cs cs' w hb (by simpa using hp) h1
  refine ⟨w', ?_, g⟩
  simp only [storeVar, Sem.run_bind, hs, Result.andThen, hc]
  simp [hn, hr]
section
variable {P : Program} {f : FuncId} {ro : Option Nat} {N : Nat} {k : List Item} {E : Env} {D : List Deferred} {H : Heap} {Q : Out → Heap → Prop}
variable {ops : Array Oper} {l : List Oper}
variable {d : Nat} {x y : Operand} {T ty : TypeId} {pos : String} {af : Array Edge} {g : Option (Nat × Bool)}
theorem vld1 {b o : Nat} {cs : List Value} {T' : TypeId} {v : Value} [hT : TSc P T] [hH : HAt H b cs T'] (hx : ev E x = some (.pointer (some ⟨b, o, Option.none⟩))) (hv : nth cs o = some v) :
    OQ P N E D H ⟨some d, .load T x, ty, pos, af, g⟩ v :=
  ov (by simp) (fun t w hA hE => by
    have := run_load1 (P := P) (T := T) (w := w) (b := b) (o := o) (v := v) (by rw [cell_of (hH.get hE), ← nth_eq]; exact hv)
    simp [execOp, ev_eval hA hx, Instr.loadAt, Instr.sureAddr, this])
theorem vldn {b o n : Nat} {cs vs : List Value} {T' : TypeId} [hT : TAg P T n] [hH : HAt H b cs T'] (hx : ev E x = some (.pointer (some ⟨b, o, Option.none⟩))) (hv : sub cs o n = some vs) :
    OQ P N E D H ⟨some d, .load T x, ty, pos, af, g⟩ (.agg vs.toArray) :=
  ov (by simp) (fun t w hA hE => by
    have := run_loadN (P := P) (T := T) (w := w) (b := b) (o := o) (hH.get hE) hv
    simp [execOp, ev_eval hA hx, Instr.loadAt, Instr.sureAddr, this])
theorem vldm {a : Addr} {v : Value} (hx : ev E x = some (.pointer (some a))) (hv : ∀ w, Emb H w → (loadVar T a).run P w = .ok v w) :
    OQ P N E D H ⟨some d, .load T x, ty, pos, af, g⟩ v :=
  ov (by simp) (fun t w hA hE => by simp [execOp, ev_eval hA hx, Instr.loadAt, Instr.sureAddr, hv w hE])
theorem vst1 {b o : Nat} {cs cs' : List Value} {T' : TypeId} {F : List Value → Heap} {v : Value} [hT : TSc P T] [hH : HUp H b cs T' F] (hx : ev E x = some (.pointer (some ⟨b, o, Option.none⟩))) (hy : ev E y = some v)
    (h1 : oneC v = true) (hp : put cs o [v] = some cs') : OG P N E D H ⟨Option.none, .store T x y, ty, pos, af, g⟩ (fun _ H' => H' = F cs') := by
  refine ⟨by simp, fun t w hA hE => ?_⟩
  have hget : w.heap[b]? = some (.cells cs.toArray T' (0, 0)) := by
    obtain ⟨pre, post, h, _⟩ := hH.split
    exact hE.at_ (b, blk cs T') (by rw [h]; simp)
  obtain ⟨w', hr, g1, g2, g3, g4, g5, g6⟩ := run_storeN (P := P) (T := T) (v := v) (vs := [v]) hT.size hget (by cases v <;> simp_all [Value.cells, oneC]) rfl hp (by simp [allOne, h1])
  refine ⟨.skip, w', ?_, F cs', hH.set hE g1 g2 g3 g4 g5 g6, rfl⟩
  simp [execOp, ev_eval hA hx, ev_eval hA hy, Instr.storeAt, Instr.sureAddr, hr]
theorem vstn {b o n : Nat} {cs cs' vs : List Value} {T' : TypeId} {F : List Value → Heap} [hT : TAg P T n] [hH : HUp H b cs T' F] (hx : ev E x = some (.pointer (some ⟨b, o, Option.none⟩))) (hy : ev E y = some (.agg vs.toArray))
    (hn : Nat.beq vs.length n = true) (h1 : allOne vs = true) (hp : put cs o vs = some cs') : OG P N E D H ⟨Option.none, .store T x y, ty, pos, af, g⟩ (fun _ H' => H' = F cs') := by
  refine ⟨by simp, fun t w hA hE => ?_⟩
  have hget : w.heap[b]? = some (.cells cs.toArray T' (0, 0)) := by
    obtain ⟨pre, post, h, _⟩ := hH.split
    exact hE.at_ (b, blk cs T') (by rw [h]; simp)
  obtain ⟨w', hr, g1, g2, g3, g4, g5, g6⟩ := run_storeN (P := P) (T := T) (v := .agg vs.toArray) (vs := vs) hT.size hget rfl (Nat.eq_of_beq_eq_true hn) hp h1
  refine ⟨.skip, w', ?_, F cs', hH.set hE g1 g2 g3 g4 g5 g6, rfl⟩
  simp [execOp, ev_eval hA hx, ev_eval hA hy, Instr.storeAt, Instr.sureAddr, hr]
theorem HUp.same {b : Nat} {cs : List Value} {T : TypeId} {F : List Value → Heap} (h : HUp H b cs T F) : F cs = H := by
  obtain ⟨pre, post, h1, h2⟩ := h.split
  rw [h2, h1]
theorem vst1s {b o : Nat} {cs : List Value} {T' : TypeId} {F : List Value → Heap} {v : Value} [hT : TSc P T] [hH : HUp H b cs T' F] (hx : ev E x = some (.pointer (some ⟨b, o, Option.none⟩))) (hy : ev E y = some v)
    (h1 : oneC v = true) (hp : put cs o [v] = some cs) : OQ P N E D H ⟨Option.none, .store T x y, ty, pos, af, g⟩ undef := by
  refine ⟨by simp, fun t w hA hE => ?_⟩
  have hget : w.heap[b]? = some (.cells cs.toArray T' (0, 0)) := by
    obtain ⟨pre, post, h, _⟩ := hH.split
    exact hE.at_ (b, blk cs T') (by rw [h]; simp)
  obtain ⟨w', hr, g1, g2, g3, g4, g5, g6⟩ := run_storeN (P := P) (T := T) (v := v) (vs := [v]) hT.size hget (by cases v <;> simp_all [Value.cells, oneC]) rfl hp (by simp [allOne, h1])
  have hF := hH.set hE g1 g2 g3 g4 g5 g6
  rw [hH.same] at hF
  refine ⟨.skip, w', ?_, H, hF, rfl, rfl⟩
  simp [execOp, ev_eval hA hx, ev_eval hA hy, Instr.storeAt, Instr.sureAddr, hr]
theorem vstns {b o n : Nat} {cs vs : List Value} {T' : TypeId} {F : List Value → Heap} [hT : TAg P T n] [hH : HUp H b cs T' F] (hx : ev E x = some (.pointer (some ⟨b, o, Option.none⟩))) (hy : ev E y = some (.agg vs.toArray))
    (hn : Nat.beq vs.length n = true) (h1 : allOne vs = true) (hp : put cs o vs = some cs) : OQ P N E D H ⟨Option.none, .store T x y, ty, pos, af, g⟩ undef := by
  refine ⟨by simp, fun t w hA hE => ?_⟩
  have hget : w.heap[b]? = some (.cells cs.toArray T' (0, 0)) := by
    obtain ⟨pre, post, h, _⟩ := hH.split
    exact hE.at_ (b, blk cs T') (by rw [h]; simp)
  obtain ⟨w', hr, g1, g2, g3, g4, g5, g6⟩ := run_storeN (P := P) (T := T) (v := .agg vs.toArray) (vs := vs) hT.size hget rfl (Nat.eq_of_beq_eq_true hn) hp h1
  have hF := hH.set hE g1 g2 g3 g4 g5 g6
  rw [hH.same] at hF
  refine ⟨.skip, w', ?_, H, hF, rfl, rfl⟩
  simp [execOp, ev_eval hA hx, ev_eval hA hy, Instr.storeAt, Instr.sureAddr, hr]
theorem run_newVar {w : World} {v : Value} : (newVar T v).run P w = .ok ⟨w.heap.size, 0, Option.none⟩ { w with heap := w.heap.push (.cells v.cells T) } := by
  simp [newVar, newRow, newObj, Sem.run]
theorem valloc {zs : List Value} [hT : TZe P T zs] : OA P N E D ⟨some d, .alloc T, ty, pos, af, g⟩ (blk zs T) := by
  refine ⟨by simp, fun t w hA => ?_⟩
  obtain ⟨z, hz, hzr⟩ := hT.zero
  simp [execOp, Instr.alloc, hzr, run_newVar, hz, blk]
theorem vbox {v : Value} {cs : List Value} (hx : ev E x = some v) (hc : cellsL v = some cs) : OA P N E D ⟨some d, .box T x, ty, pos, af, g⟩ (blk cs T) := by
  refine ⟨by simp, fun t w hA => ?_⟩
  simp [execOp, Instr.box, ev_eval hA hx, run_newVar, cellsL_eq hc, blk]
theorem OA.og {o : Oper} {ob : Obj} (h : OA P N E D o ob) : OG P N E D H o (fun v H' => ∃ b, v = .pointer (some ⟨b, 0, Option.none⟩) ∧ H' = (b, ob) :: H) :=
  ⟨h.1, fun t w hA hE => ⟨_, _, h.2 t w hA, (w.heap.size, ob) :: H, Fr.new hE ob, w.heap.size, rfl, rfl⟩⟩
theorem vxa {o : Oper} {ob : Obj} (h : OA P N E D o ob) (ho : o.dst = some d) (hN : Nat.blt d N = true) (hL : ∀ b, VL P f ro N ops l k ((d, .pointer (some ⟨b, 0, Option.none⟩)) :: E) D ((b, ob) :: H) Q) : VX P f ro N ops o l k E D H Q :=
  vxg h.og ho hN (fun v H' hR => by obtain ⟨b, rfl, rfl⟩ := hR; exact hL b)
theorem vfa {b o off i : Nat} [hT : TFl P T i off] (hx : ev E x = some (.pointer (some ⟨b, o, Option.none⟩))) :
    OQ P N E D H ⟨some d, .fieldAddr T x i, ty, pos, af, g⟩ (.pointer (some ⟨b, o + off, Option.none⟩)) :=
  ov (by simp) (fun t w hA hE => by simp [execOp, ev_eval hA hx, hT.fld])
theorem via {b o n esz : Nat} {kd : IntKind} {i : Int} [hT : TAr P T n esz] (hx : ev E x = some (.pointer (some ⟨b, o, Option.none⟩))) (hy : ev E y = some (.int kd i)) (hi : 0 ≤ i ∧ i < n) :
    OQ P N E D H ⟨some d, .indexAddr T x y, ty, pos, af, g⟩ (.pointer (some ⟨b, o + i.toNat * esz, Option.none⟩)) :=
  ov (by simp) (fun t w hA hE => by simp [execOp, ev_eval hA hx, ev_eval hA hy, hT.addr b o kd i w hi])
theorem vis {b o n c e esz : Nat} {kd : IntKind} {i : Int} [hT : TSl P T e esz] (hx : ev E x = some (.slice (some ⟨b, o, Option.none⟩) n c)) (hy : ev E y = some (.int kd i)) (hi : 0 ≤ i ∧ i < n) :
    OQ P N E D H ⟨some d, .indexAddr T x y, ty, pos, af, g⟩ (.pointer (some ⟨b, o + i.toNat * esz, Option.none⟩)) :=
  ov (by simp) (fun t w hA hE => by
    have hadd : (⟨b, o, Option.none⟩ : Addr).add (i.toNat * esz) = ⟨b, o + i.toNat * esz, Option.none⟩ := by
      unfold Addr.add; split
      · rename_i e; rw [e]; simp
      · rfl
    simp [execOp, ev_eval hA hx, ev_eval hA hy, Instr.indexAt, asIntOf, run_underlying hT.und, hi, hT.size, hadd])
theorem vex {vs : List Value} {i : Nat} {v : Value} (hx : ev E x = some (.tuple vs.toArray)) (hv : nth vs i = some v) :
    OQ P N E D H ⟨some d, .extract x i, ty, pos, af, g⟩ v :=
  ov (by simp) (fun t w hA hE => by
    rw [nth_eq] at hv
    simp [execOp, ev_eval hA hx, Instr.extract, hv])
theorem vmf {fn : Fn} {cl : List Operand} {vs : List Value} (hc : evL E cl = some vs) :
    OQ P N E D H ⟨some d, .makeFunc fn #[] cl.toArray, ty, pos, af, g⟩ (.func fn #[] vs.toArray) :=
  ov (by simp) (fun t w hA hE => by
    have := evL_map (D := D) hA cl vs hc
    simp [execOp, Instr.makeFunc, this])
theorem vlen {a : Option Addr} {n c e esz : Nat} {ats : List TypeId} [hT : TSl P T e esz] (hx : ev E x = some (.slice a n c)) :
    OQ P N E D H ⟨some d, .call ⟨.builtin .len, #[x], (T :: ats).toArray⟩, ty, pos, af, g⟩ (.int .i64 (n : Int)) :=
  ov (by simp) (fun t w hA hE => by simp [execOp, resolve, invoke, builtin, Builtin.len_, ev_eval hA hx, run_underlying hT.und, goInt])
theorem vnc {a : Addr} (hx : ev E x = some (.pointer (some a))) :
    OQ P N E D H ⟨some d, .nilCheck x, ty, pos, af, g⟩ (.pointer (some a)) :=
  ov (by simp) (fun t w hA hE => by simp [execOp, ev_eval hA hx])
theorem vixa1 {cs : List Value} {n : Nat} {kd : IntKind} {i : Int} {v : Value} [hT : TAv P T true n 1] (hx : ev E x = some (.agg cs.toArray)) (hy : ev E y = some (.int kd i)) (hi : 0 ≤ i ∧ i < n) (hv : nth cs i.toNat = some v) :
    OQ P N E D H ⟨some d, .index T x y, ty, pos, af, g⟩ v :=
  ov (by simp) (fun t w hA hE => by
    rw [nth_eq] at hv
    have := hT.idx cs [v] kd i w hi rfl (by
      have hlt := (List.getElem?_eq_some_iff.1 hv).1
      have hge := (List.getElem?_eq_some_iff.1 hv).2
      rw [Nat.mul_one, List.drop_eq_getElem_cons hlt, hge]; rfl)
    simp [execOp, ev_eval hA hx, ev_eval hA hy, this])
theorem vixan {cs vs : List Value} {n esz : Nat} {kd : IntKind} {i : Int} [hT : TAv P T false n esz] (hx : ev E x = some (.agg cs.toArray)) (hy : ev E y = some (.int kd i)) (hi : 0 ≤ i ∧ i < n) (hv : sub cs (i.toNat * esz) esz = some vs) :
    OQ P N E D H ⟨some d, .index T x y, ty, pos, af, g⟩ (.agg vs.toArray) :=
  ov (by simp) (fun t w hA hE => by
    obtain ⟨h3, h4⟩ := sub_eq _ _ _ _ hv
    have := hT.idx cs vs kd i w hi h4 h3
    simp [execOp, ev_eval hA hx, ev_eval hA hy, this])
def evP (E : Env) : List (Nat × Operand) → Option (List (Nat × List Value))
  | [] => some []
  | (i, x) :: r => match ev E x with
    | some v => match cellsL v with
      | some cs => match evP E r with | some l => some ((i, cs) :: l) | Option.none => Option.none
      | Option.none => Option.none
    | Option.none => Option.none
def fillL (fs : Nat → Option (Nat × Nat)) : List Value → List (Nat × List Value) → Option (List Value)
  | cs, [] => some cs
  | cs, (i, vs) :: r => match fs i with
    | some (off, n) => match Nat.beq vs.length n with
      | true => match put cs off vs with | some cs' => fillL fs cs' r | Option.none => Option.none
      | false => Option.none
    | Option.none => Option.none
theorem foldl_put : ∀ (vs : List Value) (cs cs' : List Value) (off j : Nat), put cs (off + j) vs = some cs' →
    (vs.zipIdx j).foldl (fun (c : Array Value) (p : Value × Nat) => c.setIfInBounds (off + p.2) p.1) cs.toArray = cs'.toArray ∧ off + j + vs.length ≤ cs.length
  | [], cs, cs', off, j, h => by
    have h1 := put_nil _ _ _ h
    subst h1
    refine ⟨by simp, ?_⟩
    have : ∀ (l : List Value) (o : Nat) l', put l o [] = some l' → o ≤ l.length := by
      intro l o
      induction o generalizing l with
      | zero => intros; omega
      | succ o ih =>
        intro l' hl
        cases l with
        | nil => simp [put] at hl
        | cons u r =>
          simp only [put] at hl
          split at hl
          · rename_i m hm; have := ih r m hm; simp; omega
          · cases hl
    simpa using this _ _ _ h
  | v :: vs, cs, cs', off, j, h => by
    obtain ⟨hlt, hp⟩ := put_cons _ _ _ _ _ h
    obtain ⟨h1, h2⟩ := foldl_put vs (cs.set (off + j) v) cs' off (j + 1) (by rw [← Nat.add_assoc]; exact hp)
    refine ⟨?_, by simp at h2 ⊢; omega⟩
    simp only [List.zipIdx_cons, List.foldl_cons, List.setIfInBounds_toArray]
    exact h1
theorem fill_eq (fs : Nat → Option (Nat × Nat)) {N : Nat} {E : Env} {D : List Deferred} {t : Array Value} (hA : Agree N E t) : ∀ (ps : List (Nat × Operand)) (qs : List (Nat × List Value)) (cs cs' : List Value), evP E ps = some qs → fillL fs cs qs = some cs' →
    Instr.fill fs cs.toArray (ps.map fun p => (p.1, Act.eval ⟨t, D⟩ p.2)) = some cs'.toArray
  | [], qs, cs, cs', h, h' => by
    simp [evP] at h; subst h
    simp [fillL] at h'; subst h'
    simp [Instr.fill]
  | (i, x) :: r, qs, cs, cs', h, h' => by
    simp only [evP] at h
    split at h
    · rename_i v hv
      split at h
      · rename_i vs hvs
        split at h
        · rename_i q hq
          cases h
          simp only [fillL] at h'
          split at h'
          · rename_i off n hf
            split at h'
            · rename_i hn
              split at h'
              · rename_i c2 hp
                have hlen : vs.length = n := Nat.eq_of_beq_eq_true hn
                obtain ⟨f1, f2⟩ := foldl_put vs cs c2 off 0 (by simpa using hp)
                simp only [List.map_cons, Instr.fill, hf, ev_eval hA hv, cellsL_eq hvs]
                rw [if_neg (by simp [hlen] at f2 ⊢; omega)]
                have f1' : Array.foldl (fun cs x => cs.setIfInBounds (off + x.snd) x.fst) cs.toArray vs.toArray.zipIdx = c2.toArray := by
                  rw [← Array.foldl_toList]
                  simpa using f1
                rw [f1']
                exact fill_eq fs hA r q c2 cs' hq h'
              · cases h'
            · cases h'
          · cases h'
        · cases h
      · cases h
    · cases h
theorem vbd {ps : List (Nat × Operand)} {qs : List (Nat × List Value)} {zs cs : List Value} {fs : Nat → Option (Nat × Nat)} [hT : TBd P T zs fs] (hp : evP E ps = some qs) (hc : fillL fs zs qs = some cs) :
    OQ P N E D H ⟨some d, .build T ps.toArray, ty, pos, af, g⟩ (.agg cs.toArray) :=
  ov (by simp) (fun t w hA hE => by
    have h1 := fill_eq fs (D := D) hA ps qs zs cs hp hc
    have h2 := hT.bd (ps.toArray.map fun p => (p.1, Act.eval ⟨t, D⟩ p.2)) cs.toArray w
    have h3 : (ps.toArray.map fun p => (p.1, Act.eval ⟨t, D⟩ p.2)).toList = ps.map fun p => (p.1, Act.eval ⟨t, D⟩ p.2) := by simp
    rw [h3] at h2
    have h2 := h2 h1
    simp only [execOp, Sem.run_bind, h2, Result.andThen, Sem.run_pure])
theorem veqs {cx cy : List Value} {xs ys : List Int} {n : Nat} {T' : TypeId} [hT : TEq P T n] (hx : ev E x = some (.agg cx.toArray)) (hy : ev E y = some (.agg cy.toArray)) (hix : intsOf cx = some xs) (hiy : intsOf cy = some ys)
    (hlx : Nat.beq xs.length n = true) (hly : Nat.beq ys.length n = true) :
    OQ P N E D H ⟨some d, .binOp .eql T x y T', ty, pos, af, g⟩ (.bool (decide (xs = ys))) :=
  ov (by simp) (fun t w hA hE => by
    have h1 := hT.grd .eql x y cx.toArray cy.toArray w
    have h2 := hT.eq xs ys w (Nat.eq_of_beq_eq_true hlx) (Nat.eq_of_beq_eq_true hly)
    rw [← intsOf_eq _ _ hix, ← intsOf_eq _ _ hiy] at h2
    simp only [execOp, ev_eval hA hx, ev_eval hA hy, Sem.run_bind, h1, Result.andThen, run_eql_struct, h2, Sem.run_pure])
theorem vnes {cx cy : List Value} {xs ys : List Int} {n : Nat} {T' : TypeId} [hT : TEq P T n] (hx : ev E x = some (.agg cx.toArray)) (hy : ev E y = some (.agg cy.toArray)) (hix : intsOf cx = some xs) (hiy : intsOf cy = some ys)
    (hlx : Nat.beq xs.length n = true) (hly : Nat.beq ys.length n = true) :
    OQ P N E D H ⟨some d, .binOp .neq T x y T', ty, pos, af, g⟩ (.bool (decide (xs ≠ ys))) :=
  ov (by simp) (fun t w hA hE => by
    have h1 := hT.grd .neq x y cx.toArray cy.toArray w
    have h2 := hT.eq xs ys w (Nat.eq_of_beq_eq_true hlx) (Nat.eq_of_beq_eq_true hly)
    rw [← intsOf_eq _ _ hix, ← intsOf_eq _ _ hiy] at h2
    simp only [execOp, ev_eval hA hx, ev_eval hA hy, Sem.run_bind, h1, Result.andThen, run_neq_struct, h2, Sem.run_pure, decide_not])
def VPure (P : Program) (g : FuncId) (args : List Value) (v : Value) : Prop := ∀ H, VCall P g args.toArray H (fun o H' => o = .val v ∧ H' = H)
theorem run_callFunc {P : Program} {g : FuncId} [hf : TFn P g] (args : Array Value) (w : World) : (callFunc g args).run P w = .ok (.enter g args) w := by
  obtain ⟨fn, h1, h2, h3⟩ := hf.fn
  simp only [callFunc, program, Sem.run_bind, Sem.run, Result.andThen, h1, h2, h3]
  rfl
theorem vcg {gf : FuncId} {cl : Operand} {al : List Operand} {ats : Array TypeId} {caps vs as : List Value} {R : Value → Heap → Prop} {R0 : Out → Heap → Prop} [hf : TFn P gf] (hx : ev E cl = some (.func (.func gf) #[] caps.toArray)) (ha : evL E al = some vs) (has : appO vs caps = some as)
    (hc : VCall P gf as.toArray H R0) (hv : ∀ o H', R0 o H' → ∃ v, o = .val v ∧ R v H') :
    OG P N E D H ⟨some d, .call ⟨.value cl, al.toArray, ats⟩, ty, pos, af, g⟩ R := by
  refine ⟨by simp, fun t w hA hE => ⟨.enter gf as.toArray, w, ?_, fun c cs => ?_⟩⟩
  · have h1 := evL_map (D := D) hA al vs ha
    simp [execOp, resolve, Deferred.ofValue, invoke, ev_eval hA hx, h1, run_callFunc, ← appO_eq _ _ _ has]
  · obtain ⟨o, w', m', H', hR, hF, hs, hfin⟩ := hc w (c :: cs) hE
    obtain ⟨v, rfl, hv'⟩ := hv o H' hR
    obtain ⟨_, fr', rfl, _, hleave⟩ := hfin
    exact ⟨v, w', ⟨H', hF, hv'⟩, hs.trans (.one (step_leave_returned hleave))⟩
theorem vcp {gf : FuncId} {cl : Operand} {al : List Operand} {ats : Array TypeId} {caps vs as : List Value} {v : Value} [hf : TFn P gf] (hx : ev E cl = some (.func (.func gf) #[] caps.toArray)) (ha : evL E al = some vs) (has : appO vs caps = some as)
    (hc : VPure P gf as v) : OQ P N E D H ⟨some d, .call ⟨.value cl, al.toArray, ats⟩, ty, pos, af, g⟩ v :=
  vcg hx ha has (hc H) (fun _ _ h => ⟨v, h.1, rfl, h.2⟩)
inductive RV (P : Program) (E : Env) (H : Heap) : ResultVar → Value → Prop
  | tmp {s : Nat} {v : Value} (h : look E s = some v) : RV P E H (.tmp s) v
  | cell1 {s b o : Nat} {T T' : TypeId} {cs : List Value} {v : Value} [hT : TSc P T] [hH : HAt H b cs T'] (h : look E s = some (.pointer (some ⟨b, o, Option.none⟩))) (hv : nth cs o = some v) : RV P E H (.cell s T) v
  | celln {s b o n : Nat} {T T' : TypeId} {cs vs : List Value} [hT : TAg P T n] [hH : HAt H b cs T'] (h : look E s = some (.pointer (some ⟨b, o, Option.none⟩))) (hv : sub cs o n = some vs) : RV P E H (.cell s T) (.agg vs.toArray)
def rs (t : Array Value) : ResultVar → Sem Value := fun
  | .tmp s => pure (t.getD s undef)
  | .cell a T => do loadVar T (← asAddr (t.getD a undef))
theorem results_rs (fn : Func) (t : Array Value) : results fn t = (do
    let vs ← fn.results.mapM (rs t)
    pure (if h : vs.size = 1 then vs[0] else .tuple vs)) := rfl
theorem RV.run {r : ResultVar} {v : Value} (h : RV P E H r v) {t : Array Value} {w : World} (hA : Agree N E t) (hE : Emb H w) : (rs t r).run P w = .ok v w := by
  cases h with
  | tmp h => simp only [rs, hA.val _ _ h, Sem.run_pure]
  | @cell1 s b o T T' cs v hT hH h hv =>
    have := run_load1 (P := P) (T := T) (w := w) (b := b) (o := o) (v := v) (by rw [cell_of (hH.get hE), ← nth_eq]; exact hv)
    simp only [rs, hA.val _ _ h, asAddr, Sem.run_bind, Sem.run_pure, Result.andThen, this]
  | @celln s b o n T T' cs vs hT hH h hv =>
    have := run_loadN (P := P) (T := T) (w := w) (b := b) (o := o) (hH.get hE) hv
    simp only [rs, hA.val _ _ h, asAddr, Sem.run_bind, Sem.run_pure, Result.andThen, this]
theorem vr0 {fn : Func} {H' : Heap} (hf : P.funcs[f]? = some fn) (hr : fn.results = #[]) (hs : H'.Sublist H) (hq : Q (.val (.tuple #[])) H') : VRet P f N E [] H Q :=
  vret_vals hf (fun t w hA hE => by simp [results, hr]) hs hq
theorem vr1 {fn : Func} {r : ResultVar} {v : Value} {H' : Heap} (hf : P.funcs[f]? = some fn) (hr : fn.results = #[r]) (h : RV P E H r v) (hs : H'.Sublist H) (hq : Q (.val v) H') : VRet P f N E [] H Q :=
  vret_vals hf (fun t w hA hE => by
    have h1 := h.run hA hE
    rw [results_rs, hr]
    simp [Sem.run_bind, h1, Result.andThen]) hs hq
theorem vr2 {fn : Func} {r1 r2 : ResultVar} {v1 v2 : Value} {H' : Heap} (hf : P.funcs[f]? = some fn) (hr : fn.results = #[r1, r2]) (h1 : RV P E H r1 v1) (h2 : RV P E H r2 v2) (hs : H'.Sublist H) (hq : Q (.val (.tuple [v1, v2].toArray)) H') : VRet P f N E [] H Q :=
  vret_vals hf (fun t w hA hE => by
    have g1 := h1.run hA hE
    have g2 := h2.run hA hE
    rw [results_rs, hr]
    simp [Sem.run_bind, g1, g2, Result.andThen]) hs hq
theorem vr3 {fn : Func} {r1 r2 r3 : ResultVar} {v1 v2 v3 : Value} {H' : Heap} (hf : P.funcs[f]? = some fn) (hr : fn.results = #[r1, r2, r3]) (h1 : RV P E H r1 v1) (h2 : RV P E H r2 v2) (h3 : RV P E H r3 v3) (hs : H'.Sublist H) (hq : Q (.val (.tuple [v1, v2, v3].toArray)) H') : VRet P f N E [] H Q :=
  vret_vals hf (fun t w hA hE => by
    have g1 := h1.run hA hE
    have g2 := h2.run hA hE
    have g3 := h3.run hA hE
    rw [results_rs, hr]
    simp [Sem.run_bind, g1, g2, g3, Result.andThen]) hs hq
end
end Go.Proofs.YtoebpndlbldfcaaGreatDoor
namespace Go.Proofs.YtoebpndlbldfcaaGreatDoor
open Go
section
variable {P : Program} {T : TypeId}
theorem run_info {i : TypeInfo} (h : P.info? T = some i) (w : World) : (typeInfo T).run P w = .ok i w := by
  simp [typeInfo, program, Sem.run, h]
theorem size_run {n : Nat} (h : (P.info? T).map (·.size) = some n) (w : World) : (sizeOf T).run P w = .ok n w := by
  cases hi : P.info? T with
  | none => simp [hi] at h
  | some i => simp [hi] at h; simp [sizeOf, run_info hi, h]
def aggB (P : Program) (T : TypeId) : Option Bool :=
  match P.underlying T with
  | some (.struct _) | some (.array _ _) => some true
  | some _ => some false
  | Option.none => Option.none
theorem agg_run {b : Bool} (h : aggB P T = some b) (w : World) : (isAgg T).run P w = .ok b w := by
  unfold aggB at h
  split at h
  · rename_i fs hu; cases h; simp [isAgg, run_underlying hu]
  · rename_i n e hu; cases h; simp [isAgg, run_underlying hu]
  · rename_i d h1 h2 hu; cases h
    simp only [isAgg, Sem.run_bind, run_underlying hu, Result.andThen]
    cases d <;> first | rfl | simp_all
  · cases h
theorem mkTSc (h : aggB P T = some false) (hs : (P.info? T).map (·.size) = some 1) : TSc P T := ⟨agg_run h, size_run hs⟩
theorem mkTAg {n : Nat} (h : aggB P T = some true) (hs : (P.info? T).map (·.size) = some n) : TAg P T n := ⟨agg_run h, size_run hs⟩
theorem mkTZe {z : Value} {zs : List Value} (h : (P.info? T).map (·.zero) = some (some z)) (hc : z.cells = zs.toArray) : TZe P T zs := by
  refine ⟨z, hc, fun w => ?_⟩
  cases hi : P.info? T with
  | none => simp [hi] at h
  | some i => simp [hi] at h; simp [zeroValue, run_info hi, h]
def fldB (P : Program) (T : TypeId) (i : Nat) : Option (Nat × Bool) :=
  match P.underlying T with
  | some (.struct fs) => (fs[i]?).bind fun f => (P.info? f.type).map fun j => (f.offset, Nat.blt 0 j.size)
  | _ => Option.none
theorem mkTFl {i off : Nat} (h : fldB P T i = some (off, true)) : TFl P T i off := by
  refine ⟨fun b o w => ?_⟩
  unfold fldB at h
  split at h
  · rename_i fs hu
    cases hf : fs[i]? with
    | none => simp [hf] at h
    | some fd =>
      simp only [hf, Option.bind_some] at h
      cases hj : P.info? fd.type with
      | none => simp [hj] at h
      | some j =>
        simp only [hj, Option.map_some, Option.some.injEq, Prod.mk.injEq] at h
        obtain ⟨h1, h2⟩ := h
        have h3 : (0 : Nat) < j.size := Nat.le_of_ble_eq_true h2
        have hsz := size_run (P := P) (T := fd.type) (n := j.size) (by simp [hj]) w
        have hadd : (⟨b, o, Option.none⟩ : Addr).add off = ⟨b, o + off, Option.none⟩ := by
          unfold Addr.add; split
          · rename_i e; rw [e]; simp
          · rfl
        have hfp : (fieldPlace ⟨b, o, Option.none⟩ fd).run P w = .ok ⟨b, o + off, Option.none⟩ w := by
          simp only [fieldPlace, Sem.run_bind, hsz, Result.andThen]
          rw [if_neg (by omega), h1]
          simp [hadd]
        simp [Instr.fieldAt, run_underlying hu, hf, Instr.sureAddr, hfp]
  · cases h
theorem run_mapM_list {α β : Type} (g : α → Sem β) (g' : α → Option β) (hg : ∀ a b w, g' a = some b → (g a).run P w = .ok b w) : ∀ (l : List α) (l' : List β) (w : World), l.mapM g' = some l' → (l.mapM g).run P w = .ok l' w
  | [], l', w, h => by simp at h; subst h; simp
  | a :: r, l', w, h => by
    simp only [List.mapM_cons, Option.bind_eq_bind, Option.bind_eq_some_iff, Option.pure_def, Option.some.injEq] at h
    obtain ⟨b, hb, m, hm, rfl⟩ := h
    simp [List.mapM_cons, hg a b w hb, run_mapM_list g g' hg r m w hm]
def placesB (P : Program) (T : TypeId) : Option (List (Nat × Nat)) :=
  match P.underlying T with
  | some (.struct fs) => fs.toList.mapM fun f => (P.info? f.type).map fun j => (f.offset, j.size)
  | _ => Option.none
theorem mkTBd {z : Value} {zs : List Value} {fs : List (Nat × Nat)} (h : (P.info? T).map (·.zero) = some (some z)) (hc : z.cells = zs.toArray) (hp : placesB P T = some fs) : TBd P T zs (fun i => fs[i]?) := by
  refine ⟨fun parts c w hfill => ?_⟩
  have hz : (zeroValue T).run P w = .ok z w := by
    cases hi : P.info? T with
    | none => simp [hi] at h
    | some i => simp [hi] at h; simp [zeroValue, run_info hi, h]
  unfold placesB at hp
  split at hp
  · rename_i fl hu
    have hm := run_mapM_list (P := P) (fun f : Field => (do pure (f.offset, ← sizeOf f.type) : Sem (Nat × Nat))) (fun f => (P.info? f.type).map fun j => (f.offset, j.size)) (fun a b w hb => by
      cases hj : P.info? a.type with
      | none => simp [hj] at hb
      | some j =>
        simp [hj] at hb; subst hb
        have := size_run (P := P) (T := a.type) (n := j.size) (by simp [hj]) w
        simp [this]) fl.toList fs w hp
    have hm2 : (fl.mapM (fun f : Field => (do pure (f.offset, ← sizeOf f.type) : Sem (Nat × Nat)))).run P w = .ok fs.toArray w := by
      rw [← Array.toArray_toList (xs := fl)]
      rw [List.mapM_toArray]
      simp at hm
      simp [hm]
    have hpl : (fun i : Nat => fs.toArray[i]?) = fun i : Nat => fs[i]? := by funext i; simp
    simp only [Instr.build, Sem.run_bind, hz, Result.andThen, run_underlying hu, hm2, hc, hpl, hfill, Sem.run_pure]
  · cases hp
def arrB (P : Program) (T : TypeId) : Option (Nat × Nat × Bool) :=
  match P.underlying T with
  | some (.array n e) => (P.info? e).bind fun j => (aggB P e).map fun b => (n, j.size, b)
  | _ => Option.none
theorem mkTBda {z : Value} {zs : List Value} {n esz : Nat} {b : Bool} (h : (P.info? T).map (·.zero) = some (some z)) (hc : z.cells = zs.toArray) (hp : arrB P T = some (n, esz, b)) : TBd P T zs (fun i => some (i * esz, esz)) := by
  refine ⟨fun parts c w hfill => ?_⟩
  have hz : (zeroValue T).run P w = .ok z w := by
    cases hi : P.info? T with
    | none => simp [hi] at h
    | some i => simp [hi] at h; simp [zeroValue, run_info hi, h]
  unfold arrB at hp
  split at hp
  · rename_i m e hu
    cases hj : P.info? e with
    | none => simp [hj] at hp
    | some j =>
      simp only [hj, Option.bind_some, Option.map_eq_some_iff, Prod.mk.injEq] at hp
      obtain ⟨_, _, _, h2, _⟩ := hp
      have hs := size_run (P := P) (T := e) (n := esz) (by simp [hj, h2]) w
      simp only [Instr.build, Sem.run_bind, hz, Result.andThen, run_underlying hu, hs, hc, hfill, Sem.run_pure]
  · cases hp
theorem arrB_inv {n esz : Nat} {b : Bool} (hp : arrB P T = some (n, esz, b)) : ∃ e, P.underlying T = some (.array n e) ∧ (∀ w, (sizeOf e).run P w = .ok esz w) ∧ ∀ w, (isAgg e).run P w = .ok b w := by
  unfold arrB at hp
  split at hp
  · rename_i m e hu
    cases hj : P.info? e with
    | none => simp [hj] at hp
    | some j =>
      simp only [hj, Option.bind_some, Option.map_eq_some_iff, Prod.mk.injEq] at hp
      obtain ⟨c, hc, h1, h2, h3⟩ := hp
      subst h1; subst h3
      exact ⟨e, hu, size_run (by simp [hj, h2]), agg_run hc⟩
  · cases hp
theorem mkTAr {n esz : Nat} {b : Bool} (hp : arrB P T = some (n, esz, b)) : TAr P T n esz := by
  obtain ⟨e, hu, hs, _⟩ := arrB_inv hp
  refine ⟨fun b o kd i w hi => ?_⟩
  have hadd : (⟨b, o, Option.none⟩ : Addr).add (i.toNat * esz) = ⟨b, o + i.toNat * esz, Option.none⟩ := by
    unfold Addr.add; split
    · rename_i e; rw [e]; simp
    · rfl
  simp [Instr.indexAt, asIntOf, run_underlying hu, Instr.sureAddr, hi, hs, hadd]
theorem mkTAv {n esz : Nat} {b : Bool} (hp : arrB P T = some (n, esz, b)) (hb : b = false → esz = 1) : TAv P T (!b) n esz := by
  obtain ⟨e, hu, hs, ha⟩ := arrB_inv hp
  refine ⟨fun cs vs kd i w hi hl hv => ?_⟩
  simp only [Instr.index, Sem.run_bind, Result.andThen, asIntOf, Sem.run_pure, run_underlying hu, hs, hi]
  simp only [and_self, if_true, Sem.run_bind, part, ha, Result.andThen, hs]
  cases b
  · have h1 := hb rfl
    subst h1
    match vs, hl with
    | [v], _ =>
      have : cs[i.toNat]? = some v := by
        have h2 : (List.drop (i.toNat * 1) cs)[0]? = some v := by
          have := congrArg (fun l : List Value => l[0]?) hv
          simpa [List.getElem?_take] using this
        simpa using h2
      simp [this]
  · simp [hv, hs]
theorem mkTSl {e esz : Nat} (h : P.underlying T = some (.slice e)) (hs : (P.info? e).map (·.size) = some esz) : TSl P T e esz := ⟨h, size_run hs⟩
theorem mkTFn {g : FuncId} {fn : Func} (h : P.funcs[g]? = some fn) (h1 : (fn.name == "runtime.NumGoroutine") = false) (h2 : fn.body.isNone = false) : TFn P g := ⟨fn, h, h1, h2⟩
end
def flatI (P : Program) : Nat → TypeId → Option Nat
  | 0, _ => Option.none
  | d + 1, T =>
    match P.underlying T with
    | some (.int .i64) => some 1
    | some (.struct fs) =>
      if P.stoodInHeld T then Option.none
      else fs.toList.foldlM (fun off f => if f.name ≠ "_" ∧ f.offset = off ∧ (aggB P f.type).isSome then (flatI P d f.type).bind fun n => if (P.info? f.type).map (·.size) = some n then some (off + n) else Option.none else Option.none) 0
    | some (.array n e) => (flatI P d e).bind fun m => if (P.info? e).map (·.size) = some m ∧ (aggB P e).isSome then some (n * m) else Option.none
    | _ => Option.none
def vI (l : List Int) : Array Value := (l.map (Value.int .i64)).toArray
section
variable {P : Program}
theorem run_part_flat {T : TypeId} {b : Bool} {n off : Nat} {xs : List Int} (ha : aggB P T = some b) (hs : (P.info? T).map (·.size) = some n) (hb : b = false → n = 1) (hl : off + n ≤ xs.length) (w : World) :
    (part T (vI xs) off).run P w = .ok (bif b then .agg (vI ((xs.drop off).take n)) else .int .i64 ((xs.drop off).headD 0)) w := by
  simp only [part, Sem.run_bind, agg_run ha, Result.andThen]
  cases b
  · have := hb rfl
    subst this
    have hlt : off < xs.length := by omega
    have h1 : (vI xs)[off]? = some (.int .i64 (xs[off])) := by simp [vI, hlt]
    rw [List.drop_eq_getElem_cons hlt]
    simp only [h1, Sem.run_pure, List.headD_cons, cond_false, Bool.false_eq_true, if_false]
  · simp only [if_true, Sem.run_bind, size_run hs, Result.andThen, Sem.run_pure, cond_true]
    congr 2
    simp [vI, List.map_drop, List.map_take]
def EqOk (P : Program) (T : TypeId) (n d0 : Nat) : Prop := ∀ (d : Nat) (xs ys : List Int) (w : World), d0 ≤ d → xs.length = n → ys.length = n →
  (∀ b, aggB P T = some b → (b = false → n = 1) ∧ (Op.equalIn d T (bif b then .agg (vI xs) else .int .i64 (xs.headD 0)) (bif b then .agg (vI ys) else .int .i64 (ys.headD 0))).run P w = .ok (decide (xs = ys)) w)
theorem take_drop_eq {xs ys : List Int} {off n : Nat} (h1 : off + n ≤ xs.length) (h2 : xs.length = ys.length) :
    (xs.drop off = ys.drop off) ↔ ((xs.drop off).take n = (ys.drop off).take n ∧ xs.drop (off + n) = ys.drop (off + n)) := by
  constructor
  · intro h
    rw [h]
    refine ⟨rfl, ?_⟩
    have := congrArg (List.drop n) h
    simpa [List.drop_drop] using this
  · rintro ⟨h3, h4⟩
    rw [← List.take_append_drop n (xs.drop off), ← List.take_append_drop n (ys.drop off), h3, List.drop_drop, List.drop_drop, h4]
theorem eqFields_ok {d0 : Nat} (ih : ∀ T n, flatI P d0 T = some n → EqOk P T n d0) : ∀ (fs : List Field) (off tot : Nat), 
    fs.foldlM (fun off f => if f.name ≠ "_" ∧ f.offset = off ∧ (aggB P f.type).isSome then (flatI P d0 f.type).bind fun n => if (P.info? f.type).map (·.size) = some n then some (off + n) else Option.none else Option.none) off = some tot →
    off ≤ tot ∧ ∀ (d : Nat) (xs ys : List Int) (w : World), d0 ≤ d → xs.length = tot → ys.length = tot → (Op.eqFields d (vI xs) (vI ys) fs).run P w = .ok (decide (xs.drop off = ys.drop off)) w
  | [], off, tot, h => by
    simp at h; subst h
    refine ⟨Nat.le_refl _, fun d xs ys w _ hx hy => ?_⟩
    have h1 : xs.drop off = [] := List.drop_eq_nil_of_le (by omega)
    have h2 : ys.drop off = [] := List.drop_eq_nil_of_le (by omega)
    simp [Op.eqFields, h1, h2]
  | f :: fs, off, tot, h => by
    simp only [List.foldlM_cons] at h
    by_cases hc : f.name ≠ "_" ∧ f.offset = off ∧ (aggB P f.type).isSome
    · rw [if_pos hc] at h
      obtain ⟨hn, ho, hag⟩ := hc
      cases hfl : flatI P d0 f.type with
      | none => simp [hfl] at h
      | some n =>
        simp only [hfl, Option.bind_some] at h
        by_cases hsz : (P.info? f.type).map (·.size) = some n
        · rw [if_pos hsz] at h
          simp only [Option.bind_eq_bind, Option.bind_some] at h
          obtain ⟨hle, hrest⟩ := eqFields_ok ih fs (off + n) tot h
          refine ⟨by omega, fun d xs ys w hd hx hy => ?_⟩
          obtain ⟨b, hb⟩ := Option.isSome_iff_exists.1 hag
          have hxl : ((xs.drop off).take n).length = n := by rw [List.length_take, List.length_drop]; omega
          have hyl : ((ys.drop off).take n).length = n := by rw [List.length_take, List.length_drop]; omega
          obtain ⟨hb1, hq⟩ := ih f.type n hfl d _ _ w hd hxl hyl b hb
          have px := run_part_flat (P := P) hb hsz hb1 (xs := xs) (off := off) (by omega) w
          have py := run_part_flat (P := P) hb hsz hb1 (xs := ys) (off := off) (by omega) w
          have e1 : (bif b then Value.agg (vI ((xs.drop off).take n)) else .int .i64 ((xs.drop off).headD 0)) = (bif b then .agg (vI ((xs.drop off).take n)) else .int .i64 (((xs.drop off).take n).headD 0)) := by
            cases b
            · have := hb1 rfl; subst this; simp only [cond_false]; congr 1; cases xs.drop off <;> simp
            · rfl
          have e2 : (bif b then Value.agg (vI ((ys.drop off).take n)) else .int .i64 ((ys.drop off).headD 0)) = (bif b then .agg (vI ((ys.drop off).take n)) else .int .i64 (((ys.drop off).take n).headD 0)) := by
            cases b
            · have := hb1 rfl; subst this; simp only [cond_false]; congr 1; cases ys.drop off <;> simp
            · rfl
          rw [e1] at px
          rw [e2] at py
          simp only [Op.eqFields, if_pos hn, ho, Sem.run_bind, px, py, Result.andThen, hq]
          by_cases he : (xs.drop off).take n = (ys.drop off).take n
          · simp only [he, decide_true, Bool.not_true, Bool.false_eq_true, if_false]
            rw [hrest d xs ys w hd hx hy]
            congr 1
            rw [decide_eq_decide, take_drop_eq (xs := xs) (ys := ys) (off := off) (n := n) (by omega) (by omega)]
            simp [he]
          · simp only [he, decide_false, Bool.not_false, if_true, Sem.run_pure]
            congr 1
            symm
            rw [decide_eq_false_iff_not, take_drop_eq (xs := xs) (ys := ys) (off := off) (n := n) (by omega) (by omega)]
            simp [he]
        · rw [if_neg hsz] at h; simp at h
    · rw [if_neg hc] at h; simp at h
theorem run_forIn_arr {P : Program} {e : TypeId} {d m : Nat} {xs ys : List Int} {w : World} {N : Nat} (b : Bool) (hb : aggB P e = some b) (hsz : (P.info? e).map (·.size) = some m) (hb1 : b = false → m = 1)
    (hx : xs.length = N * m) (hy : ys.length = N * m)
    (hq : ∀ (xs ys : List Int) (w : World), xs.length = m → ys.length = m → (Op.equalIn d e (bif b then .agg (vI xs) else .int .i64 (xs.headD 0)) (bif b then .agg (vI ys) else .int .i64 (ys.headD 0))).run P w = .ok (decide (xs = ys)) w) :
    ∀ (c i : Nat), i + c = N → 
    (forIn (m := Sem) (List.range' i c) ((Option.none, ()) : Option Bool × Unit) fun i r => (do
        let a ← part e (vI xs) (i * m)
        let a' ← part e (vI ys) (i * m)
        let q ← Op.equalIn d e a a'
        if (!q) = true then pure (.done (some false, ())) else pure (.yield (Option.none, ())) : Sem (ForInStep (Option Bool × Unit)))).run P w =
      .ok (if xs.drop (i * m) = ys.drop (i * m) then (Option.none, ()) else (some false, ())) w
  | 0, i, h => by
    have hi : i = N := by omega
    subst hi
    have h1 : xs.drop (i * m) = [] := List.drop_eq_nil_of_le (by omega)
    have h2 : ys.drop (i * m) = [] := List.drop_eq_nil_of_le (by omega)
    simp [h1, h2]
  | c + 1, i, h => by
    have hle : i * m + m ≤ N * m := by
      have : (i + 1) * m ≤ N * m := Nat.mul_le_mul_right _ (by omega)
      rw [Nat.add_mul] at this; omega
    have hxl : ((xs.drop (i * m)).take m).length = m := by rw [List.length_take, List.length_drop]; omega
    have hyl : ((ys.drop (i * m)).take m).length = m := by rw [List.length_take, List.length_drop]; omega
    have hq' := hq _ _ w hxl hyl
    have px := run_part_flat (P := P) hb hsz hb1 (xs := xs) (off := i * m) (by omega) w
    have py := run_part_flat (P := P) hb hsz hb1 (xs := ys) (off := i * m) (by omega) w
    have e1 : (bif b then Value.agg (vI ((xs.drop (i * m)).take m)) else .int .i64 ((xs.drop (i * m)).headD 0)) = (bif b then .agg (vI ((xs.drop (i * m)).take m)) else .int .i64 (((xs.drop (i * m)).take m).headD 0)) := by
      cases b
      · have := hb1 rfl; subst this; simp only [cond_false]; congr 1; cases xs.drop (i * 1) <;> simp
      · rfl
    have e2 : (bif b then Value.agg (vI ((ys.drop (i * m)).take m)) else .int .i64 ((ys.drop (i * m)).headD 0)) = (bif b then .agg (vI ((ys.drop (i * m)).take m)) else .int .i64 (((ys.drop (i * m)).take m).headD 0)) := by
      cases b
      · have := hb1 rfl; subst this; simp only [cond_false]; congr 1; cases ys.drop (i * 1) <;> simp
      · rfl
    rw [e1] at px
    rw [e2] at py
    have hstep : (i + 1) * m = i * m + m := by rw [Nat.add_mul]; omega
    simp only [List.range'_succ, List.forIn_cons, Sem.run_bind, px, py, Result.andThen, hq']
    by_cases he : (xs.drop (i * m)).take m = (ys.drop (i * m)).take m
    · simp only [he, decide_true, Bool.not_true, Bool.false_eq_true, if_false, Sem.run_pure]
      rw [run_forIn_arr b hb hsz hb1 hx hy hq c (i + 1) (by omega)]
      congr 1
      rw [hstep]
      have := take_drop_eq (xs := xs) (ys := ys) (off := i * m) (n := m) (by omega) (by omega)
      by_cases h5 : xs.drop (i * m + m) = ys.drop (i * m + m)
      · rw [if_pos h5, if_pos (this.2 ⟨he, h5⟩)]
      · rw [if_neg h5, if_neg (fun hh => h5 (this.1 hh).2)]
    · simp only [he, decide_false, Bool.not_false, if_true, Sem.run_pure]
      congr 1
      have := take_drop_eq (xs := xs) (ys := ys) (off := i * m) (n := m) (by omega) (by omega)
      rw [if_neg (fun hh => he (this.1 hh).1)]
theorem eqOk : ∀ (d0 : Nat) (T : TypeId) (n : Nat), flatI P d0 T = some n → EqOk P T n d0
  | 0, T, n, h => by simp [flatI] at h
  | d0 + 1, T, n, h => by
    intro d xs ys w hd hx hy b hb
    obtain ⟨d, rfl⟩ : ∃ e, d = e + 1 := ⟨d - 1, by omega⟩
    simp only [flatI] at h
    split at h
    · rename_i hu
      cases h
      have : b = false := by
        have h' := hb
        simp [aggB, hu] at h'
        exact h'
      subst this
      refine ⟨fun _ => rfl, ?_⟩
      match xs, ys, hx, hy with
      | [x], [y], _, _ => simp [Op.equalIn, run_underlying hu, BEq.beq]
    · rename_i fs hu
      have : b = true := by
        have h' := hb
        simp [aggB, hu] at h'
        exact h'
      subst this
      refine ⟨(fun h => by cases h), ?_⟩
      by_cases hs : P.stoodInHeld T = true
      · simp [hs] at h
      · simp only [hs, if_false, Bool.false_eq_true] at h
        have hf : P.fieldsOf T = fs := by simp [Program.fieldsOf, hu]
        obtain ⟨_, h2⟩ := eqFields_ok (fun T n h => eqOk d0 T n h) fs.toList 0 n h
        simp only [cond_true]
        rw [run_equalIn_struct w d T _ _ (by rw [hf]; exact hu) (by simpa using hs), hf, h2 d xs ys w (by omega) hx hy]
        simp
    · rename_i c e hu
      have : b = true := by
        have h' := hb
        simp [aggB, hu] at h'
        exact h'
      subst this
      refine ⟨(fun h => by cases h), ?_⟩
      cases hfl : flatI P d0 e with
      | none => simp [hfl] at h
      | some m =>
        simp only [hfl, Option.bind_some] at h
        by_cases hc : (P.info? e).map (·.size) = some m ∧ (aggB P e).isSome
        · rw [if_pos hc] at h
          cases h
          obtain ⟨b', hb'⟩ := Option.isSome_iff_exists.1 hc.2
          have hq : ∀ (xs ys : List Int) (w : World), xs.length = m → ys.length = m → _ := fun xs ys w hx hy => eqOk d0 e m hfl d xs ys w (by omega) hx hy b' hb'
          by_cases hm : c = 0
          · subst hm
            have h1 : xs = [] := List.length_eq_zero_iff.1 (by simpa using hx)
            have h2 : ys = [] := List.length_eq_zero_iff.1 (by simpa using hy)
            subst h1; subst h2
            simp [Op.equalIn, run_underlying hu, size_run hc.1]
          · have hb1 : b' = false → m = 1 := fun hbf => by
              have hlen : (List.replicate m (0 : Int)).length = m := by simp
              exact ((hq _ _ w hlen hlen).1 hbf)
            have hloop := run_forIn_arr (P := P) (w := w) (d := d) b' hb' hc.1 hb1 hx hy (fun xs ys w hx hy => (hq xs ys w hx hy).2) c 0 (by omega)
            simp only [cond_true, Op.equalIn, Sem.run_bind, run_underlying hu, Result.andThen, size_run hc.1]
            simp only [Std.Legacy.Range.forIn_eq_forIn_range', Std.Legacy.Range.size, Nat.sub_zero, Nat.add_one_sub_one, Nat.div_one]
            rw [hloop]
            simp only [Nat.zero_mul, List.drop_zero]
            by_cases he : xs = ys
            · simp [he, Result.andThen]
            · simp [he, Result.andThen]
        · rw [if_neg hc] at h; cases h
    · cases h
theorem mkTEq {T : TypeId} {n : Nat} (hg : P.eqGuardType P.depth T = false) (hf : flatI P 8 T = some n) (ha : aggB P T = some true) : TEq P T n :=
  ⟨fun op x y xs ys w => run_eqGuard_agg w op T x y xs ys hg, fun xs ys w hx hy => (eqOk 8 T n hf 10000 xs ys w (by omega) hx hy true ha).2⟩
end
end Go.Proofs.YtoebpndlbldfcaaGreatDoor
