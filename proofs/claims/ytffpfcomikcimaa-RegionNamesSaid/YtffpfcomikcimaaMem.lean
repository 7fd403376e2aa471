/-
  The engine's rules for operations on memory, for structs and arrays as values, for calls and for results. No condition.
-/
import Derived.Test.YtffpfcomikcimaaOps
namespace Go.Proofs.Ytffpfcomikcimaa
open Go

/-! ### Facts on a program's types and functions -/
class TSc (P : Program) (T : TypeId) : Prop where
  agg : ∀ w, (isAgg T).run P w = .ok false w
  size : ∀ w, (sizeOf T).run P w = .ok 1 w
class TAg (P : Program) (T : TypeId) (n : outParam Nat) : Prop where
  agg : ∀ w, (isAgg T).run P w = .ok true w
  size : ∀ w, (sizeOf T).run P w = .ok n w
class TZe (P : Program) (T : TypeId) (zs : outParam (List Value)) : Prop where
  zero : ∃ z, z.cells = zs.toArray ∧ ∀ w, (zeroValue T).run P w = .ok z w
class TFl (P : Program) (T : TypeId) (i : Nat) (off : outParam Nat) : Prop where
  fld : ∀ b o w, (Instr.fieldAt T (.pointer (some ⟨b, o, Option.none⟩)) i).run P w = .ok (.pointer (some ⟨b, o + off, Option.none⟩)) w
/-- How a struct or an array is built: its zero cells; of each part where it begins and how many cells it has. -/
class TBd (P : Program) (T : TypeId) (zs : outParam (List Value)) (pl : outParam (Nat → Option (Nat × Nat))) : Prop where
  bd : ∀ parts c w, Instr.fill pl zs.toArray parts.toList = some c → (Instr.build T parts).run P w = .ok (.agg c) w
class TAr (P : Program) (T : TypeId) (n esz : outParam Nat) : Prop where
  addr : ∀ b o (kd : IntKind) (i : Int) w, 0 ≤ i ∧ i < n → (Instr.indexAt T (.pointer (some ⟨b, o, Option.none⟩)) (.int kd i)).run P w = .ok (.pointer (some ⟨b, o + i.toNat * esz, Option.none⟩)) w
class TAv (P : Program) (T : TypeId) (sc : Bool) (n esz : outParam Nat) : Prop where
  idx : ∀ (cs vs : List Value) (kd : IntKind) (i : Int) w, 0 ≤ i ∧ i < n → vs.length = esz → (cs.drop (i.toNat * esz)).take esz = vs →
    (Instr.index T (.agg cs.toArray) (.int kd i)).run P w = .ok (bif sc then vs.headD undef else .agg vs.toArray) w
class TSl (P : Program) (T : TypeId) (e esz : outParam Nat) : Prop where
  und : P.underlying T = some (.slice e)
  size : ∀ w, (sizeOf e).run P w = .ok esz w
class TEq (P : Program) (T : TypeId) (n : outParam Nat) : Prop where
  grd : ∀ op x y xs ys w, (eqGuard op T x y (.agg xs) (.agg ys)).run P w = .ok () w
  eq : ∀ (xs ys : List Int) w, xs.length = n → ys.length = n → (Op.equalIn 10000 T (.agg (xs.map (Value.int .i64)).toArray) (.agg (ys.map (Value.int .i64)).toArray)).run P w = .ok (decide (xs = ys)) w
class TFn (P : Program) (g : FuncId) : Prop where
  fn : ∃ fn, P.funcs[g]? = some fn ∧ (fn.name == "runtime.NumGoroutine") = false ∧ fn.body.isNone = false

/-! ### Lists of cells -/
def blk (cs : List Value) (T : TypeId) : Obj := .cells cs.toArray T (0, 0)

def nth : List Value → Nat → Option Value
  | [], _ => Option.none
  | v :: r, n => match n with | 0 => some v | n + 1 => nth r n
theorem nth_eq : ∀ (l : List Value) (n : Nat), nth l n = l[n]?
  | [], _ => by simp [nth]
  | v :: r, 0 => by simp [nth]
  | v :: r, n + 1 => by simp [nth, nth_eq r n]

def tak : List Value → Nat → Option (List Value)
  | _, 0 => some []
  | [], _ + 1 => Option.none
  | v :: r, n + 1 => match tak r n with | some l => some (v :: l) | Option.none => Option.none
theorem tak_eq : ∀ (l : List Value) (n : Nat) (vs : List Value), tak l n = some vs → l.take n = vs ∧ vs.length = n
  | _, 0, vs, h => by simp [tak] at h; subst h; simp
  | [], n + 1, vs, h => by simp [tak] at h
  | v :: r, n + 1, vs, h => by
    simp only [tak] at h
    split at h
    · rename_i l hl
      obtain ⟨h1, h2⟩ := tak_eq r n l hl
      cases h
      simp [h1, h2]
    · cases h

def sub : List Value → Nat → Nat → Option (List Value)
  | l, 0, n => tak l n
  | [], _ + 1, _ => Option.none
  | _ :: r, o + 1, n => sub r o n
theorem sub_eq : ∀ (l : List Value) (o n : Nat) (vs : List Value), sub l o n = some vs → (l.drop o).take n = vs ∧ vs.length = n
  | l, 0, n, vs, h => by simpa using tak_eq l n vs (by simpa [sub] using h)
  | [], o + 1, n, vs, h => by simp [sub] at h
  | _ :: r, o + 1, n, vs, h => by simpa using sub_eq r o n vs (by simpa [sub] using h)

/-- A row of cells is written over. -/
def put : List Value → Nat → List Value → Option (List Value)
  | l, 0, [] => some l
  | [], 0, _ :: _ => Option.none
  | _ :: r, 0, v :: vs => match put r 0 vs with | some l => some (v :: l) | Option.none => Option.none
  | [], _ + 1, _ => Option.none
  | u :: r, o + 1, vs => match put r o vs with | some l => some (u :: l) | Option.none => Option.none
theorem put_len : ∀ (l : List Value) (o : Nat) (vs l' : List Value), put l o vs = some l' → l'.length = l.length
  | l, 0, [], l', h => by simp [put] at h; subst h; rfl
  | [], 0, _ :: _, l', h => by simp [put] at h
  | u :: r, 0, v :: vs, l', h => by
    simp only [put] at h
    split at h
    · rename_i l hl; cases h; simp [put_len r 0 vs l hl]
    · cases h
  | [], o + 1, vs, l', h => by simp [put] at h
  | u :: r, o + 1, vs, l', h => by
    simp only [put] at h
    split at h
    · rename_i l hl; cases h; simp [put_len r o vs l hl]
    · cases h
theorem put_cons : ∀ (l : List Value) (o : Nat) (v : Value) (vs l' : List Value), put l o (v :: vs) = some l' → o < l.length ∧ put (l.set o v) (o + 1) vs = some l'
  | [], 0, v, vs, l', h => by simp [put] at h
  | u :: r, 0, v, vs, l', h => by
    simp only [put] at h
    refine ⟨by simp, ?_⟩
    simpa [put] using h
  | [], o + 1, v, vs, l', h => by simp [put] at h
  | u :: r, o + 1, v, vs, l', h => by
    simp only [put] at h
    split at h
    · rename_i l hl
      obtain ⟨h1, h2⟩ := put_cons r o v vs l hl
      refine ⟨by simpa using h1, ?_⟩
      simp only [List.set_cons_succ, put, h2]
      exact h
    · cases h
theorem put_nil : ∀ (l : List Value) (o : Nat) (l' : List Value), put l o [] = some l' → l' = l
  | l, 0, l', h => by simp [put] at h; exact h.symm
  | [], o + 1, l', h => by simp [put] at h
  | u :: r, o + 1, l', h => by
    simp only [put] at h
    split at h
    · rename_i l hl; cases h; rw [put_nil r o l hl]
    · cases h

def oneC : Value → Bool
  | .agg _ | .tuple _ => false
  | _ => true
def allOne : List Value → Bool
  | [] => true
  | v :: r => match oneC v with | true => allOne r | false => false
theorem allOne_mem : ∀ (l : List Value), allOne l = true → ∀ v ∈ l, oneC v = true
  | [], _, v, h => by cases h
  | u :: r, h, v, hv => by
    simp only [allOne] at h
    split at h
    · rename_i hu
      rcases List.mem_cons.1 hv with rfl | hv
      · exact hu
      · exact allOne_mem r h v hv
    · cases h

def cellsL : Value → Option (List Value)
  | .agg ⟨l⟩ => some l
  | .tuple _ => Option.none
  | v => some [v]
theorem cellsL_eq {v : Value} {l : List Value} (h : cellsL v = some l) : v.cells = l.toArray := by
  cases v <;> simp_all [cellsL, Value.cells]
  subst h; rfl

def evL (E : Env) : List Operand → Option (List Value)
  | [] => some []
  | x :: r => match ev E x with
    | some v => match evL E r with | some l => some (v :: l) | Option.none => Option.none
    | Option.none => Option.none
theorem evL_map {N : Nat} {E : Env} {D : List Deferred} {t : Array Value} (hA : Agree N E t) : ∀ (xs : List Operand) (vs : List Value), evL E xs = some vs → xs.map (Act.eval ⟨t, D⟩) = vs
  | [], vs, h => by simp [evL] at h; simp [h]
  | x :: r, vs, h => by
    simp only [evL] at h
    split at h
    · rename_i v hv
      split at h
      · rename_i l hl
        cases h
        simp [ev_eval hA hv, evL_map hA r l hl]
      · cases h
    · cases h

def app : List Value → List Value → List Value
  | [], ys => ys
  | x :: xs, ys => x :: app xs ys
theorem app_eq : ∀ (xs ys : List Value), app xs ys = xs ++ ys
  | [], ys => rfl
  | x :: xs, ys => by simp [app, app_eq xs ys]
def appO : List Value → List Value → Option (List Value)
  | [], ys => some ys
  | x :: xs, ys => match appO xs ys with | some l => some (x :: l) | Option.none => Option.none
theorem appO_eq : ∀ (xs ys l : List Value), appO xs ys = some l → xs ++ ys = l
  | [], ys, l, h => by simp [appO] at h; simp [h]
  | x :: xs, ys, l, h => by
    simp only [appO] at h
    split at h
    · rename_i m hm; cases h; simp [appO_eq xs ys m hm]
    · cases h

def intsOf : List Value → Option (List Int)
  | [] => some []
  | .int .i64 n :: r => match intsOf r with | some l => some (n :: l) | Option.none => Option.none
  | _ :: _ => Option.none
theorem intsOf_eq : ∀ (l : List Value) (xs : List Int), intsOf l = some xs → l = xs.map (Value.int .i64)
  | [], xs, h => by simp [intsOf] at h; subst h; rfl
  | v :: r, xs, h => by
    unfold intsOf at h
    split at h
    · cases h <;> simp_all
    · rename_i n r' heq
      cases heq
      split at h
      · rename_i l hl; cases h; simp [intsOf_eq r l hl]
      · cases h
    · cases h

/-! ### Blocks -/
class HAt (H : Heap) (b : Nat) (cs : outParam (List Value)) (T : outParam TypeId) : Prop where
  mem : (b, blk cs T) ∈ H
instance HAt.head {H : Heap} {b : Nat} {cs : List Value} {T : TypeId} : HAt ((b, blk cs T) :: H) b cs T := ⟨by simp⟩
instance (priority := low) HAt.tail {x : Nat × Obj} {H : Heap} {b : Nat} {cs : List Value} {T : TypeId} [h : HAt H b cs T] : HAt (x :: H) b cs T := ⟨List.mem_cons_of_mem _ h.mem⟩

class HUp (H : Heap) (b : Nat) (cs : outParam (List Value)) (T : outParam TypeId) (F : outParam (List Value → Heap)) : Prop where
  split : ∃ pre post, H = pre ++ (b, blk cs T) :: post ∧ ∀ c, F c = pre ++ (b, blk c T) :: post
instance HUp.head {H : Heap} {b : Nat} {cs : List Value} {T : TypeId} : HUp ((b, blk cs T) :: H) b cs T (fun c => (b, blk c T) :: H) := ⟨[], H, rfl, fun _ => rfl⟩
instance (priority := low) HUp.tail {x : Nat × Obj} {H : Heap} {b : Nat} {cs : List Value} {T : TypeId} {F : List Value → Heap} [h : HUp H b cs T F] : HUp (x :: H) b cs T (fun c => x :: F c) := by
  obtain ⟨pre, post, h1, h2⟩ := h.split
  exact ⟨x :: pre, post, by rw [h1]; rfl, fun c => by rw [h2]; rfl⟩

theorem HAt.get {H : Heap} {b : Nat} {cs : List Value} {T : TypeId} (h : HAt H b cs T) {w : World} (hE : Emb H w) : w.heap[b]? = some (.cells cs.toArray T (0, 0)) := hE.at_ _ h.mem

theorem cell_of {b : Nat} {cs : List Value} {T : TypeId} {w : World} (h : w.heap[b]? = some (.cells cs.toArray T (0, 0))) (o : Nat) : w.cell? ⟨b, o, Option.none⟩ = cs[o]? := by
  simp [World.cell?, h]

/-- One block is written over. -/
theorem HUp.set {H : Heap} {b : Nat} {cs : List Value} {T : TypeId} {F : List Value → Heap} (h : HUp H b cs T F) {w w' : World} (hE : Emb H w) {c : List Value}
    (h1 : w'.heap[b]? = some (.cells c.toArray T (0, 0))) (h2 : ∀ j, j ≠ b → w'.heap[j]? = w.heap[j]?) (hs : w'.heap.size = w.heap.size) (ho : w'.os = w.os) (ht : w'.tape = w.tape) (hu : w'.output = w.output) :
    Fr H w (F c) w' := by
  obtain ⟨pre, post, rfl, hF⟩ := h.split
  rw [hF]
  have hnd := hE.nodup
  have hk : (pre ++ (b, blk c T) :: post).map Prod.fst = (pre ++ (b, blk cs T) :: post).map Prod.fst := by simp
  have hb : ∀ e, (e ∈ pre ∨ e ∈ post) → e.1 ≠ b := by
    intro e he heb
    simp only [List.map_append, List.map_cons, List.nodup_append, List.nodup_cons] at hnd
    obtain ⟨_, ⟨hp, _⟩, hd⟩ := hnd
    rcases he with he | he
    · exact hd e.1 (List.mem_map.2 ⟨e, he, rfl⟩) b (by simp) heb
    · exact hp (List.mem_map.2 ⟨e, he, heb⟩)
  refine ⟨ho, ht, hu, by omega, fun j hj hn => h2 j (fun e => hn (by subst e; simp)), ⟨by rw [hk]; exact hnd, fun e he => ?_⟩, fun e he => .inl (by rw [← hk]; exact List.mem_map.2 ⟨e, he, rfl⟩)⟩
  rcases List.mem_append.1 he with he' | he'
  · rw [h2 _ (hb e (.inl he'))]; exact hE.at_ e (by simp [he'])
  · rcases List.mem_cons.1 he' with rfl | he'
    · exact h1
    · rw [h2 _ (hb e (.inr he'))]; exact hE.at_ e (by simp [he'])

theorem Fr.new {H : Heap} {w : World} (hE : Emb H w) (o : Obj) : Fr H w ((w.heap.size, o) :: H) { w with heap := w.heap.push o } := by
  have hget : ∀ j, j < w.heap.size → (w.heap.push o)[j]? = w.heap[j]? := fun j hj => by rw [Array.getElem?_push, if_neg (by omega)]
  refine ⟨rfl, rfl, rfl, by simp, fun j hj _ => hget j hj, ⟨?_, ?_⟩, ?_⟩
  · simp only [List.map_cons, List.nodup_cons]
    refine ⟨fun hm => ?_, hE.nodup⟩
    obtain ⟨e, he, h1⟩ := List.mem_map.1 hm
    have := hE.lt he
    omega
  · intro e he
    rcases List.mem_cons.1 he with rfl | he
    · simp
    · show (w.heap.push o)[e.1]? = _
      rw [hget _ (hE.lt he)]; exact hE.at_ e he
  · intro e he
    rcases List.mem_cons.1 he with rfl | he
    · exact .inr (Nat.le_refl _)
    · exact .inl (List.mem_map.2 ⟨e, he, rfl⟩)

theorem run_loadCellsFrom {P : Program} {w : World} {b o : Nat} : ∀ (vs : List Value) (i : Nat) (acc : Array Value), (∀ j, j < vs.length → w.cell? ⟨b, o + (i + j), Option.none⟩ = vs[j]?) →
    (loadCellsFrom ⟨b, o, Option.none⟩ i vs.length acc).run P w = .ok (acc ++ vs.toArray) w
  | [], i, acc, _ => by simp [loadCellsFrom]
  | v :: r, i, acc, h => by
    have h0 := h 0 (by simp)
    have hadd : (⟨b, o, Option.none⟩ : Addr).add i = ⟨b, o + i, Option.none⟩ := by
      unfold Addr.add; split
      · rename_i e; subst e; simp
      · rfl
    simp only [Nat.add_zero, List.getElem?_cons_zero] at h0
    simp only [List.length_cons, loadCellsFrom, hadd]
    have hl : (load ⟨b, o + i, Option.none⟩).run P w = .ok v w := by simp [load, Sem.run, h0]
    rw [Sem.run_bind, hl]
    simp only [Result.andThen]
    have := run_loadCellsFrom (P := P) (w := w) (b := b) (o := o) r (i + 1) (acc.push v) (fun j hj => by
      have := h (j + 1) (by simpa using hj)
      rw [show o + (i + 1 + j) = o + (i + (j + 1)) by omega]; simpa using this)
    rw [this]
    simp

theorem run_loadN {P : Program} {w : World} {b o n : Nat} {cs vs : List Value} {T T' : TypeId} [hT : TAg P T n] (hb : w.heap[b]? = some (.cells cs.toArray T' (0, 0))) (hv : sub cs o n = some vs) :
    (loadVar T ⟨b, o, Option.none⟩).run P w = .ok (.agg vs.toArray) w := by
  obtain ⟨h1, h2⟩ := sub_eq cs o n vs hv
  have key := run_loadCellsFrom (P := P) (w := w) (b := b) (o := o) vs 0 #[] (fun j hj => by
    rw [cell_of hb, ← h1]
    simp only [Nat.zero_add]
    rw [List.getElem?_take_of_lt (by omega), List.getElem?_drop])
  simp only [loadVar, Sem.run_bind, hT.agg, Result.andThen, if_true, hT.size, Sem.run_pure]
  rw [loadCells, ← h2, key]
  simp

theorem run_load1 {P : Program} {w : World} {b o : Nat} {v : Value} {T : TypeId} [hT : TSc P T] (hv : w.cell? ⟨b, o, Option.none⟩ = some v) :
    (loadVar T ⟨b, o, Option.none⟩).run P w = .ok v w := by
  simp only [loadVar, Sem.run_bind, hT.agg, Result.andThen]
  simp [load, Sem.run, hv]

theorem run_storeCells {P : Program} {b o : Nat} {T' : TypeId} : ∀ (vs : List Value) (i : Nat) (cs cs' : List Value) (w : World), w.heap[b]? = some (.cells cs.toArray T' (0, 0)) → put cs (o + i) vs = some cs' → allOne vs = true →
    ∃ w', (storeCells ⟨b, o, Option.none⟩ vs i).run P w = .ok () w' ∧ w'.heap[b]? = some (.cells cs'.toArray T' (0, 0)) ∧ (∀ j, j ≠ b → w'.heap[j]? = w.heap[j]?) ∧ w'.heap.size = w.heap.size ∧ w'.os = w.os ∧ w'.tape = w.tape ∧ w'.output = w.output
  | [], i, cs, cs', w, hb, hp, _ => by
    have := put_nil cs (o + i) cs' hp
    subst this
    exact ⟨w, by simp [storeCells], hb, fun _ _ => rfl, rfl, rfl, rfl, rfl⟩
  | v :: vs, i, cs, cs', w, hb, hp, h1 => by
    obtain ⟨hlt, hp'⟩ := put_cons cs (o + i) v vs cs' hp
    have hadd : (⟨b, o, Option.none⟩ : Addr).add i = ⟨b, o + i, Option.none⟩ := by
      unfold Addr.add; split
      · rename_i e; subst e; simp
      · rfl
    have hv := allOne_mem _ h1 v (by simp)
    have h1' : allOne vs = true := by simp only [allOne, hv] at h1; exact h1
    have hcell : w.cell? ⟨b, o + i, Option.none⟩ = some (cs[o + i]'hlt) := by rw [cell_of hb]; simp [hlt]
    have hfz : w.frozen? ⟨b, o + i, Option.none⟩ = false := by simp [World.frozen?, hb]
    have hst : (store ⟨b, o + i, Option.none⟩ v).run P w = .ok () (w.setCell ⟨b, o + i, Option.none⟩ v) := by
      unfold store
      cases v <;> simp_all [Sem.run, oneC]
    have hnew : (w.setCell ⟨b, o + i, Option.none⟩ v).heap[b]? = some (.cells (cs.set (o + i) v).toArray T' (0, 0)) := by
      simp [World.setCell, Array.getElem?_modify, hb]
    have hoth : ∀ j, j ≠ b → (w.setCell ⟨b, o + i, Option.none⟩ v).heap[j]? = w.heap[j]? := fun j hj => by
      simp only [World.setCell, Array.getElem?_modify]
      rw [if_neg (Ne.symm hj)]
    obtain ⟨w', hr, g1, g2, g3, g4, g5, g6⟩ := run_storeCells vs (i + 1) (cs.set (o + i) v) cs' _ hnew (by rw [← Nat.add_assoc]; exact hp') h1'
    refine ⟨w', ?_, g1, fun j hj => (g2 j hj).trans (hoth j hj), g3.trans (by simp [World.setCell]), g4, g5, g6⟩
    simp only [storeCells, hadd, Sem.run_bind, hst, Result.andThen]
    exact hr

theorem run_storeN {P : Program} {b o : Nat} {T T' : TypeId} {v : Value} {n : Nat} {vs cs cs' : List Value} {w : World} (hs : ∀ w, (sizeOf T).run P w = .ok n w) (hb : w.heap[b]? = some (.cells cs.toArray T' (0, 0)))
    (hc : v.cells = vs.toArray) (hn : vs.length = n) (hp : put cs o vs = some cs') (h1 : allOne vs = true) :
    ∃ w', (storeVar T ⟨b, o, Option.none⟩ v).run P w = .ok () w' ∧ w'.heap[b]? = some (.cells cs'.toArray T' (0, 0)) ∧ (∀ j, j ≠ b → w'.heap[j]? = w.heap[j]?) ∧ w'.heap.size = w.heap.size ∧ w'.os = w.os ∧ w'.tape = w.tape ∧ w'.output = w.output := by
  obtain ⟨w', hr, g⟩ := run_storeCells (P := P) (o := o) vs 0 cs cs' w hb (by simpa using hp) h1
  refine ⟨w', ?_, g⟩
  simp only [storeVar, Sem.run_bind, hs, Result.andThen, hc]
  simp [hn, hr]

section
variable {P : Program} {f : FuncId} {ro : Option Nat} {N : Nat} {k : List Item} {E : Env} {D : List Deferred} {H : Heap} {Q : Out → Heap → Prop}
variable {ops : Array Oper} {l : List Oper}
variable {d : Nat} {x y : Operand} {T ty : TypeId} {pos : String} {af : Array Edge} {g : Option (Nat × Bool)}

theorem vld1 {b o : Nat} {cs : List Value} {T' : TypeId} {v : Value} [hT : TSc P T] [hH : HAt H b cs T'] (hx : ev E x = some (.pointer (some ⟨b, o, Option.none⟩))) (hv : nth cs o = some v) :
    OQ P N E D H ⟨some d, .load T x, ty, pos, af, g⟩ v :=
  ov (by simp) (fun t w hA hE => by
    have := run_load1 (P := P) (T := T) (w := w) (b := b) (o := o) (v := v) (by rw [cell_of (hH.get hE), ← nth_eq]; exact hv)
    simp [execOp, ev_eval hA hx, Instr.loadAt, Instr.sureAddr, this])

theorem vldn {b o n : Nat} {cs vs : List Value} {T' : TypeId} [hT : TAg P T n] [hH : HAt H b cs T'] (hx : ev E x = some (.pointer (some ⟨b, o, Option.none⟩))) (hv : sub cs o n = some vs) :
    OQ P N E D H ⟨some d, .load T x, ty, pos, af, g⟩ (.agg vs.toArray) :=
  ov (by simp) (fun t w hA hE => by
    have := run_loadN (P := P) (T := T) (w := w) (b := b) (o := o) (hH.get hE) hv
    simp [execOp, ev_eval hA hx, Instr.loadAt, Instr.sureAddr, this])

/-- A load of which the value is known otherwise. -/
theorem vldm {a : Addr} {v : Value} (hx : ev E x = some (.pointer (some a))) (hv : ∀ w, Emb H w → (loadVar T a).run P w = .ok v w) :
    OQ P N E D H ⟨some d, .load T x, ty, pos, af, g⟩ v :=
  ov (by simp) (fun t w hA hE => by simp [execOp, ev_eval hA hx, Instr.loadAt, Instr.sureAddr, hv w hE])

theorem vst1 {b o : Nat} {cs cs' : List Value} {T' : TypeId} {F : List Value → Heap} {v : Value} [hT : TSc P T] [hH : HUp H b cs T' F] (hx : ev E x = some (.pointer (some ⟨b, o, Option.none⟩))) (hy : ev E y = some v)
    (h1 : oneC v = true) (hp : put cs o [v] = some cs') : OG P N E D H ⟨Option.none, .store T x y, ty, pos, af, g⟩ (fun _ H' => H' = F cs') := by
  refine ⟨by simp, fun t w hA hE => ?_⟩
  have hget : w.heap[b]? = some (.cells cs.toArray T' (0, 0)) := by
    obtain ⟨pre, post, h, _⟩ := hH.split
    exact hE.at_ (b, blk cs T') (by rw [h]; simp)
  obtain ⟨w', hr, g1, g2, g3, g4, g5, g6⟩ := run_storeN (P := P) (T := T) (v := v) (vs := [v]) hT.size hget (by cases v <;> simp_all [Value.cells, oneC]) rfl hp (by simp [allOne, h1])
  refine ⟨.skip, w', ?_, F cs', hH.set hE g1 g2 g3 g4 g5 g6, rfl⟩
  simp [execOp, ev_eval hA hx, ev_eval hA hy, Instr.storeAt, Instr.sureAddr, hr]

theorem vstn {b o n : Nat} {cs cs' vs : List Value} {T' : TypeId} {F : List Value → Heap} [hT : TAg P T n] [hH : HUp H b cs T' F] (hx : ev E x = some (.pointer (some ⟨b, o, Option.none⟩))) (hy : ev E y = some (.agg vs.toArray))
    (hn : Nat.beq vs.length n = true) (h1 : allOne vs = true) (hp : put cs o vs = some cs') : OG P N E D H ⟨Option.none, .store T x y, ty, pos, af, g⟩ (fun _ H' => H' = F cs') := by
  refine ⟨by simp, fun t w hA hE => ?_⟩
  have hget : w.heap[b]? = some (.cells cs.toArray T' (0, 0)) := by
    obtain ⟨pre, post, h, _⟩ := hH.split
    exact hE.at_ (b, blk cs T') (by rw [h]; simp)
  obtain ⟨w', hr, g1, g2, g3, g4, g5, g6⟩ := run_storeN (P := P) (T := T) (v := .agg vs.toArray) (vs := vs) hT.size hget rfl (Nat.eq_of_beq_eq_true hn) hp h1
  refine ⟨.skip, w', ?_, F cs', hH.set hE g1 g2 g3 g4 g5 g6, rfl⟩
  simp [execOp, ev_eval hA hx, ev_eval hA hy, Instr.storeAt, Instr.sureAddr, hr]

theorem HUp.same {b : Nat} {cs : List Value} {T : TypeId} {F : List Value → Heap} (h : HUp H b cs T F) : F cs = H := by
  obtain ⟨pre, post, h1, h2⟩ := h.split
  rw [h2, h1]
/-- What is stored is what lies there. -/
theorem vst1s {b o : Nat} {cs : List Value} {T' : TypeId} {F : List Value → Heap} {v : Value} [hT : TSc P T] [hH : HUp H b cs T' F] (hx : ev E x = some (.pointer (some ⟨b, o, Option.none⟩))) (hy : ev E y = some v)
    (h1 : oneC v = true) (hp : put cs o [v] = some cs) : OQ P N E D H ⟨Option.none, .store T x y, ty, pos, af, g⟩ undef := by
  refine ⟨by simp, fun t w hA hE => ?_⟩
  have hget : w.heap[b]? = some (.cells cs.toArray T' (0, 0)) := by
    obtain ⟨pre, post, h, _⟩ := hH.split
    exact hE.at_ (b, blk cs T') (by rw [h]; simp)
  obtain ⟨w', hr, g1, g2, g3, g4, g5, g6⟩ := run_storeN (P := P) (T := T) (v := v) (vs := [v]) hT.size hget (by cases v <;> simp_all [Value.cells, oneC]) rfl hp (by simp [allOne, h1])
  have hF := hH.set hE g1 g2 g3 g4 g5 g6
  rw [hH.same] at hF
  refine ⟨.skip, w', ?_, H, hF, rfl, rfl⟩
  simp [execOp, ev_eval hA hx, ev_eval hA hy, Instr.storeAt, Instr.sureAddr, hr]
theorem vstns {b o n : Nat} {cs vs : List Value} {T' : TypeId} {F : List Value → Heap} [hT : TAg P T n] [hH : HUp H b cs T' F] (hx : ev E x = some (.pointer (some ⟨b, o, Option.none⟩))) (hy : ev E y = some (.agg vs.toArray))
    (hn : Nat.beq vs.length n = true) (h1 : allOne vs = true) (hp : put cs o vs = some cs) : OQ P N E D H ⟨Option.none, .store T x y, ty, pos, af, g⟩ undef := by
  refine ⟨by simp, fun t w hA hE => ?_⟩
  have hget : w.heap[b]? = some (.cells cs.toArray T' (0, 0)) := by
    obtain ⟨pre, post, h, _⟩ := hH.split
    exact hE.at_ (b, blk cs T') (by rw [h]; simp)
  obtain ⟨w', hr, g1, g2, g3, g4, g5, g6⟩ := run_storeN (P := P) (T := T) (v := .agg vs.toArray) (vs := vs) hT.size hget rfl (Nat.eq_of_beq_eq_true hn) hp h1
  have hF := hH.set hE g1 g2 g3 g4 g5 g6
  rw [hH.same] at hF
  refine ⟨.skip, w', ?_, H, hF, rfl, rfl⟩
  simp [execOp, ev_eval hA hx, ev_eval hA hy, Instr.storeAt, Instr.sureAddr, hr]

theorem run_newVar {w : World} {v : Value} : (newVar T v).run P w = .ok ⟨w.heap.size, 0, Option.none⟩ { w with heap := w.heap.push (.cells v.cells T) } := by
  simp [newVar, newRow, newObj, Sem.run]

theorem valloc {zs : List Value} [hT : TZe P T zs] : OA P N E D ⟨some d, .alloc T, ty, pos, af, g⟩ (blk zs T) := by
  refine ⟨by simp, fun t w hA => ?_⟩
  obtain ⟨z, hz, hzr⟩ := hT.zero
  simp [execOp, Instr.alloc, hzr, run_newVar, hz, blk]
theorem vbox {v : Value} {cs : List Value} (hx : ev E x = some v) (hc : cellsL v = some cs) : OA P N E D ⟨some d, .box T x, ty, pos, af, g⟩ (blk cs T) := by
  refine ⟨by simp, fun t w hA => ?_⟩
  simp [execOp, Instr.box, ev_eval hA hx, run_newVar, cellsL_eq hc, blk]
theorem OA.og {o : Oper} {ob : Obj} (h : OA P N E D o ob) : OG P N E D H o (fun v H' => ∃ b, v = .pointer (some ⟨b, 0, Option.none⟩) ∧ H' = (b, ob) :: H) :=
  ⟨h.1, fun t w hA hE => ⟨_, _, h.2 t w hA, (w.heap.size, ob) :: H, Fr.new hE ob, w.heap.size, rfl, rfl⟩⟩
theorem vxa {o : Oper} {ob : Obj} (h : OA P N E D o ob) (ho : o.dst = some d) (hN : Nat.blt d N = true) (hL : ∀ b, VL P f ro N ops l k ((d, .pointer (some ⟨b, 0, Option.none⟩)) :: E) D ((b, ob) :: H) Q) : VX P f ro N ops o l k E D H Q :=
  vxg h.og ho hN (fun v H' hR => by obtain ⟨b, rfl, rfl⟩ := hR; exact hL b)

theorem vfa {b o off i : Nat} [hT : TFl P T i off] (hx : ev E x = some (.pointer (some ⟨b, o, Option.none⟩))) :
    OQ P N E D H ⟨some d, .fieldAddr T x i, ty, pos, af, g⟩ (.pointer (some ⟨b, o + off, Option.none⟩)) :=
  ov (by simp) (fun t w hA hE => by simp [execOp, ev_eval hA hx, hT.fld])

theorem via {b o n esz : Nat} {kd : IntKind} {i : Int} [hT : TAr P T n esz] (hx : ev E x = some (.pointer (some ⟨b, o, Option.none⟩))) (hy : ev E y = some (.int kd i)) (hi : 0 ≤ i ∧ i < n) :
    OQ P N E D H ⟨some d, .indexAddr T x y, ty, pos, af, g⟩ (.pointer (some ⟨b, o + i.toNat * esz, Option.none⟩)) :=
  ov (by simp) (fun t w hA hE => by simp [execOp, ev_eval hA hx, ev_eval hA hy, hT.addr b o kd i w hi])

/-- An index into a slice. -/
theorem vis {b o n c e esz : Nat} {kd : IntKind} {i : Int} [hT : TSl P T e esz] (hx : ev E x = some (.slice (some ⟨b, o, Option.none⟩) n c)) (hy : ev E y = some (.int kd i)) (hi : 0 ≤ i ∧ i < n) :
    OQ P N E D H ⟨some d, .indexAddr T x y, ty, pos, af, g⟩ (.pointer (some ⟨b, o + i.toNat * esz, Option.none⟩)) :=
  ov (by simp) (fun t w hA hE => by
    have hadd : (⟨b, o, Option.none⟩ : Addr).add (i.toNat * esz) = ⟨b, o + i.toNat * esz, Option.none⟩ := by
      unfold Addr.add; split
      · rename_i e; rw [e]; simp
      · rfl
    simp [execOp, ev_eval hA hx, ev_eval hA hy, Instr.indexAt, asIntOf, run_underlying hT.und, hi, hT.size, hadd])

theorem vex {vs : List Value} {i : Nat} {v : Value} (hx : ev E x = some (.tuple vs.toArray)) (hv : nth vs i = some v) :
    OQ P N E D H ⟨some d, .extract x i, ty, pos, af, g⟩ v :=
  ov (by simp) (fun t w hA hE => by
    rw [nth_eq] at hv
    simp [execOp, ev_eval hA hx, Instr.extract, hv])

theorem vmf {fn : Fn} {cl : List Operand} {vs : List Value} (hc : evL E cl = some vs) :
    OQ P N E D H ⟨some d, .makeFunc fn #[] cl.toArray, ty, pos, af, g⟩ (.func fn #[] vs.toArray) :=
  ov (by simp) (fun t w hA hE => by
    have := evL_map (D := D) hA cl vs hc
    simp [execOp, Instr.makeFunc, this])

theorem vlen {a : Option Addr} {n c e esz : Nat} {ats : List TypeId} [hT : TSl P T e esz] (hx : ev E x = some (.slice a n c)) :
    OQ P N E D H ⟨some d, .call ⟨.builtin .len, #[x], (T :: ats).toArray⟩, ty, pos, af, g⟩ (.int .i64 (n : Int)) :=
  ov (by simp) (fun t w hA hE => by simp [execOp, resolve, invoke, builtin, Builtin.len_, ev_eval hA hx, run_underlying hT.und, goInt])

theorem vnc {a : Addr} (hx : ev E x = some (.pointer (some a))) :
    OQ P N E D H ⟨some d, .nilCheck x, ty, pos, af, g⟩ (.pointer (some a)) :=
  ov (by simp) (fun t w hA hE => by simp [execOp, ev_eval hA hx])

theorem vixa1 {cs : List Value} {n : Nat} {kd : IntKind} {i : Int} {v : Value} [hT : TAv P T true n 1] (hx : ev E x = some (.agg cs.toArray)) (hy : ev E y = some (.int kd i)) (hi : 0 ≤ i ∧ i < n) (hv : nth cs i.toNat = some v) :
    OQ P N E D H ⟨some d, .index T x y, ty, pos, af, g⟩ v :=
  ov (by simp) (fun t w hA hE => by
    rw [nth_eq] at hv
    have := hT.idx cs [v] kd i w hi rfl (by
      have hlt := (List.getElem?_eq_some_iff.1 hv).1
      have hge := (List.getElem?_eq_some_iff.1 hv).2
      rw [Nat.mul_one, List.drop_eq_getElem_cons hlt, hge]; rfl)
    simp [execOp, ev_eval hA hx, ev_eval hA hy, this])
theorem vixan {cs vs : List Value} {n esz : Nat} {kd : IntKind} {i : Int} [hT : TAv P T false n esz] (hx : ev E x = some (.agg cs.toArray)) (hy : ev E y = some (.int kd i)) (hi : 0 ≤ i ∧ i < n) (hv : sub cs (i.toNat * esz) esz = some vs) :
    OQ P N E D H ⟨some d, .index T x y, ty, pos, af, g⟩ (.agg vs.toArray) :=
  ov (by simp) (fun t w hA hE => by
    obtain ⟨h3, h4⟩ := sub_eq _ _ _ _ hv
    have := hT.idx cs vs kd i w hi h4 h3
    simp [execOp, ev_eval hA hx, ev_eval hA hy, this])

/-! ### Structs and arrays are built, and compared -/
def evP (E : Env) : List (Nat × Operand) → Option (List (Nat × List Value))
  | [] => some []
  | (i, x) :: r => match ev E x with
    | some v => match cellsL v with
      | some cs => match evP E r with | some l => some ((i, cs) :: l) | Option.none => Option.none
      | Option.none => Option.none
    | Option.none => Option.none
def fillL (fs : Nat → Option (Nat × Nat)) : List Value → List (Nat × List Value) → Option (List Value)
  | cs, [] => some cs
  | cs, (i, vs) :: r => match fs i with
    | some (off, n) => match Nat.beq vs.length n with
      | true => match put cs off vs with | some cs' => fillL fs cs' r | Option.none => Option.none
      | false => Option.none
    | Option.none => Option.none

theorem foldl_put : ∀ (vs : List Value) (cs cs' : List Value) (off j : Nat), put cs (off + j) vs = some cs' →
    (vs.zipIdx j).foldl (fun (c : Array Value) (p : Value × Nat) => c.setIfInBounds (off + p.2) p.1) cs.toArray = cs'.toArray ∧ off + j + vs.length ≤ cs.length
  | [], cs, cs', off, j, h => by
    have h1 := put_nil _ _ _ h
    subst h1
    refine ⟨by simp, ?_⟩
    have : ∀ (l : List Value) (o : Nat) l', put l o [] = some l' → o ≤ l.length := by
      intro l o
      induction o generalizing l with
      | zero => intros; omega
      | succ o ih =>
        intro l' hl
        cases l with
        | nil => simp [put] at hl
        | cons u r =>
          simp only [put] at hl
          split at hl
          · rename_i m hm; have := ih r m hm; simp; omega
          · cases hl
    simpa using this _ _ _ h
  | v :: vs, cs, cs', off, j, h => by
    obtain ⟨hlt, hp⟩ := put_cons _ _ _ _ _ h
    obtain ⟨h1, h2⟩ := foldl_put vs (cs.set (off + j) v) cs' off (j + 1) (by rw [← Nat.add_assoc]; exact hp)
    refine ⟨?_, by simp at h2 ⊢; omega⟩
    simp only [List.zipIdx_cons, List.foldl_cons, List.setIfInBounds_toArray]
    exact h1

theorem fill_eq (fs : Nat → Option (Nat × Nat)) {N : Nat} {E : Env} {D : List Deferred} {t : Array Value} (hA : Agree N E t) : ∀ (ps : List (Nat × Operand)) (qs : List (Nat × List Value)) (cs cs' : List Value), evP E ps = some qs → fillL fs cs qs = some cs' →
    Instr.fill fs cs.toArray (ps.map fun p => (p.1, Act.eval ⟨t, D⟩ p.2)) = some cs'.toArray
  | [], qs, cs, cs', h, h' => by
    simp [evP] at h; subst h
    simp [fillL] at h'; subst h'
    simp [Instr.fill]
  | (i, x) :: r, qs, cs, cs', h, h' => by
    simp only [evP] at h
    split at h
    · rename_i v hv
      split at h
      · rename_i vs hvs
        split at h
        · rename_i q hq
          cases h
          simp only [fillL] at h'
          split at h'
          · rename_i off n hf
            split at h'
            · rename_i hn
              split at h'
              · rename_i c2 hp
                have hlen : vs.length = n := Nat.eq_of_beq_eq_true hn
                obtain ⟨f1, f2⟩ := foldl_put vs cs c2 off 0 (by simpa using hp)
                simp only [List.map_cons, Instr.fill, hf, ev_eval hA hv, cellsL_eq hvs]
                rw [if_neg (by simp [hlen] at f2 ⊢; omega)]
                have f1' : Array.foldl (fun cs x => cs.setIfInBounds (off + x.snd) x.fst) cs.toArray vs.toArray.zipIdx = c2.toArray := by
                  rw [← Array.foldl_toList]
                  simpa using f1
                rw [f1']
                exact fill_eq fs hA r q c2 cs' hq h'
              · cases h'
            · cases h'
          · cases h'
        · cases h
      · cases h
    · cases h

theorem vbd {ps : List (Nat × Operand)} {qs : List (Nat × List Value)} {zs cs : List Value} {fs : Nat → Option (Nat × Nat)} [hT : TBd P T zs fs] (hp : evP E ps = some qs) (hc : fillL fs zs qs = some cs) :
    OQ P N E D H ⟨some d, .build T ps.toArray, ty, pos, af, g⟩ (.agg cs.toArray) :=
  ov (by simp) (fun t w hA hE => by
    have h1 := fill_eq fs (D := D) hA ps qs zs cs hp hc
    have h2 := hT.bd (ps.toArray.map fun p => (p.1, Act.eval ⟨t, D⟩ p.2)) cs.toArray w
    have h3 : (ps.toArray.map fun p => (p.1, Act.eval ⟨t, D⟩ p.2)).toList = ps.map fun p => (p.1, Act.eval ⟨t, D⟩ p.2) := by simp
    rw [h3] at h2
    have h2 := h2 h1
    simp only [execOp, Sem.run_bind, h2, Result.andThen, Sem.run_pure])

theorem veqs {cx cy : List Value} {xs ys : List Int} {n : Nat} {T' : TypeId} [hT : TEq P T n] (hx : ev E x = some (.agg cx.toArray)) (hy : ev E y = some (.agg cy.toArray)) (hix : intsOf cx = some xs) (hiy : intsOf cy = some ys)
    (hlx : Nat.beq xs.length n = true) (hly : Nat.beq ys.length n = true) :
    OQ P N E D H ⟨some d, .binOp .eql T x y T', ty, pos, af, g⟩ (.bool (decide (xs = ys))) :=
  ov (by simp) (fun t w hA hE => by
    have h1 := hT.grd .eql x y cx.toArray cy.toArray w
    have h2 := hT.eq xs ys w (Nat.eq_of_beq_eq_true hlx) (Nat.eq_of_beq_eq_true hly)
    rw [← intsOf_eq _ _ hix, ← intsOf_eq _ _ hiy] at h2
    simp only [execOp, ev_eval hA hx, ev_eval hA hy, Sem.run_bind, h1, Result.andThen, run_eql_struct, h2, Sem.run_pure])
theorem vnes {cx cy : List Value} {xs ys : List Int} {n : Nat} {T' : TypeId} [hT : TEq P T n] (hx : ev E x = some (.agg cx.toArray)) (hy : ev E y = some (.agg cy.toArray)) (hix : intsOf cx = some xs) (hiy : intsOf cy = some ys)
    (hlx : Nat.beq xs.length n = true) (hly : Nat.beq ys.length n = true) :
    OQ P N E D H ⟨some d, .binOp .neq T x y T', ty, pos, af, g⟩ (.bool (decide (xs ≠ ys))) :=
  ov (by simp) (fun t w hA hE => by
    have h1 := hT.grd .neq x y cx.toArray cy.toArray w
    have h2 := hT.eq xs ys w (Nat.eq_of_beq_eq_true hlx) (Nat.eq_of_beq_eq_true hly)
    rw [← intsOf_eq _ _ hix, ← intsOf_eq _ _ hiy] at h2
    simp only [execOp, ev_eval hA hx, ev_eval hA hy, Sem.run_bind, h1, Result.andThen, run_neq_struct, h2, Sem.run_pure, decide_not])

/-! ### Calls -/
def VPure (P : Program) (g : FuncId) (args : List Value) (v : Value) : Prop := ∀ H, VCall P g args.toArray H (fun o H' => o = .val v ∧ H' = H)

theorem run_callFunc {P : Program} {g : FuncId} [hf : TFn P g] (args : Array Value) (w : World) : (callFunc g args).run P w = .ok (.enter g args) w := by
  obtain ⟨fn, h1, h2, h3⟩ := hf.fn
  simp only [callFunc, program, Sem.run_bind, Sem.run, Result.andThen, h1, h2, h3]
  rfl

theorem vcg {gf : FuncId} {cl : Operand} {al : List Operand} {ats : Array TypeId} {caps vs as : List Value} {R : Value → Heap → Prop} {R0 : Out → Heap → Prop} [hf : TFn P gf] (hx : ev E cl = some (.func (.func gf) #[] caps.toArray)) (ha : evL E al = some vs) (has : appO vs caps = some as)
    (hc : VCall P gf as.toArray H R0) (hv : ∀ o H', R0 o H' → ∃ v, o = .val v ∧ R v H') :
    OG P N E D H ⟨some d, .call ⟨.value cl, al.toArray, ats⟩, ty, pos, af, g⟩ R := by
  refine ⟨by simp, fun t w hA hE => ⟨.enter gf as.toArray, w, ?_, fun c cs => ?_⟩⟩
  · have h1 := evL_map (D := D) hA al vs ha
    simp [execOp, resolve, Deferred.ofValue, invoke, ev_eval hA hx, h1, run_callFunc, ← appO_eq _ _ _ has]
  · obtain ⟨o, w', m', H', hR, hF, hs, hfin⟩ := hc w (c :: cs) hE
    obtain ⟨v, rfl, hv'⟩ := hv o H' hR
    obtain ⟨_, fr', rfl, _, hleave⟩ := hfin
    exact ⟨v, w', ⟨H', hF, hv'⟩, hs.trans (.one (step_leave_returned hleave))⟩

theorem vcp {gf : FuncId} {cl : Operand} {al : List Operand} {ats : Array TypeId} {caps vs as : List Value} {v : Value} [hf : TFn P gf] (hx : ev E cl = some (.func (.func gf) #[] caps.toArray)) (ha : evL E al = some vs) (has : appO vs caps = some as)
    (hc : VPure P gf as v) : OQ P N E D H ⟨some d, .call ⟨.value cl, al.toArray, ats⟩, ty, pos, af, g⟩ v :=
  vcg hx ha has (hc H) (fun _ _ h => ⟨v, h.1, rfl, h.2⟩)

/-! ### Results -/
inductive RV (P : Program) (E : Env) (H : Heap) : ResultVar → Value → Prop
  | tmp {s : Nat} {v : Value} (h : look E s = some v) : RV P E H (.tmp s) v
  | cell1 {s b o : Nat} {T T' : TypeId} {cs : List Value} {v : Value} [hT : TSc P T] [hH : HAt H b cs T'] (h : look E s = some (.pointer (some ⟨b, o, Option.none⟩))) (hv : nth cs o = some v) : RV P E H (.cell s T) v
  | celln {s b o n : Nat} {T T' : TypeId} {cs vs : List Value} [hT : TAg P T n] [hH : HAt H b cs T'] (h : look E s = some (.pointer (some ⟨b, o, Option.none⟩))) (hv : sub cs o n = some vs) : RV P E H (.cell s T) (.agg vs.toArray)

def rs (t : Array Value) : ResultVar → Sem Value := fun
  | .tmp s => pure (t.getD s undef)
  | .cell a T => do loadVar T (← asAddr (t.getD a undef))
theorem results_rs (fn : Func) (t : Array Value) : results fn t = (do
    let vs ← fn.results.mapM (rs t)
    pure (if h : vs.size = 1 then vs[0] else .tuple vs)) := rfl

theorem RV.run {r : ResultVar} {v : Value} (h : RV P E H r v) {t : Array Value} {w : World} (hA : Agree N E t) (hE : Emb H w) : (rs t r).run P w = .ok v w := by
  cases h with
  | tmp h => simp only [rs, hA.val _ _ h, Sem.run_pure]
  | @cell1 s b o T T' cs v hT hH h hv =>
    have := run_load1 (P := P) (T := T) (w := w) (b := b) (o := o) (v := v) (by rw [cell_of (hH.get hE), ← nth_eq]; exact hv)
    simp only [rs, hA.val _ _ h, asAddr, Sem.run_bind, Sem.run_pure, Result.andThen, this]
  | @celln s b o n T T' cs vs hT hH h hv =>
    have := run_loadN (P := P) (T := T) (w := w) (b := b) (o := o) (hH.get hE) hv
    simp only [rs, hA.val _ _ h, asAddr, Sem.run_bind, Sem.run_pure, Result.andThen, this]

theorem vr0 {fn : Func} {H' : Heap} (hf : P.funcs[f]? = some fn) (hr : fn.results = #[]) (hs : H'.Sublist H) (hq : Q (.val (.tuple #[])) H') : VRet P f N E [] H Q :=
  vret_vals hf (fun t w hA hE => by simp [results, hr]) hs hq
theorem vr1 {fn : Func} {r : ResultVar} {v : Value} {H' : Heap} (hf : P.funcs[f]? = some fn) (hr : fn.results = #[r]) (h : RV P E H r v) (hs : H'.Sublist H) (hq : Q (.val v) H') : VRet P f N E [] H Q :=
  vret_vals hf (fun t w hA hE => by
    have h1 := h.run hA hE
    rw [results_rs, hr]
    simp [Sem.run_bind, h1, Result.andThen]) hs hq
theorem vr2 {fn : Func} {r1 r2 : ResultVar} {v1 v2 : Value} {H' : Heap} (hf : P.funcs[f]? = some fn) (hr : fn.results = #[r1, r2]) (h1 : RV P E H r1 v1) (h2 : RV P E H r2 v2) (hs : H'.Sublist H) (hq : Q (.val (.tuple [v1, v2].toArray)) H') : VRet P f N E [] H Q :=
  vret_vals hf (fun t w hA hE => by
    have g1 := h1.run hA hE
    have g2 := h2.run hA hE
    rw [results_rs, hr]
    simp [Sem.run_bind, g1, g2, Result.andThen]) hs hq
theorem vr3 {fn : Func} {r1 r2 r3 : ResultVar} {v1 v2 v3 : Value} {H' : Heap} (hf : P.funcs[f]? = some fn) (hr : fn.results = #[r1, r2, r3]) (h1 : RV P E H r1 v1) (h2 : RV P E H r2 v2) (h3 : RV P E H r3 v3) (hs : H'.Sublist H) (hq : Q (.val (.tuple [v1, v2, v3].toArray)) H') : VRet P f N E [] H Q :=
  vret_vals hf (fun t w hA hE => by
    have g1 := h1.run hA hE
    have g2 := h2.run hA hE
    have g3 := h3.run hA hE
    rw [results_rs, hr]
    simp [Sem.run_bind, g1, g2, g3, Result.andThen]) hs hq
end
end Go.Proofs.Ytffpfcomikcimaa
