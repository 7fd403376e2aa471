/-
  Slices that are only read, wherever they lie. No condition.
-/
import Derived.Test.YtffpfcomikcimaaMor
namespace Go.Proofs.Ytffpfcomikcimaa
open Go

/-- A cell of an object. -/
def oCell (ob : Obj) (a : Addr) : Option Value := match ob with
  | .cells c _ _ => if a.spot.isSome then Option.none else c[a.off]?
  | _ => Option.none
theorem oCell_eq {w : World} {a : Addr} {ob : Obj} (h : w.heap[a.block]? = some ob) : w.cell? a = oCell ob a := by
  unfold World.cell? oCell; rw [h]; cases ob <;> rfl
theorem add_block (a : Addr) (n : Nat) : (a.add n).block = a.block := by unfold Addr.add; split <;> rfl
theorem add_add (a : Addr) (m n : Nat) : (a.add m).add n = a.add (m + n) := by
  unfold Addr.add
  by_cases h1 : m = 0
  · subst h1; simp
  · by_cases h2 : n = 0
    · subst h2; simp [h1]
    · simp [h1, h2]; omega

/-- The elements of a slice, each by its cells. -/
class SlO {α : Type} (H : Heap) (oa : Option Addr) (esz : Nat) (enc : α → List Value) (l : List α) : Prop where
  el : ∀ i x, l[i]? = some x → (enc x).length = esz ∧ ∃ a ob, oa = some a ∧ (a.block, ob) ∈ H ∧ ∀ j v, (enc x)[j]? = some v → oCell ob (a.add (i * esz + j)) = some v
instance (priority := low) SlO.tail {α : Type} {x : Nat × Obj} {H : Heap} {oa : Option Addr} {esz : Nat} {enc : α → List Value} {l : List α} [h : SlO H oa esz enc l] : SlO (x :: H) oa esz enc l :=
  ⟨fun i y hy => let ⟨h1, a, ob, h2, h3, h4⟩ := h.el i y hy; ⟨h1, a, ob, h2, List.mem_cons_of_mem _ h3, h4⟩⟩
theorem SlO.sub {α : Type} {H H' : Heap} {oa : Option Addr} {esz : Nat} {enc : α → List Value} {l : List α} (h : SlO H oa esz enc l) (hs : ∀ e ∈ H, e ∈ H') : SlO H' oa esz enc l :=
  ⟨fun i y hy => let ⟨h1, a, ob, h2, h3, h4⟩ := h.el i y hy; ⟨h1, a, ob, h2, hs _ h3, h4⟩⟩
instance SlO.appL {α : Type} {A B : Heap} {oa : Option Addr} {esz : Nat} {enc : α → List Value} {l : List α} [h : SlO A oa esz enc l] : SlO (A ++ B) oa esz enc l := h.sub fun e he => List.mem_append_left _ he
theorem SlO.nil {α : Type} {H : Heap} {oa : Option Addr} {esz : Nat} {enc : α → List Value} : SlO H oa esz enc ([] : List α) := ⟨fun i y hy => by simp at hy⟩
/-- A slice that was built: a block's cells. -/
theorem SlO.blk {α : Type} {H : Heap} {b : Nat} {cs : List Value} {T : TypeId} {esz : Nat} {enc : α → List Value} {l : List α} [h : HAt H b cs T] (hl : ∀ i x, l[i]? = some x → (enc x).length = esz ∧ ∀ j v, (enc x)[j]? = some v → cs[i * esz + j]? = some v) :
    SlO H (some ⟨b, 0, Option.none⟩) esz enc l := ⟨fun i x hx => by
  obtain ⟨h1, h2⟩ := hl i x hx
  refine ⟨h1, ⟨b, 0, Option.none⟩, Go.Proofs.Ytffpfcomikcimaa.blk cs T, rfl, h.mem, fun j v hj => ?_⟩
  have h3 := h2 j v hj
  unfold Addr.add
  split
  · rename_i e; rw [e] at h3; simpa [oCell, Go.Proofs.Ytffpfcomikcimaa.blk] using h3
  · simpa [oCell, Go.Proofs.Ytffpfcomikcimaa.blk] using h3⟩

theorem flat_get {α : Type} {enc : α → List Value} {esz : Nat} (he : ∀ x, (enc x).length = esz) : ∀ (l : List α) (i : Nat) (x : α) (j : Nat) (v : Value), l[i]? = some x → (enc x)[j]? = some v → (l.flatMap enc)[i * esz + j]? = some v
  | [], i, x, j, v, h, _ => by simp at h
  | y :: l, 0, x, j, v, h, hj => by
    simp only [List.getElem?_cons_zero, Option.some.injEq] at h
    subst h
    rw [List.flatMap_cons, Nat.zero_mul, Nat.zero_add, List.getElem?_append_left (List.getElem?_eq_some_iff.1 hj).1]
    exact hj
  | y :: l, i + 1, x, j, v, h, hj => by
    rw [List.getElem?_cons_succ] at h
    rw [List.flatMap_cons, List.getElem?_append_right (by rw [he, Nat.succ_mul]; omega), he, show (i + 1) * esz + j - esz = i * esz + j by rw [Nat.succ_mul]; omega]
    exact flat_get he l i x j v h hj
theorem SlO.flat {α : Type} {H : Heap} {b : Nat} {cs : List Value} {T : TypeId} {esz : Nat} {enc : α → List Value} {l : List α} [h : HAt H b cs T] (he : ∀ x, (enc x).length = esz) (hl : cs = l.flatMap enc) : SlO H (some ⟨b, 0, Option.none⟩) esz enc l :=
  SlO.blk fun i x hx => ⟨he x, fun j v hj => by rw [hl]; exact flat_get he l i x j v hx hj⟩

section
variable {P : Program} {f : FuncId} {ro : Option Nat} {N : Nat} {k : List Item} {E : Env} {D : List Deferred} {H : Heap} {Q : Out → Heap → Prop}
variable {ops : Array Oper} {l : List Oper}
variable {d : Nat} {x y : Operand} {T ty : TypeId} {pos : String} {af : Array Edge} {g : Option (Nat × Bool)}

def atI (oa : Option Addr) (n : Nat) : Option Addr := match oa with | some a => some (a.add n) | Option.none => Option.none

theorem visg {α : Type} {enc : α → List Value} {xs : List α} {oa : Option Addr} {n c e esz : Nat} {kd : IntKind} {i : Int} {z : α} [hT : TSl P T e esz] [hS : SlO H oa esz enc xs] (hx : ev E x = some (.slice oa n c)) (hy : ev E y = some (.int kd i)) (hi : 0 ≤ i ∧ i < n) (hz : xs[i.toNat]? = some z) :
    OQ P N E D H ⟨some d, .indexAddr T x y, ty, pos, af, g⟩ (.pointer (atI oa (i.toNat * esz))) :=
  ov (by simp) (fun t w hA hE => by
    obtain ⟨_, a, ob, rfl, _, _⟩ := hS.el _ _ hz
    simp [execOp, ev_eval hA hx, ev_eval hA hy, Instr.indexAt, asIntOf, run_underlying hT.und, hi, hT.size, atI])

theorem run_loadCellsG {P : Program} {w : World} {a : Addr} : ∀ (vs : List Value) (i : Nat) (acc : Array Value), (∀ j, j < vs.length → w.cell? (a.add (i + j)) = vs[j]?) →
    (loadCellsFrom a i vs.length acc).run P w = .ok (acc ++ vs.toArray) w
  | [], i, acc, _ => by simp [loadCellsFrom]
  | v :: r, i, acc, h => by
    have h0 := h 0 (by simp)
    simp only [Nat.add_zero, List.getElem?_cons_zero] at h0
    simp only [List.length_cons, loadCellsFrom]
    have hl : (load (a.add i)).run P w = .ok v w := by simp [load, Sem.run, h0]
    rw [Sem.run_bind, hl]
    simp only [Result.andThen]
    have := run_loadCellsG (P := P) (w := w) (a := a) r (i + 1) (acc.push v) (fun j hj => by
      have := h (j + 1) (by simpa using hj)
      rw [show i + 1 + j = i + (j + 1) by omega]; simpa using this)
    rw [this]
    simp

theorem vldS {α : Type} {enc : α → List Value} {xs : List α} {oa : Option Addr} {esz m : Nat} {z : α} [hT : TAg P T esz] [hS : SlO H oa esz enc xs] (hx : ev E x = some (.pointer (atI oa (m * esz)))) (hz : xs[m]? = some z) :
    OQ P N E D H ⟨some d, .load T x, ty, pos, af, g⟩ (.agg (enc z).toArray) := by
  obtain ⟨hl, a, ob, rfl, hm, hc⟩ := hS.el _ _ hz
  refine vldm (a := a.add (m * esz)) hx fun w hE => ?_
  have hob := hE.at_ _ hm
  have key := run_loadCellsG (P := P) (w := w) (a := a.add (m * esz)) (enc z) 0 #[] (fun j hj => by
    rw [add_add, Nat.zero_add, oCell_eq (ob := ob) (by rw [add_block]; exact hob), hc j _ (List.getElem?_eq_getElem hj), List.getElem?_eq_getElem hj])
  simp only [loadVar, Sem.run_bind, hT.agg, Result.andThen, if_true, hT.size, Sem.run_pure]
  rw [hl] at key
  rw [loadCells, key]
  simp
theorem vldS1 {α : Type} {enc : α → List Value} {xs : List α} {oa : Option Addr} {m : Nat} {z : α} {v : Value} [hT : TSc P T] [hS : SlO H oa 1 enc xs] (hx : ev E x = some (.pointer (atI oa (m * 1)))) (hz : xs[m]? = some z) (hv : enc z = [v]) :
    OQ P N E D H ⟨some d, .load T x, ty, pos, af, g⟩ v := by
  obtain ⟨hl, a, ob, rfl, hm, hc⟩ := hS.el _ _ hz
  refine vldm (a := a.add (m * 1)) hx fun w hE => ?_
  have hob := hE.at_ _ hm
  have h1 : w.cell? (a.add (m * 1)) = some v := by
    have := hc 0 v (by rw [hv]; rfl)
    rw [oCell_eq (ob := ob) (by rw [add_block]; exact hob)]; exact this
  simp only [loadVar, Sem.run_bind, hT.agg, Result.andThen]
  simp only [load, Sem.run, h1, Bool.false_eq_true, if_false]
theorem vlenS {oa : Option Addr} {n c e esz : Nat} {ats : List TypeId} [hT : TSl P T e esz] (hx : ev E x = some (.slice oa n c)) :
    OQ P N E D H ⟨some d, .call ⟨.builtin .len, #[x], (T :: ats).toArray⟩, ty, pos, af, g⟩ (.int .i64 (n : Int)) := vlen hx
end

/-- The consumer's blocks lie behind one's own. -/
theorem VY.l1 {P : Program} {y : Value} {args : List Value} {x1 : Nat × Obj} {L B : Heap} {R : Bool → Heap → Prop} (h : VY P y args B R) : VY P y args (x1 :: (L ++ B)) (fun b H' => ∃ B', H' = x1 :: (L ++ B') ∧ R b B') := h.behind (A := x1 :: L)
theorem VY.l2 {P : Program} {y : Value} {args : List Value} {x1 x2 : Nat × Obj} {L B : Heap} {R : Bool → Heap → Prop} (h : VY P y args B R) : VY P y args (x1 :: x2 :: (L ++ B)) (fun b H' => ∃ B', H' = x1 :: x2 :: (L ++ B') ∧ R b B') := h.behind (A := x1 :: x2 :: L)
theorem VY.l3 {P : Program} {y : Value} {args : List Value} {x1 x2 x3 : Nat × Obj} {L B : Heap} {R : Bool → Heap → Prop} (h : VY P y args B R) : VY P y args (x1 :: x2 :: x3 :: (L ++ B)) (fun b H' => ∃ B', H' = x1 :: x2 :: x3 :: (L ++ B') ∧ R b B') := h.behind (A := x1 :: x2 :: x3 :: L)
theorem get_of_lt {α : Type} (l : List α) {i : Nat} (h : i < l.length) : ∃ z, l[i]? = some z := ⟨_, List.getElem?_eq_getElem h⟩
theorem take_succ_of {α : Type} {l : List α} {i : Nat} {z : α} (h : l[i]? = some z) : l.take (i + 1) = l.take i ++ [z] := by
  rw [List.take_add_one, h]; rfl
theorem split_at {α : Type} {l : List α} {i : Nat} {z : α} (h : l[i]? = some z) : ∃ post, l = l.take i ++ z :: post := by
  refine ⟨l.drop (i + 1), ?_⟩
  have hlt := (List.getElem?_eq_some_iff.1 h).1
  have hge := (List.getElem?_eq_some_iff.1 h).2
  rw [← hge, ← List.drop_eq_getElem_cons hlt, List.take_append_drop]

/-! ### Contracts among other blocks -/
theorem VHas.perm {P : Program} {gf : FuncId} {al : List Value} {v : Value} {A A' B B' : Heap} (hp : A.Perm B) (hp' : A'.Perm B') (h : VHas P gf al v A A') : VHas P gf al v B B' := by
  intro w cs hE
  obtain ⟨o, w', m', H', ⟨h2, h3⟩, hFr, hs⟩ := h w cs (hE.perm hp.symm)
  subst h3
  exact ⟨o, w', m', _, ⟨h2, rfl⟩, hFr.perm hp hp', hs⟩
theorem sub_perm {A H : Heap} (hs : A.Sublist H) : ∃ B, H.Perm (A ++ B) := by
  induction hs with
  | slnil => exact ⟨[], .refl _⟩
  | cons x _ ih => obtain ⟨B, hB⟩ := ih; exact ⟨x :: B, (hB.cons x).trans List.perm_middle.symm⟩
  | cons_cons x _ ih => obtain ⟨B, hB⟩ := ih; exact ⟨B, hB.cons x⟩
/-- Blocks that are there and are kept. -/
theorem VHas.keepSub {P : Program} {gf : FuncId} {al : List Value} {v : Value} {A H : Heap} (h : VHas P gf al v A A) (hs : A.Sublist H) : VHas P gf al v H H := by
  obtain ⟨B, hB⟩ := sub_perm hs
  exact (h.frame (B := B)).perm hB.symm hB.symm
end Go.Proofs.Ytffpfcomikcimaa
