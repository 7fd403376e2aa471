/-
  From contracts of the engine to the given statements: the frame of a law, and how its arguments read. No condition.
-/
import Derived.Test.YtffpfcomikcimaaSlc
import Derived.ProofKit
import Derived.OpenShut
namespace Go.Proofs.Ytffpfcomikcimaa
open Go
open Go.ChangeShapes Go.WideShapes Go.ChangeAt Go.RowKit

/-! ### All blocks of a world -/
def allH (W : World) : Heap := W.heap.toList.zipIdx.map fun p => (p.2, p.1)
theorem allH_mem {W : World} {b : Nat} {ob : Obj} : (b, ob) ∈ allH W ↔ W.heap[b]? = some ob := by
  unfold allH
  rw [List.mem_map]
  constructor
  · rintro ⟨⟨o, i⟩, h, e⟩
    simp only [Prod.mk.injEq] at e
    obtain ⟨rfl, rfl⟩ := e
    have := List.mem_zipIdx_iff_getElem?.1 h
    simpa using this
  · intro h
    exact ⟨(ob, b), List.mem_zipIdx_iff_getElem?.2 (by simpa using h), rfl⟩
theorem allH_emb (W : World) : Emb (allH W) W := by
  refine ⟨?_, fun e he => ?_⟩
  · have : (allH W).map Prod.fst = List.range W.heap.size := by
      unfold allH
      rw [List.map_map]
      have : (Prod.fst ∘ fun p : Obj × Nat => (p.2, p.1)) = Prod.snd := rfl
      rw [this, List.zipIdx_map_snd, List.range_eq_range']
      simp
    rw [this]; exact List.nodup_range
  · exact allH_mem.1 he

/-- A contract at all blocks, in the library's form. -/
theorem calls_of {P : Program} {k : FuncId} {args : Array Value} {W : World} {v : Value} (h : VCall P k args (allH W) (fun o H' => o = .val v ∧ ∃ B, H' = B ++ allH W)) :
    Calls P k args W (fun e w' => e = .returned v ∧ Below W.heap.size W w') := by
  intro cs
  obtain ⟨o, w', m', H', ⟨rfl, B, rfl⟩, hF, hs, _, fr', rfl, h1, h2⟩ := h W cs (allH_emb W)
  refine ⟨.returned v, w', fr', ⟨rfl, hF.os, hF.tape, hF.output, hF.size, fun i hi => ?_⟩, hs, h1, h2⟩
  have hg : W.heap[i]? = some W.heap[i] := Array.getElem?_eq_getElem hi
  rw [hg]
  exact hF.emb.at_ (i, W.heap[i]) (List.mem_append_right _ (allH_mem.2 hg))

/-! ### How an argument reads -/
inductive CK where
  | i | b | s | sl (e : TypeId)
  deriving DecidableEq
def flatF (P : Program) (g : TypeId → Option (List CK)) : List Field → Nat → Option (List CK)
  | [], _ => some []
  | f :: r, off => if f.offset = off then (match g f.type with | some ks => if P.cellsOf f.type = ks.length then (flatF P g r (off + ks.length)).map (ks ++ ·) else Option.none | Option.none => Option.none) else Option.none
def repK : Nat → List CK → List CK
  | 0, _ => []
  | n + 1, ks => ks ++ repK n ks
/-- The cells of a type that holds but integers, truth values, strings and slices. -/
def flat (P : Program) : Nat → TypeId → Option (List CK)
  | 0, _ => Option.none
  | n + 1, t => match P.underlying t with
    | some .bool => some [.b]
    | some (.int .i64) => some [.i]
    | some .string => some [.s]
    | some (.slice e) => some [.sl e]
    | some (.struct fs) => (flatF P (flat P n) fs.toList 0).bind fun ks => if P.cellsOf t = ks.length then some ks else Option.none
    | some (.array m e) => (flat P n e).bind fun ks => if P.cellsOf e = ks.length ∧ P.cellsOf t = m * ks.length then some (repK m ks) else Option.none
    | _ => Option.none
theorem repK_len (ks : List CK) : ∀ n, (repK n ks).length = n * ks.length
  | 0 => by simp [repK]
  | n + 1 => by simp [repK, repK_len ks n, Nat.succ_mul]; omega

section
variable {HH : Type} (enc : TypeId × Value → HH) (P : Program) (W : World)

/-- A row of cells that reads. -/
def RowIs (e : TypeId) (row : List Value) : Prop := ∃ fuel d ps, DataW.trod enc P W 0 (fun _ => true) true fuel e row = some (d, ps)
def CellIs : CK → Value → Prop
  | .i, v => ∃ n, v = .int .i64 n ∧ InR n
  | .b, v => ∃ x, v = .bool x
  | .s, v => ∃ x : ByteArray, v = .string x ∧ x.size ≤ 9223372036854775807
  | .sl e, v => v = .slice Option.none 0 0 ∨ ∃ a len cap, v = .slice (some a) len cap ∧ len ≤ 9223372036854775807 ∧ ∀ i, i < len → ∃ row, W.cells? 0 (a.add (i * P.cellsOf e)) (P.cellsOf e) = some row ∧ RowIs enc P W e row
def CellsAre : List CK → List Value → Prop
  | [], [] => True
  | k :: ks, v :: vs => CellIs enc P W k v ∧ CellsAre ks vs
  | _, _ => False
variable {enc P W}
theorem CellsAre.app : ∀ {ks ks' : List CK} {vs vs' : List Value}, CellsAre enc P W ks vs → CellsAre enc P W ks' vs' → CellsAre enc P W (ks ++ ks') (vs ++ vs')
  | [], _, [], _, _, h => h
  | _ :: _, _, _ :: _, _, h, h' => ⟨h.1, h.2.app h'⟩
  | [], _, _ :: _, _, h, _ => h.elim
  | _ :: _, _, [], _, h, _ => h.elim
theorem mapM_get {α β : Type} {f : α → Option β} : ∀ {l : List α} {ys : List β}, l.mapM f = some ys → ∀ x ∈ l, ∃ y, f x = some y
  | [], _, _, x, hx => by cases hx
  | a :: l, ys, h, x, hx => by
    rw [List.mapM_cons] at h
    cases ha : f a with
    | none => rw [ha] at h; cases h
    | some y =>
      rw [ha] at h
      cases hl : l.mapM f with
      | none => rw [hl] at h; cases h
      | some zs =>
        rcases List.mem_cons.1 hx with rfl | hx
        · exact ⟨y, ha⟩
        · exact mapM_get hl x hx
theorem drop_take_split (cs : List Value) (off n m : Nat) : (cs.drop off).take (n + m) = (cs.drop off).take n ++ (cs.drop (off + n)).take m := by
  rw [List.take_add, List.drop_drop]

theorem flatF_cells {g : TypeId → Option (List CK)} {fuel : Nat} (hg : ∀ t ks cs d ps, g t = some ks → DataW.trod enc P W 0 (fun _ => true) true fuel t cs = some (d, ps) → CellsAre enc P W ks cs) :
    ∀ (fs : List Field) (off : Nat) (ks : List CK) (cs : List Value), flatF P g fs off = some ks → (∀ f ∈ fs, ∃ y, DataW.trod enc P W 0 (fun _ => true) true fuel f.type ((cs.drop f.offset).take (P.cellsOf f.type)) = some y) → CellsAre enc P W ks ((cs.drop off).take ks.length)
  | [], off, ks, cs, h, _ => by
    simp only [flatF, Option.some.injEq] at h
    subst h
    simp [CellsAre]
  | f :: r, off, ks, cs, h, hm => by
    simp only [flatF] at h
    split at h
    · rename_i hoff
      split at h
      · rename_i k1 hk1
        split at h
        · rename_i hsz
          cases hr : flatF P g r (off + k1.length) with
          | none => rw [hr] at h; cases h
          | some k2 =>
            rw [hr] at h
            simp only [Option.map_some, Option.some.injEq] at h
            subst h
            obtain ⟨⟨d, ps⟩, hy⟩ := hm f (by simp)
            rw [hoff, hsz] at hy
            have h1 := hg f.type k1 _ d ps hk1 hy
            have h2 := flatF_cells hg r (off + k1.length) k2 cs hr (fun f' hf' => hm f' (by simp [hf']))
            rw [List.length_append, drop_take_split]
            exact h1.app h2
        · cases h
      · cases h
    · cases h

theorem arr_cells {ks : List CK} {fuel : Nat} {e : TypeId} (hsz : P.cellsOf e = ks.length) (hg : ∀ cs d ps, DataW.trod enc P W 0 (fun _ => true) true fuel e cs = some (d, ps) → CellsAre enc P W ks cs) (cs : List Value) :
    ∀ (n m : Nat), (∀ i, i < m + n → ∃ y, DataW.trod enc P W 0 (fun _ => true) true fuel e ((cs.drop (i * P.cellsOf e)).take (P.cellsOf e)) = some y) → CellsAre enc P W (repK n ks) ((cs.drop (m * ks.length)).take (n * ks.length))
  | 0, m, _ => by simp [repK, CellsAre]
  | n + 1, m, h => by
    obtain ⟨⟨d, ps⟩, hy⟩ := h m (by omega)
    rw [hsz] at hy
    have h1 := hg _ d ps hy
    have h2 := arr_cells hsz hg cs n (m + 1) (fun i hi => h i (by omega))
    rw [repK, Nat.succ_mul n, Nat.add_comm (n * ks.length), drop_take_split]
    rw [Nat.succ_mul] at h2
    exact h1.app h2

theorem cells_int {k : IntKind} {fuel : Nat} {t : TypeId} {cs : List Value} {d : DataW HH} {ps : List MemPlace} (ht : P.underlying t = some (.int k)) (h : DataW.trod enc P W 0 (fun _ => true) true (fuel + 1) t cs = some (d, ps)) : ∃ n, cs = [.int k n] ∧ (Lit.int k n).wf = true := by
  simp only [DataW.trod, ht] at h
  split at h <;> simp_all
theorem cells_bool {fuel : Nat} {t : TypeId} {cs : List Value} {d : DataW HH} {ps : List MemPlace} (ht : P.underlying t = some .bool) (h : DataW.trod enc P W 0 (fun _ => true) true (fuel + 1) t cs = some (d, ps)) : ∃ n, cs = [.bool n] := by
  simp only [DataW.trod, ht] at h
  split at h <;> simp_all
theorem cells_string {fuel : Nat} {t : TypeId} {cs : List Value} {d : DataW HH} {ps : List MemPlace} (ht : P.underlying t = some .string) (h : DataW.trod enc P W 0 (fun _ => true) true (fuel + 1) t cs = some (d, ps)) : ∃ s, cs = [.string s] ∧ s.size ≤ maxLen := by
  simp only [DataW.trod, ht] at h
  split at h <;> simp_all
theorem cells_slice {fuel : Nat} {t e : TypeId} {cs : List Value} {d : DataW HH} {ps : List MemPlace} (ht : P.underlying t = some (.slice e)) (h : DataW.trod enc P W 0 (fun _ => true) true (fuel + 1) t cs = some (d, ps)) :
    cs = [.slice Option.none 0 0] ∨ ∃ a len cap, cs = [.slice (some a) len cap] ∧ len ≤ maxLen ∧ ∀ i, i < len → ∃ y, (W.cells? 0 (a.add (i * P.cellsOf e)) (P.cellsOf e)).bind (DataW.trod enc P W 0 (fun _ => true) true fuel e) = some y := by
  cases cs with
  | nil => simp [DataW.trod, ht] at h
  | cons v r =>
    cases r with
    | cons u r => simp [DataW.trod, ht] at h
    | nil =>
      cases v <;> try (simp [DataW.trod, ht] at h; done)
      rename_i oa len cap
      cases oa with
      | none =>
        left
        cases len <;> cases cap <;> first | rfl | (simp [DataW.trod, ht] at h; done)
      | some a =>
        right
        simp only [DataW.trod, ht] at h
        split at h
        · rename_i hb
          refine ⟨a, len, cap, rfl, by omega, fun i hi => ?_⟩
          cases hm : (List.range len).mapM (fun i => (W.cells? 0 (a.add (i * P.cellsOf e)) (P.cellsOf e)).bind (DataW.trod enc P W 0 (fun _ => true) true fuel e)) with
          | none => rw [hm] at h; cases h
          | some ys => exact mapM_get hm i (List.mem_range.2 hi)
        · cases h
theorem cells_struct {fuel : Nat} {t : TypeId} {fs : Array Field} {cs : List Value} {d : DataW HH} {ps : List MemPlace} (ht : P.underlying t = some (.struct fs)) (h : DataW.trod enc P W 0 (fun _ => true) true (fuel + 1) t cs = some (d, ps)) :
    cs.length = P.cellsOf t ∧ ∀ f ∈ fs.toList, ∃ y, DataW.trod enc P W 0 (fun _ => true) true fuel f.type ((cs.drop f.offset).take (P.cellsOf f.type)) = some y := by
  simp only [DataW.trod, ht] at h
  split at h
  · rename_i hl
    refine ⟨hl, fun f hf => ?_⟩
    cases hm : fs.toList.mapM (fun f => DataW.trod enc P W 0 (fun _ => true) true fuel f.type ((cs.drop f.offset).take (P.cellsOf f.type))) with
    | none => rw [hm] at h; cases h
    | some ys => exact mapM_get hm f hf
  · cases h
theorem cells_array {fuel m : Nat} {t e : TypeId} {cs : List Value} {d : DataW HH} {ps : List MemPlace} (ht : P.underlying t = some (.array m e)) (h : DataW.trod enc P W 0 (fun _ => true) true (fuel + 1) t cs = some (d, ps)) :
    cs.length = P.cellsOf t ∧ ∀ i, i < m → ∃ y, DataW.trod enc P W 0 (fun _ => true) true fuel e ((cs.drop (i * P.cellsOf e)).take (P.cellsOf e)) = some y := by
  simp only [DataW.trod, ht] at h
  split at h
  · rename_i hl
    refine ⟨hl, fun i hi => ?_⟩
    cases hm : (List.range m).mapM (fun i => DataW.trod enc P W 0 (fun _ => true) true fuel e ((cs.drop (i * P.cellsOf e)).take (P.cellsOf e))) with
    | none => rw [hm] at h; cases h
    | some ys => exact mapM_get hm i (List.mem_range.2 hi)
  · cases h

/-- **A type's cells.** -/
theorem flat_cells : ∀ (n : Nat) (t : TypeId) (ks : List CK) (fuel : Nat) (cs : List Value) (d : DataW HH) (ps : List MemPlace), flat P n t = some ks → DataW.trod enc P W 0 (fun _ => true) true fuel t cs = some (d, ps) → CellsAre enc P W ks cs
  | 0, _, _, _, _, _, _, h, _ => by cases h
  | n + 1, _, _, 0, _, _, _, _, h => by cases h
  | n + 1, t, ks, fuel + 1, cs, d, ps, h, hr => by
    simp only [flat] at h
    split at h
    · rename_i ht
      cases h
      obtain ⟨x, rfl⟩ := cells_bool ht hr
      exact ⟨⟨x, rfl⟩, True.intro⟩
    · rename_i ht
      cases h
      obtain ⟨x, rfl, hx⟩ := cells_int ht hr
      exact ⟨⟨x, rfl, bounds_i64 hx⟩, True.intro⟩
    · rename_i ht
      cases h
      obtain ⟨x, rfl, hx⟩ := cells_string ht hr
      exact ⟨⟨x, rfl, by unfold maxLen at hx; omega⟩, True.intro⟩
    · rename_i e ht
      cases h
      rcases cells_slice ht hr with rfl | ⟨a, len, cap, rfl, hl, hx⟩
      · exact ⟨.inl rfl, True.intro⟩
      · refine ⟨.inr ⟨a, len, cap, rfl, by unfold maxLen at hl; omega, fun i hi => ?_⟩, True.intro⟩
        obtain ⟨⟨d', ps'⟩, hy⟩ := hx i hi
        cases hc : W.cells? 0 (a.add (i * P.cellsOf e)) (P.cellsOf e) with
        | none => rw [hc] at hy; cases hy
        | some row => rw [hc] at hy; exact ⟨row, rfl, fuel, d', ps', hy⟩
    · rename_i fs ht
      obtain ⟨hl, hf⟩ := cells_struct ht hr
      cases hk : flatF P (flat P n) fs.toList 0 with
      | none => rw [hk] at h; cases h
      | some k =>
        rw [hk] at h
        simp only [Option.bind_some] at h
        split at h
        · rename_i hsz
          cases h
          have := flatF_cells (fuel := fuel) (fun t ks cs d ps h1 h2 => flat_cells n t ks fuel cs d ps h1 h2) fs.toList 0 ks cs hk hf
          rw [List.drop_zero, List.take_of_length_le (by omega)] at this
          exact this
        · cases h
    · rename_i m e ht
      obtain ⟨hl, hf⟩ := cells_array ht hr
      cases hk : flat P n e with
      | none => rw [hk] at h; cases h
      | some k =>
        rw [hk] at h
        simp only [Option.bind_some] at h
        split at h
        · rename_i hsz
          cases h
          have := arr_cells (fuel := fuel) (e := e) hsz.1 (fun cs d ps h2 => flat_cells n e k fuel cs d ps hk h2) cs m 0 (fun i hi => hf i (by omega))
          rw [Nat.zero_mul, List.drop_zero, List.take_of_length_le (by omega)] at this
          exact this
        · cases h
    · cases h

/-! ### Slices -/
theorem list_choose {α : Type} {Q : Nat → α → Prop} : ∀ n : Nat, (∀ i, i < n → ∃ x, Q i x) → ∃ l : List α, l.length = n ∧ ∀ i x, l[i]? = some x → Q i x
  | 0, _ => ⟨[], rfl, fun i x h => by simp at h⟩
  | n + 1, h => by
    obtain ⟨l, hl, hq⟩ := list_choose n fun i hi => h i (by omega)
    obtain ⟨x, hx⟩ := h n (by omega)
    refine ⟨l ++ [x], by simp [hl], fun i y hy => ?_⟩
    by_cases hi : i < n
    · rw [List.getElem?_append_left (by omega)] at hy; exact hq i y hy
    · rw [List.getElem?_append_right (by omega)] at hy
      have : i - l.length = 0 := by
        have := (List.getElem?_eq_some_iff.1 hy).1
        simp at this; omega
      rw [this] at hy
      simp only [List.getElem?_cons_zero, Option.some.injEq] at hy
      subst hy
      have : i = n := by omega
      subst this; exact hx
theorem cells?_get {a : Addr} {n : Nat} {row : List Value} (h : W.cells? 0 a n = some row) : row.length = n ∧ ∀ j v, row[j]? = some v → W.cell? (a.add j) = some v := by
  unfold World.cells? at h
  rw [if_pos (Nat.zero_le _)] at h
  have key : ∀ (l : List Nat) (ys : List Value), l.mapM (fun i => W.cell? (a.add i)) = some ys → ys.length = l.length ∧ ∀ (j : Nat) (v : Value), ys[j]? = some v → ∃ i : Nat, l[j]? = some i ∧ W.cell? (a.add i) = some v := by
    intro l
    induction l with
    | nil => intro ys h; simp at h; subst h; simp
    | cons x l ih =>
      intro ys h
      rw [List.mapM_cons] at h
      cases hx : W.cell? (a.add x) with
      | none => rw [hx] at h; cases h
      | some y =>
        rw [hx] at h
        cases hl : l.mapM (fun i => W.cell? (a.add i)) with
        | none => rw [hl] at h; cases h
        | some zs =>
          rw [hl] at h
          cases h
          obtain ⟨h1, h2⟩ := ih zs hl
          refine ⟨by simp [h1], fun j v hj => ?_⟩
          cases j with
          | zero => simp at hj; subst hj; exact ⟨x, rfl, hx⟩
          | succ j => simp at hj; obtain ⟨i, h3, h4⟩ := h2 j v hj; exact ⟨i, by simpa using h3, h4⟩
  obtain ⟨h1, h2⟩ := key _ _ h
  refine ⟨by simpa using h1, fun j v hj => ?_⟩
  obtain ⟨i, h3, h4⟩ := h2 j v hj
  have hj' := (List.getElem?_eq_some_iff.1 h3).1
  rw [List.getElem?_range (by simpa using hj')] at h3
  cases h3; exact h4
theorem cell_block {a : Addr} {v : Value} (h : W.cell? a = some v) : ∃ ob, W.heap[a.block]? = some ob ∧ oCell ob a = some v := by
  cases hb : W.heap[a.block]? with
  | none => unfold World.cell? at h; rw [hb] at h; cases h
  | some ob => exact ⟨ob, rfl, by rw [← oCell_eq hb]; exact h⟩

/-- A slice of things that decode. -/
theorem slice_of {α : Type} {e : TypeId} {ks : List CK} {n esz : Nat} {v : Value} (en : α → List Value) (Pr : α → Prop) (hk : flat P n e = some ks) (hs : P.cellsOf e = esz) (h0 : 0 < esz) (dec : ∀ row, CellsAre enc P W ks row → row.length = esz → ∃ x, row = en x ∧ Pr x) (h : CellIs enc P W (.sl e) v) :
    ∃ (oa : Option Addr) (m c : Nat) (l : List α), v = .slice oa m c ∧ l.length = m ∧ m ≤ 9223372036854775807 ∧ (∀ x ∈ l, Pr x) ∧ (oa = Option.none → m = 0 ∧ c = 0) ∧ SlO (allH W) oa esz en l := by
  rcases h with rfl | ⟨a, len, cap, rfl, hl, hx⟩
  · exact ⟨Option.none, 0, 0, [], rfl, rfl, by omega, (fun x hx => by cases hx), (fun _ => ⟨rfl, rfl⟩), SlO.nil⟩
  · obtain ⟨l, h1, h2⟩ := list_choose (Q := fun i x => Pr x ∧ (en x).length = esz ∧ ∀ j u, (en x)[j]? = some u → W.cell? (a.add (i * esz + j)) = some u) len fun i hi => by
      obtain ⟨row, hr, fuel, d, ps, ht⟩ := hx i hi
      obtain ⟨g1, g2⟩ := cells?_get hr
      obtain ⟨x, rfl, hp⟩ := dec row (flat_cells n e ks fuel row d ps hk ht) (by rw [g1, hs])
      refine ⟨x, hp, by rw [g1, hs], fun j u hj => ?_⟩
      have := g2 j u hj
      rw [add_add, hs] at this; exact this
    refine ⟨some a, len, cap, l, rfl, h1, hl, fun x hx => ?_, (fun h => by cases h), ⟨fun i x hi => ?_⟩⟩
    · obtain ⟨i, hi, e⟩ := List.mem_iff_getElem.1 hx
      exact (h2 i x (by rw [List.getElem?_eq_getElem hi, e])).1
    · obtain ⟨_, h3, h4⟩ := h2 i x hi
      refine ⟨h3, ?_⟩
      have hpos : 0 < (en x).length := by rw [h3]; exact h0
      obtain ⟨ob, hb, _⟩ := cell_block (h4 0 _ (List.getElem?_eq_getElem hpos))
      rw [add_block] at hb
      refine ⟨a, ob, rfl, allH_mem.2 hb, fun j u hj => ?_⟩
      have := h4 j u hj
      rw [← oCell_eq (w := W) (by rw [add_block]; exact hb)]; exact this
theorem trod_cells {t : TypeId} {v : Value} {d : DataW HH} {ps : List MemPlace} {n : Nat} {ks : List CK} (hk : flat P n t = some ks) (h : DataW.Trod enc P W 0 (fun _ => true) true t v d ps) : CellsAre enc P W ks v.cells.toList :=
  let ⟨fuel, hf⟩ := h; flat_cells n t ks fuel _ d ps hk hf
/-- A struct or an array, as a value. -/
theorem okWide_agg {t : TypeId} {v : Value} {base : Nat} {r : Reach} (ht : (∃ fs, P.underlying t = some (.struct fs)) ∨ ∃ m e, P.underlying t = some (.array m e)) (h : Value.okWide P W r base t v) : ∃ l : List Value, v = .agg l.toArray ∧ v.cells.toList = l := by
  have : ∃ cs, v = .agg cs := by
    rcases ht with ⟨fs, ht⟩ | ⟨m, e, ht⟩ <;> (unfold Value.okWide at h; rw [ht] at h; obtain ⟨cs, h, _⟩ := h; exact ⟨cs, h⟩)
  obtain ⟨cs, rfl⟩ := this
  exact ⟨cs.toList, by simp, rfl⟩
/-- Any other value is one cell. -/
theorem cells_one {v : Value} {x : Value} (h : v.cells.toList = [x]) (hv : ∀ c, v ≠ .agg c) : v = x := by
  cases v <;> simp_all [Value.cells]
end
end Go.Proofs.Ytffpfcomikcimaa
