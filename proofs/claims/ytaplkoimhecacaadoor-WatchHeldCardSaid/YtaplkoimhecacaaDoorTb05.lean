/-
  Plain Lean of package watch: a ship and sources that are moved. No condition, no program. From contracts of the engine to the given statements: the frame of a law, and how its arguments read. No condition. Plain Lean of package watch: what a step makes of the map of animals. No condition, no program. Plain Lean of package watch: ways add up; an animal that is farther than the guard says stays away. No condition, no program.
-/
import Derived.Test.YtaplkoimhecacaaDoorTb04
import Derived.Test.YtaplkoimhecacaaDoorTb03
import Derived.ProofKit
import Derived.OpenShut
namespace Go.Proofs.YtaplkoimhecacaaDoor
open Go
def shR (v : Pt) (r : Rg) : Rg := r.map2 Bd.plus (ofP v)
theorem inR_sh {v : Pt} {r : Rg} {p : Pt} : inR (shR v r) ⟨p.x + v.x, p.y + v.y⟩ ↔ inR r p := inR_move
theorem tight_sh (v : Pt) (r : Rg) : tightP (shR v r) = (tightP r).map (shR v) := by
  cases h : tightP r with
  | none =>
    refine tight_none.2 fun p hp => ?_
    have : inR r ⟨p.x - v.x, p.y - v.y⟩ := by
      rw [← inR_sh (v := v)]
      simpa using hp
    exact tight_none.1 h _ this
  | some t =>
    have e : tightP (shR v r) = tightP (shR v t) := by
      refine tight_eq fun p => ?_
      have h1 := inR_sh (v := v) (r := r) (p := ⟨p.x - v.x, p.y - v.y⟩)
      have h2 := inR_sh (v := v) (r := t) (p := ⟨p.x - v.x, p.y - v.y⟩)
      simp only [Int.sub_add_cancel] at h1 h2
      have e : (⟨p.x, p.y⟩ : Pt) = p := rfl
      rw [e] at h1 h2
      rw [h1, h2, tight_in h]
    rw [e]
    exact totR_tight (totR_move (totR_self h) v)
theorem Tgt1.tot {r : Rg} (h : Tgt1 r) : TotR r r := tight_totR h.tg
def Mid (r : Rg) (B : Int) : Prop := (-B ≤ r.x.lo ∧ r.x.hi ≤ B) ∧ -B ≤ r.y.lo ∧ r.y.hi ≤ B
theorem Mid.sd {r : Rg} {B : Int} (h : Mid r B) (ht : TotR r r) : (-(2 * B) ≤ r.s.lo ∧ r.s.hi ≤ 2 * B) ∧ -(2 * B) ≤ r.d.lo ∧ r.d.hi ≤ 2 * B := by
  obtain ⟨p1, m1, e1⟩ := ht.slo
  obtain ⟨p2, m2, e2⟩ := ht.shi
  obtain ⟨p3, m3, e3⟩ := ht.dlo
  obtain ⟨p4, m4, e4⟩ := ht.dhi
  unfold Mid at h
  unfold inR at *
  omega
theorem Mid.tgt {r : Rg} {B : Int} (h : Mid r B) (ht : tightP r = some r) (hB : B ≤ 32768) : Tgt1 r := by
  have hs := h.sd (tight_totR ht)
  have h2 := tight_sub ht
  unfold Mid at h
  refine ⟨?_, ht⟩
  unfold Rg.ok Bd.fits
  omega
theorem Mid.sub {r r' : Rg} {B : Int} (h : Mid r B) {t : Rg} (ht : tightP r' = some t) (hs : ∀ p, inR r' p → inR r p) : Mid t B := by
  have := tight_of_ends ht hs
  unfold Mid at *
  omega
theorem Mid.mono {r : Rg} {B C : Int} (h : Mid r B) (hc : B ≤ C) : Mid r C := by unfold Mid at *; omega
/-- A region that is moved: the tight one is moved. -/
structure Mvd (v : Pt) (r r' : Rg) : Prop where
  ok : r.ok
  tg : ∃ t, tightP r = some t ∧ r' = shR v t
  mid : Mid r 25000
  mid' : Mid r' 25000
theorem Mvd.facts {v : Pt} {r r' : Rg} (h : Mvd v r r') : Tgt1 (tgR r) ∧ r' = shR v (tgR r) ∧ tightP r' = some r' ∧ tgR r' = shR v (tgR r) ∧ Mid (tgR r) 25000 ∧ Mid (shR v (tgR r)) 25000 ∧ Tgt1 r' ∧ tightP r = some (tgR r) := by
  obtain ⟨t, ht, rfl⟩ := h.tg
  have e : tgR r = t := by unfold tgR; rw [ht]; rfl
  have htt := tight_idem ht
  have h2 : tightP (shR v t) = some (shR v t) := by rw [tight_sh, htt]; rfl
  rw [e]
  refine ⟨Tgt1.of ht h.ok, rfl, h2, by unfold tgR; rw [h2]; rfl, h.mid.sub ht (fun _ hp => hp), h.mid', h.mid'.tgt h2 (by omega), ht⟩
structure Moved (v : Pt) (s s' : Sc) : Prop where
  sg : s'.sg = s.sg
  len : s'.ship.length = s.ship.length
  ship : ∀ t, t < s.ship.length → Mvd v (atR s.ship t) (atR s'.ship t)
/-- What is known lies far from the edges. -/
def midK (v : Pt) (t : Int) (k : Kn) : Prop := ∀ a, k = some a → Tgt1 a.1 ∧ Mid a.1 (25256 + 32 * (t - a.2)) ∧ Mid (shR v a.1) (25256 + 32 * (t - a.2)) ∧ a.2 ≤ t ∧ t - a.2 ≤ 17
theorem midK.sh {v : Pt} {t : Int} {k : Kn} (h : midK v t k) {a : Rg × Int} (ha : k = some a) : Tgt1 a.1 ∧ Tgt1 (shR v a.1) := by
  obtain ⟨h1, h2, h3, h4, h5⟩ := h a ha
  exact ⟨h1, h3.tgt (by rw [tight_sh, h1.tg]; rfl) (by omega)⟩
end Go.Proofs.YtaplkoimhecacaaDoor
namespace Go.Proofs.YtaplkoimhecacaaDoor
open Go
open Go.ChangeShapes Go.WideShapes Go.ChangeAt Go.RowKit

/-! ### All blocks of a world -/
def allH (W : World) : Heap := W.heap.toList.zipIdx.map fun p => (p.2, p.1)
theorem allH_mem {W : World} {b : Nat} {ob : Obj} : (b, ob) ∈ allH W ↔ W.heap[b]? = some ob := by
  unfold allH
  rw [List.mem_map]
  constructor
  · rintro ⟨⟨o, i⟩, h, e⟩
    simp only [Prod.mk.injEq] at e
    obtain ⟨rfl, rfl⟩ := e
    have := List.mem_zipIdx_iff_getElem?.1 h
    simpa using this
  · intro h
    exact ⟨(ob, b), List.mem_zipIdx_iff_getElem?.2 (by simpa using h), rfl⟩
/-! ### How an argument reads -/
inductive CK where
  | i | b | s | sl (e : TypeId)
  deriving DecidableEq
def flatF (P : Program) (g : TypeId → Option (List CK)) : List Field → Nat → Option (List CK)
  | [], _ => some []
  | f :: r, off => if f.offset = off then (match g f.type with | some ks => if P.cellsOf f.type = ks.length then (flatF P g r (off + ks.length)).map (ks ++ ·) else Option.none | Option.none => Option.none) else Option.none
def repK : Nat → List CK → List CK
  | 0, _ => []
  | n + 1, ks => ks ++ repK n ks
/-- The cells of a type that holds but integers, truth values, strings and slices. -/
def flat (P : Program) : Nat → TypeId → Option (List CK)
  | 0, _ => Option.none
  | n + 1, t => match P.underlying t with
    | some .bool => some [.b]
    | some (.int .i64) => some [.i]
    | some .string => some [.s]
    | some (.slice e) => some [.sl e]
    | some (.struct fs) => (flatF P (flat P n) fs.toList 0).bind fun ks => if P.cellsOf t = ks.length then some ks else Option.none
    | some (.array m e) => (flat P n e).bind fun ks => if P.cellsOf e = ks.length ∧ P.cellsOf t = m * ks.length then some (repK m ks) else Option.none
    | _ => Option.none
section
variable {HH : Type} (enc : TypeId × Value → HH) (P : Program) (W : World)

/-- A row of cells that reads. -/
def RowIs (e : TypeId) (row : List Value) : Prop := ∃ fuel d ps, DataW.trod enc P W 0 (fun _ => true) true fuel e row = some (d, ps)
def CellIs : CK → Value → Prop
  | .i, v => ∃ n, v = .int .i64 n ∧ InR n
  | .b, v => ∃ x, v = .bool x
  | .s, v => ∃ x : ByteArray, v = .string x ∧ x.size ≤ 9223372036854775807
  | .sl e, v => v = .slice Option.none 0 0 ∨ ∃ a len cap, v = .slice (some a) len cap ∧ len ≤ 9223372036854775807 ∧ len ≤ cap ∧ ∀ i, i < len → ∃ row, W.cells? 0 (a.add (i * P.cellsOf e)) (P.cellsOf e) = some row ∧ RowIs enc P W e row
def CellsAre : List CK → List Value → Prop
  | [], [] => True
  | k :: ks, v :: vs => CellIs enc P W k v ∧ CellsAre ks vs
  | _, _ => False
variable {enc P W}
theorem CellsAre.app : ∀ {ks ks' : List CK} {vs vs' : List Value}, CellsAre enc P W ks vs → CellsAre enc P W ks' vs' → CellsAre enc P W (ks ++ ks') (vs ++ vs')
  | [], _, [], _, _, h => h
  | _ :: _, _, _ :: _, _, h, h' => ⟨h.1, h.2.app h'⟩
  | [], _, _ :: _, _, h, _ => h.elim
  | _ :: _, _, [], _, h, _ => h.elim
theorem mapM_get {α β : Type} {f : α → Option β} : ∀ {l : List α} {ys : List β}, l.mapM f = some ys → ∀ x ∈ l, ∃ y, f x = some y
  | [], _, _, x, hx => by cases hx
  | a :: l, ys, h, x, hx => by
    rw [List.mapM_cons] at h
    cases ha : f a with
    | none => rw [ha] at h; cases h
    | some y =>
      rw [ha] at h
      cases hl : l.mapM f with
      | none => rw [hl] at h; cases h
      | some zs =>
        rcases List.mem_cons.1 hx with rfl | hx
        · exact ⟨y, ha⟩
        · exact mapM_get hl x hx
theorem drop_take_split (cs : List Value) (off n m : Nat) : (cs.drop off).take (n + m) = (cs.drop off).take n ++ (cs.drop (off + n)).take m := by
  rw [List.take_add, List.drop_drop]

theorem flatF_cells {g : TypeId → Option (List CK)} {fuel : Nat} (hg : ∀ t ks cs d ps, g t = some ks → DataW.trod enc P W 0 (fun _ => true) true fuel t cs = some (d, ps) → CellsAre enc P W ks cs) :
    ∀ (fs : List Field) (off : Nat) (ks : List CK) (cs : List Value), flatF P g fs off = some ks → (∀ f ∈ fs, ∃ y, DataW.trod enc P W 0 (fun _ => true) true fuel f.type ((cs.drop f.offset).take (P.cellsOf f.type)) = some y) → CellsAre enc P W ks ((cs.drop off).take ks.length)
  | [], off, ks, cs, h, _ => by
    simp only [flatF, Option.some.injEq] at h
    subst h
    simp [CellsAre]
  | f :: r, off, ks, cs, h, hm => by
    simp only [flatF] at h
    split at h
    · rename_i hoff
      split at h
      · rename_i k1 hk1
        split at h
        · rename_i hsz
          cases hr : flatF P g r (off + k1.length) with
          | none => rw [hr] at h; cases h
          | some k2 =>
            rw [hr] at h
            simp only [Option.map_some, Option.some.injEq] at h
            subst h
            obtain ⟨⟨d, ps⟩, hy⟩ := hm f (by simp)
            rw [hoff, hsz] at hy
            have h1 := hg f.type k1 _ d ps hk1 hy
            have h2 := flatF_cells hg r (off + k1.length) k2 cs hr (fun f' hf' => hm f' (by simp [hf']))
            rw [List.length_append, drop_take_split]
            exact h1.app h2
        · cases h
      · cases h
    · cases h

theorem arr_cells {ks : List CK} {fuel : Nat} {e : TypeId} (hsz : P.cellsOf e = ks.length) (hg : ∀ cs d ps, DataW.trod enc P W 0 (fun _ => true) true fuel e cs = some (d, ps) → CellsAre enc P W ks cs) (cs : List Value) :
    ∀ (n m : Nat), (∀ i, i < m + n → ∃ y, DataW.trod enc P W 0 (fun _ => true) true fuel e ((cs.drop (i * P.cellsOf e)).take (P.cellsOf e)) = some y) → CellsAre enc P W (repK n ks) ((cs.drop (m * ks.length)).take (n * ks.length))
  | 0, m, _ => by simp [repK, CellsAre]
  | n + 1, m, h => by
    obtain ⟨⟨d, ps⟩, hy⟩ := h m (by omega)
    rw [hsz] at hy
    have h1 := hg _ d ps hy
    have h2 := arr_cells hsz hg cs n (m + 1) (fun i hi => h i (by omega))
    rw [repK, Nat.succ_mul n, Nat.add_comm (n * ks.length), drop_take_split]
    rw [Nat.succ_mul] at h2
    exact h1.app h2

theorem cells_int {k : IntKind} {fuel : Nat} {t : TypeId} {cs : List Value} {d : DataW HH} {ps : List MemPlace} (ht : P.underlying t = some (.int k)) (h : DataW.trod enc P W 0 (fun _ => true) true (fuel + 1) t cs = some (d, ps)) : ∃ n, cs = [.int k n] ∧ (Lit.int k n).wf = true := by
  simp only [DataW.trod, ht] at h
  split at h <;> simp_all
theorem cells_bool {fuel : Nat} {t : TypeId} {cs : List Value} {d : DataW HH} {ps : List MemPlace} (ht : P.underlying t = some .bool) (h : DataW.trod enc P W 0 (fun _ => true) true (fuel + 1) t cs = some (d, ps)) : ∃ n, cs = [.bool n] := by
  simp only [DataW.trod, ht] at h
  split at h <;> simp_all
theorem cells_string {fuel : Nat} {t : TypeId} {cs : List Value} {d : DataW HH} {ps : List MemPlace} (ht : P.underlying t = some .string) (h : DataW.trod enc P W 0 (fun _ => true) true (fuel + 1) t cs = some (d, ps)) : ∃ s, cs = [.string s] ∧ s.size ≤ maxLen := by
  simp only [DataW.trod, ht] at h
  split at h <;> simp_all
theorem cells_slice {fuel : Nat} {t e : TypeId} {cs : List Value} {d : DataW HH} {ps : List MemPlace} (ht : P.underlying t = some (.slice e)) (h : DataW.trod enc P W 0 (fun _ => true) true (fuel + 1) t cs = some (d, ps)) :
    cs = [.slice Option.none 0 0] ∨ ∃ a len cap, cs = [.slice (some a) len cap] ∧ len ≤ maxLen ∧ len ≤ cap ∧ ∀ i, i < len → ∃ y, (W.cells? 0 (a.add (i * P.cellsOf e)) (P.cellsOf e)).bind (DataW.trod enc P W 0 (fun _ => true) true fuel e) = some y := by
  cases cs with
  | nil => simp [DataW.trod, ht] at h
  | cons v r =>
    cases r with
    | cons u r => simp [DataW.trod, ht] at h
    | nil =>
      cases v <;> try (simp [DataW.trod, ht] at h; done)
      rename_i oa len cap
      cases oa with
      | none =>
        left
        cases len <;> cases cap <;> first | rfl | (simp [DataW.trod, ht] at h; done)
      | some a =>
        right
        simp only [DataW.trod, ht] at h
        split at h
        · rename_i hb
          refine ⟨a, len, cap, rfl, by omega, by omega, fun i hi => ?_⟩
          cases hm : (List.range len).mapM (fun i => (W.cells? 0 (a.add (i * P.cellsOf e)) (P.cellsOf e)).bind (DataW.trod enc P W 0 (fun _ => true) true fuel e)) with
          | none => rw [hm] at h; cases h
          | some ys => exact mapM_get hm i (List.mem_range.2 hi)
        · cases h
theorem cells_struct {fuel : Nat} {t : TypeId} {fs : Array Field} {cs : List Value} {d : DataW HH} {ps : List MemPlace} (ht : P.underlying t = some (.struct fs)) (h : DataW.trod enc P W 0 (fun _ => true) true (fuel + 1) t cs = some (d, ps)) :
    cs.length = P.cellsOf t ∧ ∀ f ∈ fs.toList, ∃ y, DataW.trod enc P W 0 (fun _ => true) true fuel f.type ((cs.drop f.offset).take (P.cellsOf f.type)) = some y := by
  simp only [DataW.trod, ht] at h
  split at h
  · rename_i hl
    refine ⟨hl, fun f hf => ?_⟩
    cases hm : fs.toList.mapM (fun f => DataW.trod enc P W 0 (fun _ => true) true fuel f.type ((cs.drop f.offset).take (P.cellsOf f.type))) with
    | none => rw [hm] at h; cases h
    | some ys => exact mapM_get hm f hf
  · cases h
theorem cells_array {fuel m : Nat} {t e : TypeId} {cs : List Value} {d : DataW HH} {ps : List MemPlace} (ht : P.underlying t = some (.array m e)) (h : DataW.trod enc P W 0 (fun _ => true) true (fuel + 1) t cs = some (d, ps)) :
    cs.length = P.cellsOf t ∧ ∀ i, i < m → ∃ y, DataW.trod enc P W 0 (fun _ => true) true fuel e ((cs.drop (i * P.cellsOf e)).take (P.cellsOf e)) = some y := by
  simp only [DataW.trod, ht] at h
  split at h
  · rename_i hl
    refine ⟨hl, fun i hi => ?_⟩
    cases hm : (List.range m).mapM (fun i => DataW.trod enc P W 0 (fun _ => true) true fuel e ((cs.drop (i * P.cellsOf e)).take (P.cellsOf e))) with
    | none => rw [hm] at h; cases h
    | some ys => exact mapM_get hm i (List.mem_range.2 hi)
  · cases h

/-- **A type's cells.** -/
theorem flat_cells : ∀ (n : Nat) (t : TypeId) (ks : List CK) (fuel : Nat) (cs : List Value) (d : DataW HH) (ps : List MemPlace), flat P n t = some ks → DataW.trod enc P W 0 (fun _ => true) true fuel t cs = some (d, ps) → CellsAre enc P W ks cs
  | 0, _, _, _, _, _, _, h, _ => by cases h
  | n + 1, _, _, 0, _, _, _, _, h => by cases h
  | n + 1, t, ks, fuel + 1, cs, d, ps, h, hr => by
    simp only [flat] at h
    split at h
    · rename_i ht
      cases h
      obtain ⟨x, rfl⟩ := cells_bool ht hr
      exact ⟨⟨x, rfl⟩, True.intro⟩
    · rename_i ht
      cases h
      obtain ⟨x, rfl, hx⟩ := cells_int ht hr
      exact ⟨⟨x, rfl, bounds_i64 hx⟩, True.intro⟩
    · rename_i ht
      cases h
      obtain ⟨x, rfl, hx⟩ := cells_string ht hr
      exact ⟨⟨x, rfl, by unfold maxLen at hx; omega⟩, True.intro⟩
    · rename_i e ht
      cases h
      rcases cells_slice ht hr with rfl | ⟨a, len, cap, rfl, hl, hlc, hx⟩
      · exact ⟨.inl rfl, True.intro⟩
      · refine ⟨.inr ⟨a, len, cap, rfl, by unfold maxLen at hl; omega, hlc, fun i hi => ?_⟩, True.intro⟩
        obtain ⟨⟨d', ps'⟩, hy⟩ := hx i hi
        cases hc : W.cells? 0 (a.add (i * P.cellsOf e)) (P.cellsOf e) with
        | none => rw [hc] at hy; cases hy
        | some row => rw [hc] at hy; exact ⟨row, rfl, fuel, d', ps', hy⟩
    · rename_i fs ht
      obtain ⟨hl, hf⟩ := cells_struct ht hr
      cases hk : flatF P (flat P n) fs.toList 0 with
      | none => rw [hk] at h; cases h
      | some k =>
        rw [hk] at h
        simp only [Option.bind_some] at h
        split at h
        · rename_i hsz
          cases h
          have := flatF_cells (fuel := fuel) (fun t ks cs d ps h1 h2 => flat_cells n t ks fuel cs d ps h1 h2) fs.toList 0 ks cs hk hf
          rw [List.drop_zero, List.take_of_length_le (by omega)] at this
          exact this
        · cases h
    · rename_i m e ht
      obtain ⟨hl, hf⟩ := cells_array ht hr
      cases hk : flat P n e with
      | none => rw [hk] at h; cases h
      | some k =>
        rw [hk] at h
        simp only [Option.bind_some] at h
        split at h
        · rename_i hsz
          cases h
          have := arr_cells (fuel := fuel) (e := e) hsz.1 (fun cs d ps h2 => flat_cells n e k fuel cs d ps hk h2) cs m 0 (fun i hi => hf i (by omega))
          rw [Nat.zero_mul, List.drop_zero, List.take_of_length_le (by omega)] at this
          exact this
        · cases h
    · cases h

/-! ### Slices -/
theorem list_choose {α : Type} {Q : Nat → α → Prop} : ∀ n : Nat, (∀ i, i < n → ∃ x, Q i x) → ∃ l : List α, l.length = n ∧ ∀ i x, l[i]? = some x → Q i x
  | 0, _ => ⟨[], rfl, fun i x h => by simp at h⟩
  | n + 1, h => by
    obtain ⟨l, hl, hq⟩ := list_choose n fun i hi => h i (by omega)
    obtain ⟨x, hx⟩ := h n (by omega)
    refine ⟨l ++ [x], by simp [hl], fun i y hy => ?_⟩
    by_cases hi : i < n
    · rw [List.getElem?_append_left (by omega)] at hy; exact hq i y hy
    · rw [List.getElem?_append_right (by omega)] at hy
      have : i - l.length = 0 := by
        have := (List.getElem?_eq_some_iff.1 hy).1
        simp at this; omega
      rw [this] at hy
      simp only [List.getElem?_cons_zero, Option.some.injEq] at hy
      subst hy
      have : i = n := by omega
      subst this; exact hx
theorem cells?_get {a : Addr} {n : Nat} {row : List Value} (h : W.cells? 0 a n = some row) : row.length = n ∧ ∀ j v, row[j]? = some v → W.cell? (a.add j) = some v := by
  unfold World.cells? at h
  rw [if_pos (Nat.zero_le _)] at h
  have key : ∀ (l : List Nat) (ys : List Value), l.mapM (fun i => W.cell? (a.add i)) = some ys → ys.length = l.length ∧ ∀ (j : Nat) (v : Value), ys[j]? = some v → ∃ i : Nat, l[j]? = some i ∧ W.cell? (a.add i) = some v := by
    intro l
    induction l with
    | nil => intro ys h; simp at h; subst h; simp
    | cons x l ih =>
      intro ys h
      rw [List.mapM_cons] at h
      cases hx : W.cell? (a.add x) with
      | none => rw [hx] at h; cases h
      | some y =>
        rw [hx] at h
        cases hl : l.mapM (fun i => W.cell? (a.add i)) with
        | none => rw [hl] at h; cases h
        | some zs =>
          rw [hl] at h
          cases h
          obtain ⟨h1, h2⟩ := ih zs hl
          refine ⟨by simp [h1], fun j v hj => ?_⟩
          cases j with
          | zero => simp at hj; subst hj; exact ⟨x, rfl, hx⟩
          | succ j => simp at hj; obtain ⟨i, h3, h4⟩ := h2 j v hj; exact ⟨i, by simpa using h3, h4⟩
  obtain ⟨h1, h2⟩ := key _ _ h
  refine ⟨by simpa using h1, fun j v hj => ?_⟩
  obtain ⟨i, h3, h4⟩ := h2 j v hj
  have hj' := (List.getElem?_eq_some_iff.1 h3).1
  rw [List.getElem?_range (by simpa using hj')] at h3
  cases h3; exact h4
theorem cell_block {a : Addr} {v : Value} (h : W.cell? a = some v) : ∃ ob, W.heap[a.block]? = some ob ∧ oCell ob a = some v := by
  cases hb : W.heap[a.block]? with
  | none => unfold World.cell? at h; rw [hb] at h; cases h
  | some ob => exact ⟨ob, rfl, by rw [← oCell_eq hb]; exact h⟩

theorem trod_cells {t : TypeId} {v : Value} {d : DataW HH} {ps : List MemPlace} {n : Nat} {ks : List CK} (hk : flat P n t = some ks) (h : DataW.Trod enc P W 0 (fun _ => true) true t v d ps) : CellsAre enc P W ks v.cells.toList :=
  let ⟨fuel, hf⟩ := h; flat_cells n t ks fuel _ d ps hk hf
/-- A struct or an array, as a value. -/
theorem okWide_agg {t : TypeId} {v : Value} {base : Nat} {r : Reach} (ht : (∃ fs, P.underlying t = some (.struct fs)) ∨ ∃ m e, P.underlying t = some (.array m e)) (h : Value.okWide P W r base t v) : ∃ l : List Value, v = .agg l.toArray ∧ v.cells.toList = l := by
  have : ∃ cs, v = .agg cs := by
    rcases ht with ⟨fs, ht⟩ | ⟨m, e, ht⟩ <;> (unfold Value.okWide at h; rw [ht] at h; obtain ⟨cs, h, _⟩ := h; exact ⟨cs, h⟩)
  obtain ⟨cs, rfl⟩ := this
  exact ⟨cs.toList, by simp, rfl⟩
end
end Go.Proofs.YtaplkoimhecacaaDoor
namespace Go.Proofs.YtaplkoimhecacaaDoor
open Go
abbrev EnA := Ent ByteArray (Rg × Int)
def ageE (w : Wn) (s : Sc) (t : Int) (e : EnA) : Option EnA := (ageK w s t e.k (some e.v)).map fun v => ⟨e.k, v, e.b⟩
def stepE (w : Wn) (s : Sc) (t : Int) (seen : Array Nat) (e : EnA) : Option EnA := if seen.contains e.b = true then ageE w s t e else some e
def agedM (w : Wn) (s : Sc) (t : Int) (seen : Array Nat) (l : List EnA) : List EnA := l.filterMap (stepE w s t seen)
section
variable {w : Wn} {s : Sc} {t : Int} {seen : Array Nat}
theorem stepE_kb {e e' : EnA} (h : stepE w s t seen e = some e') : e'.k = e.k ∧ e'.b = e.b := by
  unfold stepE ageE at h
  split at h
  · obtain ⟨v, _, h2⟩ := Option.map_eq_some_iff.1 h
    subst h2; exact ⟨rfl, rfl⟩
  · cases h; exact ⟨rfl, rfl⟩
theorem agedM_cons (x : EnA) (l : List EnA) : agedM w s t seen (x :: l) = (match stepE w s t seen x with | some y => y :: agedM w s t seen l | none => agedM w s t seen l) := by
  unfold agedM; rw [List.filterMap_cons]; cases stepE w s t seen x <;> rfl
theorem agedM_nil (l : List EnA) : agedM w s t #[] l = l := by
  induction l with
  | nil => rfl
  | cons x l ih => rw [agedM_cons, ih]; simp [stepE]
theorem agedM_ks : ∀ (l : List EnA), ((agedM w s t seen l).map Ent.k).Sublist (l.map Ent.k) ∧ ((agedM w s t seen l).map Ent.b).Sublist (l.map Ent.b)
  | [] => ⟨.slnil, .slnil⟩
  | x :: l => by
    have ih := agedM_ks l
    rw [agedM_cons]
    cases h : stepE w s t seen x with
    | none => exact ⟨ih.1.cons _, ih.2.cons _⟩
    | some y =>
      obtain ⟨h1, h2⟩ := stepE_kb h
      simp only [List.map_cons, h1, h2]
      exact ⟨ih.1.cons_cons _, ih.2.cons_cons _⟩
theorem agedM_wf {l : List EnA} {c : Nat} (h : wfM l c) : wfM (agedM w s t seen l) c := by
  obtain ⟨h1, h2⟩ := agedM_ks (w := w) (s := s) (t := t) (seen := seen) l
  refine ⟨h.ks.sublist h1, h.bs.sublist h2, fun e he => ?_⟩
  have : e.b ∈ l.map Ent.b := h2.subset (List.mem_map.2 ⟨e, he, rfl⟩)
  obtain ⟨e', h3, h4⟩ := List.mem_map.1 this
  rw [← h4]; exact h.lt e' h3
theorem cont_push (a b : Nat) : (seen.push a).contains b = (seen.contains b || b == a) := Array.contains_push ..
theorem agedM_other {a : Nat} : ∀ {l : List EnA}, a ∉ l.map Ent.b → agedM w s t (seen.push a) l = agedM w s t seen l
  | [], _ => rfl
  | x :: l, h => by
    have hx : x.b ≠ a := fun e => h (by simp [e])
    rw [agedM_cons, agedM_cons, agedM_other (fun e => h (by simp [e]))]
    have : stepE w s t (seen.push a) x = stepE w s t seen x := by unfold stepE; rw [cont_push]; simp [hx]
    rw [this]
/-- An entry that has not been handed out is as it was. -/
theorem agedM_mem {e : EnA} (h0 : seen.contains e.b = false) : ∀ {l : List EnA}, e ∈ agedM w s t seen l → e ∈ l
  | [], h => by cases h
  | x :: l, h => by
    rw [agedM_cons] at h
    cases hs : stepE w s t seen x with
    | none => rw [hs] at h; exact List.mem_cons_of_mem _ (agedM_mem h0 h)
    | some y =>
      rw [hs] at h
      rcases List.mem_cons.1 h with rfl | h
      · obtain ⟨_, h2⟩ := stepE_kb hs
        unfold stepE at hs
        rw [← h2, h0] at hs
        simp at hs
        simp [hs]
      · exact List.mem_cons_of_mem _ (agedM_mem h0 h)
theorem mem_agedM {e : EnA} (h0 : seen.contains e.b = false) {l : List EnA} (h : e ∈ l) : e ∈ agedM w s t seen l := by
  unfold agedM
  refine List.mem_filterMap.2 ⟨e, h, ?_⟩
  unfold stepE
  rw [h0]; simp
theorem agedM_push {e : EnA} (h0 : seen.contains e.b = false) (c : Nat) : ∀ {l : List EnA}, (l.map Ent.k).Nodup → (l.map Ent.b).Nodup → e ∈ l →
    agedM w s t (seen.push e.b) l = match ageK w s t e.k (some e.v) with | some v => mput e.k v c (agedM w s t seen l) | none => mdel e.k (agedM w s t seen l)
  | [], _, _, h => by cases h
  | x :: l, hk, hb, h => by
    simp only [List.map_cons, List.nodup_cons] at hk hb
    have hse : ∀ a, stepE w s t (seen.push a) e = stepE w s t (seen.push a) e := fun _ => rfl
    rw [agedM_cons, agedM_cons]
    rcases List.mem_cons.1 h with rfl | h
    · rw [agedM_other hb.1]
      have h1 : stepE w s t (seen.push e.b) e = ageE w s t e := by unfold stepE; rw [cont_push]; simp
      have h2 : stepE w s t seen e = some e := by unfold stepE; rw [h0]; simp
      rw [h1, h2]
      unfold ageE
      cases ageK w s t e.k (some e.v) with
      | none => simp [mdel]
      | some v => simp [mput]
    · have hxb : x.b ≠ e.b := fun he => hb.1 (he ▸ List.mem_map.2 ⟨e, h, rfl⟩)
      have hxk : x.k ≠ e.k := fun he => hk.1 (he ▸ List.mem_map.2 ⟨e, h, rfl⟩)
      have h1 : stepE w s t (seen.push e.b) x = stepE w s t seen x := by unfold stepE; rw [cont_push]; simp [hxb]
      rw [h1, agedM_push h0 c hk.2 hb.2 h]
      cases hs : stepE w s t seen x with
      | none => rfl
      | some y =>
        obtain ⟨hy, _⟩ := stepE_kb hs
        have hyk : ¬ e.k = y.k := fun he => hxk (by rw [← hy]; exact he.symm)
        cases ageK w s t e.k (some e.v) with
        | none => simp [mdel, hyk]
        | some v => simp [mput, hyk]
theorem filterMap_same {α β : Type} {f g : α → Option β} : ∀ {l : List α}, (∀ x ∈ l, f x = g x) → l.filterMap f = l.filterMap g
  | [], _ => rfl
  | x :: l, h => by rw [List.filterMap_cons, List.filterMap_cons, h x (by simp), filterMap_same (fun y hy => h y (by simp [hy]))]
theorem agedM_all {l : List EnA} (h : ∀ e ∈ agedM w s t seen l, seen.contains e.b = true) : agedM w s t seen l = l.filterMap (ageE w s t) := by
  unfold agedM
  refine filterMap_same fun e he => ?_
  unfold stepE
  cases hc : seen.contains e.b with
  | true => simp
  | false => have := h e (mem_agedM hc he); rw [hc] at this; cases this
theorem mget_aged (nm : ByteArray) : ∀ {l : List EnA}, (l.map Ent.k).Nodup → mget nm (l.filterMap (ageE w s t)) = ageK w s t nm (mget nm l)
  | [], _ => rfl
  | x :: l, hk => by
    simp only [List.map_cons, List.nodup_cons] at hk
    have ih := mget_aged nm hk.2
    rw [List.filterMap_cons, mget_cons]
    by_cases h : nm = x.k
    · rw [if_pos h]
      subst h
      have hno : mget x.k l = none := mget_none.2 hk.1
      cases ha : ageK w s t x.k (some x.v) with
      | none =>
        have hx : ageE w s t x = none := by unfold ageE; rw [ha]; rfl
        rw [hx]; simp only; rw [ih, hno]; rfl
      | some v =>
        have hx : ageE w s t x = some ⟨x.k, v, x.b⟩ := by unfold ageE; rw [ha]; rfl
        rw [hx]; simp only; rw [mget_cons, if_pos rfl]
    · rw [if_neg h]
      cases ha : ageE w s t x with
      | none => exact ih
      | some y =>
        have hy : y.k = x.k := by
          unfold ageE at ha
          obtain ⟨v, _, h2⟩ := Option.map_eq_some_iff.1 ha
          rw [← h2]
        simp only
        rw [mget_cons, if_neg (by rw [hy]; exact h)]
        exact ih
end
theorem unseen_lt {l : List EnA} {seen : Array Nat} {e : EnA} (he : e ∈ l) (h0 : seen.contains e.b = false) : (l.filter fun x => !(seen.push e.b).contains x.b).length < (l.filter fun x => !seen.contains x.b).length :=
  filter_lt (fun x : EnA => !seen.contains x.b) (fun x => !(seen.push e.b).contains x.b) (fun x hx => by
    rw [cont_push] at hx
    cases hc : seen.contains x.b with
    | false => rfl
    | true => rw [hc, Bool.true_or] at hx; exact absurd hx (by decide)) e (by rw [h0]; rfl) (by rw [cont_push, beq_self_eq_true, Bool.or_true]; rfl) l he
/-! ### The list of steps -/
def flwF (w : Wn) (s : Sc) : Nat → Nat → List (Nat × Bool)
  | 0, _ => []
  | k + 1, t => match Kst w s (t + 1) with
    | some _ => (t, true) :: flwF w s k (t + 1)
    | none => [(t, false)]
def preL (t : Nat) : List (Nat × Bool) := (List.range t).map fun j => (j, true)
theorem preL_succ (t : Nat) : preL (t + 1) = preL t ++ [(t, true)] := by unfold preL; rw [List.range_succ]; simp
theorem Kst_le {w : Wn} {s : Sc} {n : Nat} {K : Kf} (h : Kst w s (n + 1) = some K) : ∃ K0, Kst w s n = some K0 := by
  simp only [Kst] at h
  cases hk : Kst w s n with
  | none => rw [hk] at h; cases h
  | some K0 => exact ⟨K0, rfl⟩
theorem flw_split {w : Wn} {s : Sc} {n : Nat} : ∀ {t : Nat} {K : Kf}, Kst w s t = some K → t ≤ n → flwF w s n 0 = preL t ++ flwF w s (n - t) t
  | 0, _, _, _ => by simp [preL]
  | t + 1, K, h, ht => by
    obtain ⟨K0, h0⟩ := Kst_le h
    rw [flw_split h0 (by omega), preL_succ, show n - t = (n - (t + 1)) + 1 by omega]
    simp only [flwF, h, List.append_assoc, List.singleton_append]
theorem flw_end {w : Wn} {s : Sc} {n : Nat} {K : Kf} (h : Kst w s n = some K) : flwF w s n 0 = preL n := by
  rw [flw_split h (Nat.le_refl n), Nat.sub_self]; simp [flwF]
theorem flw_at {w : Wn} {s : Sc} {n t : Nat} {K : Kf} (h : Kst w s t = some K) (ht : t < n) : ∃ post, flwF w s n 0 = preL t ++ (t, (Kst w s (t + 1)).isSome) :: post ∧ ((Kst w s (t + 1)).isSome = false → post = []) := by
  rw [flw_split h (by omega), show n - t = (n - (t + 1)) + 1 by omega]
  simp only [flwF]
  cases hk : Kst w s (t + 1) with
  | none => exact ⟨[], rfl, fun _ => rfl⟩
  | some K1 => exact ⟨_, rfl, fun e => by cases e⟩
theorem seeF_snoc {s : Sc} {t : Int} : ∀ (L : List Sg) (K : Kf) (x : Sg), seeF s t K (L ++ [x]) = match seeF s t K L with | none => none | some K' => seeF s t K' [x]
  | [], K, x => rfl
  | y :: r, K, x => by
    simp only [List.cons_append, seeF]
    split
    · exact seeF_snoc r K x
    · cases seeP s (K y.nm) y with
      | none => rfl
      | some k => exact seeF_snoc r _ x
theorem seeF_one {s : Sc} {t : Int} {K : Kf} {x : Sg} : seeF s t K [x] = if x.st ≠ t then some K else match seeP s (K x.nm) x with | none => none | some k => some (fun n => if n = x.nm then k else K n) := by
  simp only [seeF] <;> (split <;> first | rfl | (cases seeP s (K x.nm) x <;> rfl))
/-- Who is sighted in a step is known behind it. -/
theorem seeF_known {s : Sc} {t : Int} {K K' : Kf} {L : List Sg} (h : seeF s t K L = some K') {x : Sg} (hx : x ∈ L) (ht : x.st = t) : ∃ a, K' x.nm = some a := by
  have h1 := seeF_some h x.nm
  have hne : inL L x.nm t ≠ [] := List.ne_nil_of_mem (mem_inL.2 ⟨hx, ht, rfl⟩)
  obtain ⟨r, hr⟩ := seesP_last hne (fun y hy => (mem_inL.1 hy).2.1) h1
  exact ⟨_, hr⟩
end Go.Proofs.YtaplkoimhecacaaDoor
namespace Go.Proofs.YtaplkoimhecacaaDoor
open Go
/-! ### How an animal swims -/
end Go.Proofs.YtaplkoimhecacaaDoor
