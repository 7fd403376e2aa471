/-
  The listed variables, read: what the row's condition says of package watch's variables gives their cells. Condition: the row's own.
-/
import Derived.Test.YtaplkoimhecacaaDoorRows
import Derived.Test.YtaplkoimhecacaaDoorTie
import Derived.Test.YtaplkoimhecacaaDoorTb08
import Derived.Test.YtaplkoimhecacaaDoorTb05
import Derived.ProofKit
import Derived.LaidMore
import Derived.Stop.Joined
namespace Go.Proofs.YtaplkoimhecacaaDoor
open Go Go.ChangeShapes Go.WideShapes Go.ChangeAt Go.RowKit
theorem add_blk (b k : Nat) : (⟨b, 0, Option.none⟩ : Addr).add k = ⟨b, k, Option.none⟩ := by
  unfold Addr.add
  by_cases h : k = 0
  · subst h; rfl
  · simp [h]
theorem slo_glob {α : Type} {W : World} {b esz : Nat} {en : α → List Value} {l : List α} (h0 : 0 < esz) (hlen : ∀ x ∈ l, (en x).length = esz) (hc : ∀ (i : Nat) x (j : Nat) v, l[i]? = some x → (en x)[j]? = some v → W.cell? ⟨b, i * esz + j, Option.none⟩ = some v) : SlO (allH W) (some ⟨b, 0, Option.none⟩) esz en l := by
  refine ⟨fun i x hx => ?_⟩
  have hl := hlen x (List.mem_of_getElem? hx)
  refine ⟨hl, ⟨b, 0, Option.none⟩, ?_⟩
  obtain ⟨ob, hb, _⟩ := cell_block (hc i x 0 _ hx (List.getElem?_eq_getElem (show 0 < (en x).length by omega)))
  refine ⟨ob, rfl, allH_mem.2 hb, fun j v hv => ?_⟩
  have := hc i x j v hx hv
  rw [add_blk, ← oCell_eq (w := W) (a := ⟨b, i * esz + j, Option.none⟩) hb]; exact this
section
variable {HH : Type} {enc : TypeId × Value → HH} {P : Program} {w : World} {base : Nat} {sp : Nat → Bool} {held : Bool}
theorem arr_cell {n : Nat} {t e : TypeId} {fuel : Nat} {cs : List Value} {ds : List (DataW HH)} {p : List MemPlace} (ht : P.underlying t = some (.array n e)) (hc : P.cellsOf e = 1) (hct : P.cellsOf t = n) (h : DataW.trod enc P w base sp held fuel t cs = some (.agg ds, p)) :
    ds.length = n ∧ ∀ (i : Nat) d, ds[i]? = some d → ∃ v m q, cs[i]? = some v ∧ DataW.trod enc P w base sp held m e [v] = some (d, q) := by
  obtain ⟨xs, m, _, hx, hl, hn, hf⟩ := DataW.trod_array ht h
  simp only [Prod.mk.injEq, DataW.agg.injEq] at hx
  obtain ⟨rfl, _⟩ := hx
  refine ⟨by simpa using hn, fun i d hd => ?_⟩
  rw [List.getElem?_map] at hd
  cases hy : xs[i]? with
  | none => rw [hy] at hd; cases hd
  | some y =>
    rw [hy] at hd
    simp only [Option.map_some, Option.some.injEq] at hd
    have hi : i < n := by have := (List.getElem?_eq_some_iff.1 hy).1; omega
    have h1 := hf i hi
    rw [hc, Nat.mul_one, hy] at h1
    have hlt : i < cs.length := by rw [hl, hct]; exact hi
    rw [List.drop_eq_getElem_cons hlt] at h1
    simp only [List.take_succ_cons, List.take_zero] at h1
    exact ⟨cs[i], m, y.2, List.getElem?_eq_getElem hlt, by rw [h1, ← hd]⟩
theorem str_cell {fs : Array Field} {t : TypeId} {fuel : Nat} {cs : List Value} {ds : List (DataW HH)} {p : List MemPlace} (ht : P.underlying t = some (.struct fs)) (hct : P.cellsOf t = fs.size) (hfs : ∀ (i : Nat) (f : Field), fs[i]? = some f → f.offset = i ∧ P.cellsOf f.type = 1) (h : DataW.trod enc P w base sp held fuel t cs = some (.agg ds, p)) :
    ds.length = fs.size ∧ ∀ (i : Nat) (f : Field) d, fs[i]? = some f → ds[i]? = some d → ∃ v m q, cs[i]? = some v ∧ DataW.trod enc P w base sp held m f.type [v] = some (d, q) := by
  obtain ⟨xs, m, _, hx, hl, hn, hf⟩ := DataW.trod_struct ht h
  simp only [Prod.mk.injEq, DataW.agg.injEq] at hx
  obtain ⟨rfl, _⟩ := hx
  refine ⟨by simpa using hn, fun i f d hff hd => ?_⟩
  rw [List.getElem?_map] at hd
  cases hy : xs[i]? with
  | none => rw [hy] at hd; cases hd
  | some y =>
    rw [hy] at hd
    simp only [Option.map_some, Option.some.injEq] at hd
    have hi : i < fs.size := by have := (List.getElem?_eq_some_iff.1 hy).1; omega
    have h1 := hf i f hff
    obtain ⟨g1, g2⟩ := hfs i f hff
    rw [g1, g2, hy] at h1
    have hlt : i < cs.length := by rw [hl, hct]; exact hi
    rw [List.drop_eq_getElem_cons hlt] at h1
    simp only [List.take_succ_cons, List.take_zero] at h1
    exact ⟨cs[i], m, y.2, List.getElem?_eq_getElem hlt, by rw [h1, ← hd]⟩
end
abbrev laidL : List (String × DataW Unit) := [("paravane/watch.first", Rows.laid_paravane_watch_first), ("paravane/watch.octants", Rows.laid_paravane_watch_octants)]
theorem gl_split {W : World} (h : laidMetH Tryd.prog laidL W) : laidMet Tryd.prog [("paravane/watch.first", Rows.laid_paravane_watch_first)] W := by
  have e1 : (laidL.filter fun x => x.2.handleName?.isSome) = [("paravane/watch.octants", Rows.laid_paravane_watch_octants)] := by kernel_rfl
  have e2 : (laidL.filter fun x => x.2.handleName?.isNone) = [("paravane/watch.first", Rows.laid_paravane_watch_first)] := by kernel_rfl
  unfold laidMetH at h
  rw [e1, e2] at h
  exact h.1
theorem gl_first {W : World} (h : laidMetH Tryd.prog laidL W) : W.cell? ⟨0, 0, Option.none⟩ = some (I 0) ∧ W.cell? ⟨0, 1, Option.none⟩ = some (I (-1)) := by
  obtain ⟨ps, ⟨g, t, cs, fuel, p, q, hg, ht, hv, hd, _, _⟩, _⟩ := gl_split h
  obtain rfl := Option.some.inj ((show Tryd.prog.globalNamed "paravane/watch.first" = some 0 by kernel_rfl).symm.trans hg)
  obtain rfl := Option.some.inj ((show (Tryd.prog.globals[0]?).map (·.type) = some 112 by kernel_rfl).symm.trans ht)
  obtain ⟨_, hf⟩ := str_cell Tryd.underlying112 (by kernel_rfl) (fun i f hif => by
    rcases i with _ | _ | i
    · cases hif; exact ⟨rfl, by kernel_rfl⟩
    · cases hif; exact ⟨rfl, by kernel_rfl⟩
    · simp at hif) (show DataW.trod _ _ _ _ _ _ _ _ _ = some (.agg [.lit (.int .i64 0), .lit (.int .i64 (-1))], p) from hd)
  obtain ⟨v0, m0, q0, c0, h0⟩ := hf 0 _ _ rfl rfl
  obtain ⟨v1, m1, q1, c1, h1⟩ := hf 1 _ _ rfl rfl
  obtain ⟨n0, e0, r0, _⟩ := DataW.trod_int Tryd.underlying3 h0
  obtain ⟨n1, e1, r1, _⟩ := DataW.trod_int Tryd.underlying3 h1
  cases e0; cases e1; cases r0; cases r1
  have k := fun i => World.var?_cell hg hv i
  refine ⟨(k 0).trans ?_, (k 1).trans ?_⟩
  · rw [← Array.getElem?_toList]; exact c0
  · rw [← Array.getElem?_toList]; exact c1
theorem gl_oct {W : World} (h : laidMetH Tryd.prog laidL W) : ∀ (i : Nat) v, octL[i]? = some v → W.cell? ⟨1, i, Option.none⟩ = some v := by
  obtain ⟨g, t, cs, fuel, p, hg, ht, hv, hd⟩ := h.funcs (n := "paravane/watch.octants") (List.mem_cons_of_mem _ (List.mem_singleton.2 rfl))
  obtain rfl := Option.some.inj ((show Tryd.prog.globalNamed "paravane/watch.octants" = some 1 by kernel_rfl).symm.trans hg)
  obtain rfl := Option.some.inj ((show (Tryd.prog.globals[1]?).map (·.type) = some 173 by kernel_rfl).symm.trans ht)
  obtain ⟨_, hf⟩ := arr_cell Tryd.underlying173 (by kernel_rfl) (by kernel_rfl) hd
  have k := fun i => World.var?_cell hg hv i
  have one : ∀ (i : Nat) (f0 : FuncId) (b : UInt8) (r : List UInt8), (∃ v m q, cs.toList[i]? = some v ∧ DataW.trod (funcToken Tryd.prog) Tryd.prog W 0 (fun _ => true) true m 172 [v] = some (.held (b :: r), q)) → ((List.range Tryd.prog.funcs.size).filter fun f => (Tryd.prog.funcs[f]?).any (·.name.toUTF8.data.toList == b :: r)) = [f0] → W.cell? ⟨1, i, Option.none⟩ = some (fnv f0) := by
    rintro i f0 b r ⟨v, m, q, hcv, htr⟩ hone
    have := func_of_trod Tryd.underlying172 hone htr
    subst this
    refine (k i).trans ?_
    rw [← Array.getElem?_toList]; exact hcv
  intro i v hiv
  rcases i with _ | _ | _ | _ | _ | _ | _ | _ | i
  · cases hiv; exact one 0 _ _ _ (hf 0 _ rfl) (by kernel_rfl)
  · cases hiv; exact one 1 _ _ _ (hf 1 _ rfl) (by kernel_rfl)
  · cases hiv; exact one 2 _ _ _ (hf 2 _ rfl) (by kernel_rfl)
  · cases hiv; exact one 3 _ _ _ (hf 3 _ rfl) (by kernel_rfl)
  · cases hiv; exact one 4 _ _ _ (hf 4 _ rfl) (by kernel_rfl)
  · cases hiv; exact one 5 _ _ _ (hf 5 _ rfl) (by kernel_rfl)
  · cases hiv; exact one 6 _ _ _ (hf 6 _ rfl) (by kernel_rfl)
  · cases hiv; exact one 7 _ _ _ (hf 7 _ rfl) (by kernel_rfl)
  · simp [octL] at hiv
/-- **The variables, as the walks ask them.** -/
theorem glob_of {W : World} (h : laidMetH Tryd.prog laidL W) : Glob (allH W) := by
  obtain ⟨h0, h1⟩ := gl_first h
  refine ⟨slo_glob (by decide) (fun x hx => by rw [List.mem_singleton.1 hx]; rfl) (fun i x j v hx hv => ?_), slo_glob (by decide) (fun x _ => rfl) (fun i x j v hx hv => ?_)⟩
  · rcases i with _ | i
    · cases hx
      rcases j with _ | _ | j
      · cases hv; exact h0
      · cases hv; exact h1
      · simp at hv
    · simp at hx
  · rcases j with _ | j
    · cases hv; rw [Nat.mul_one, Nat.add_zero]; exact gl_oct h i _ hx
    · simp at hv
/-- The heap that the start lays meets the condition. -/
theorem door_met (os : Os) (args : Array Value) : laidMetH Tryd.prog laidL ((World.doorLaid Tryd.prog 19 os).forCall (fun _ _ => 0) ⟨#[], args, []⟩).memory :=
  laidMetH_of_parts3 (fuel := 8) (laidMet_of_run' 8 (by kernel_rfl) (by kernel_rfl)) (by kernel_rfl) (by kernel_rfl)
end Go.Proofs.YtaplkoimhecacaaDoor
