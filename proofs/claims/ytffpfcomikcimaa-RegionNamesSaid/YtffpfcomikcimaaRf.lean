/-
  How still more arguments read.
-/
import Derived.Test.YtffpfcomikcimaaRe
namespace Go.Proofs.Ytffpfcomikcimaa
open Go
set_option maxRecDepth 100000
open Go.ChangeShapes Go.WideShapes Go.ChangeAt Go.RowKit
theorem rd_67 {HH : Type} {enc : TypeId × Value → HH} {W : World} {base : Nat} {v : Value} {d : DataW HH} {ps : List MemPlace} (h : DataW.Trod enc Try.prog W 0 (fun _ => true) true 67 v d ps) (hv : Value.okWide Try.prog W .any base 67 v) : ∃ x0 x1 : Int, v = .agg [I x0, I x1].toArray ∧ InR x0 ∧ InR x1 := by
  obtain ⟨l, rfl, hl⟩ := okWide_agg (by right; exact ⟨_, _, Try.underlying67⟩) hv
  have hc := trod_cells (n := 9) (ks := [.i, .i]) (by kernel_rfl) h
  rw [hl] at hc
  obtain ⟨x0, l, rfl, b0, hc⟩ := cells_i hc
  obtain ⟨x1, l, rfl, b1, hc⟩ := cells_i hc
  obtain rfl := cells_nil hc
  exact ⟨x0, x1, rfl, b0, b1⟩
theorem rd_77 {HH : Type} {enc : TypeId × Value → HH} {W : World} {base : Nat} {v : Value} {d : DataW HH} {ps : List MemPlace} (h : DataW.Trod enc Try.prog W 0 (fun _ => true) true 77 v d ps) (hv : Value.okWide Try.prog W .any base 77 v) : ∃ x0 x1 x2 x3 : Int, v = .agg [I x0, I x1, I x2, I x3].toArray ∧ InR x0 ∧ InR x1 ∧ InR x2 ∧ InR x3 := by
  obtain ⟨l, rfl, hl⟩ := okWide_agg (by right; exact ⟨_, _, Try.underlying77⟩) hv
  have hc := trod_cells (n := 9) (ks := [.i, .i, .i, .i]) (by kernel_rfl) h
  rw [hl] at hc
  obtain ⟨x0, l, rfl, b0, hc⟩ := cells_i hc
  obtain ⟨x1, l, rfl, b1, hc⟩ := cells_i hc
  obtain ⟨x2, l, rfl, b2, hc⟩ := cells_i hc
  obtain ⟨x3, l, rfl, b3, hc⟩ := cells_i hc
  obtain rfl := cells_nil hc
  exact ⟨x0, x1, x2, x3, rfl, b0, b1, b2, b3⟩
theorem rd_82 {HH : Type} {enc : TypeId × Value → HH} {W : World} {base : Nat} {v : Value} {d : DataW HH} {ps : List MemPlace} (h : DataW.Trod enc Try.prog W 0 (fun _ => true) true 82 v d ps) (hv : Value.okWide Try.prog W .any base 82 v) : ∃ x0 x1 x2 : Int, v = .agg [I x0, I x1, I x2].toArray ∧ InR x0 ∧ InR x1 ∧ InR x2 := by
  obtain ⟨l, rfl, hl⟩ := okWide_agg (by left; exact ⟨_, Try.underlying82⟩) hv
  have hc := trod_cells (n := 9) (ks := [.i, .i, .i]) (by kernel_rfl) h
  rw [hl] at hc
  obtain ⟨x0, l, rfl, b0, hc⟩ := cells_i hc
  obtain ⟨x1, l, rfl, b1, hc⟩ := cells_i hc
  obtain ⟨x2, l, rfl, b2, hc⟩ := cells_i hc
  obtain rfl := cells_nil hc
  exact ⟨x0, x1, x2, rfl, b0, b1, b2⟩
end Go.Proofs.Ytffpfcomikcimaa
