/-
  RegionEnds: the tight region has the same places, its ends are reached, and it is its own tight region, for every input. No condition.
-/
import Derived.Test.YtffpfcomikcimaaRf
import Derived.Test.YtffpfcomikcimaaVa
namespace Go.Proofs.Ytffpfcomikcimaa
open Go
set_option maxRecDepth 100000
open Go.ChangeShapes Go.WideShapes Go.ChangeAt Go.RowKit
set_option maxRecDepth 100000 in
theorem lifted_RegionEnds (os : Os) (started : os.Started) (HH : Type) (enc : TypeId × Value → HH) :
    ReturnsInHanded {} Try.checked os 10 .any (Rows.regionEndsSpec.pre6 enc Try.prog Try.f10 Rows.regionEndsRow.domain false) (Rows.regionEndsSpec.post enc Try.prog Try.f10 false true false false) := by
  refine returnsInHanded_of_change (C := Try.checked) Try.ownK started (by kernel_rfl) Try.func10
    (ChangeSpec.witness6 (enc := enc) (C := Try.checked) false ⟨#[], #[.agg #[.int .i64 0, .int .i64 0, .int .i64 0, .int .i64 0, .int .i64 0, .int .i64 0, .int .i64 0, .int .i64 0], .agg #[.int .i64 0, .int .i64 0]], []⟩ 8 (by kernel_rfl) (by kernel_rfl) (by kernel_rfl) (by kernel_rfl)) ?_
  intro W base args ds gs before hval0 hW hcnd _
  have hval : ∀ (j : Nat) t v, Try.f10.params[j]? = some t → args[j]? = some v → Value.okWide Try.prog W .any base t v := hval0
  have hW' := hW
  obtain ⟨p, q, hA0, hV, rfl, hfz, hnd⟩ := hW
  have hA : DataW.TrodAll enc Try.prog W 0 (fun _ => true) true Try.f10.params.toList args.toList ds p := hA0
  rw [Try.params10] at hA hval
  have hAk := hA
  have hlt : ∀ x ∈ p, x.block < W.heap.size := fun x hx => hW'.lt x (List.mem_append_left _ hx)
  obtain ⟨rfl, rfl⟩ := trodVars_none hV
  obtain ⟨v0, vs0, d0, ds0, p0, q0, hargs, rfl, rfl, h0, r0⟩ := Go.ChangeShapes.trodAll_cons hA
  obtain ⟨v1, vs1, d1, ds1, p1, q1, rfl, rfl, rfl, h1, r1⟩ := Go.ChangeShapes.trodAll_cons r0
  obtain ⟨rfl, rfl, rfl⟩ := Go.ChangeShapes.trodAll_nil r1
  obtain rfl : args = #[v0, v1] := by apply Array.ext'; simpa using hargs
  obtain ⟨a0, a1, a2, a3, a4, a5, a6, a7, rfl, _⟩ := rd_25 h0 (hval 0 25 v0 rfl rfl)
  obtain ⟨b0, b1, rfl, ib0, ib1⟩ := rd_67 h1 (hval 1 67 v1 rfl rfl)
  refine (calls_of ((l_RegionEnds ⟨⟨a0, a1⟩, ⟨a2, a3⟩, ⟨a4, a5⟩, ⟨a6, a7⟩⟩ b0 b1 ib0 ib1 (allH W)).mono fun o H' ⟨h1, h2⟩ => ⟨h1, [], h2⟩)).mono fun e W' ⟨he, bel⟩ => ?_
  subst he
  exact ⟨_, rfl, _, _, _, [], _, [], hW', trodAll_mk1 (shut_bool Try.underlying4 _), trodAll_below Try.laidOutK bel (by decide +kernel) hlt hAk, rfl, bel.frame _, fun h => by cases h⟩
theorem i0_RegionEnds : (Rows.regionEndsRow.inPlace == Try.prog.inPlace 10) = true := by kernel_rfl
theorem i1_RegionEnds : (Rows.regionEndsRow.unfollowed == Try.prog.unfollowed 10) = true := by kernel_rfl
theorem i2_RegionEnds : (Rows.regionEndsRow.recurses == Try.prog.recurses 10) = true := by kernel_rfl
theorem i3_RegionEnds : (Rows.regionEndsRow.named == Try.prog.varsNamed 10) = true := by kernel_rfl
theorem fn_RegionEnds : Try.prog.funcNamed Rows.regionEndsRow.func = some 10 := by kernel_rfl
theorem rest_RegionEnds : restFacts Try.prog Try.f10 Rows.regionEndsSpec Rows.regionEndsRow = true := by kernel_rfl
theorem wrap_RegionEnds : Try.f10.isWrapper Try.prog Rows.regionEndsRow.wrapper Rows.regionEndsRow.mainSum := by unfold Func.isWrapper; rw [if_neg (of_decide_eq_false (by kernel_rfl))]; exact ⟨rfl, rfl⟩
theorem inst_RegionEnds : Try.f10.isInstance Try.prog Rows.regionEndsRow.origin Rows.regionEndsRow.targs := of_decide_eq_true (by kernel_rfl)
/-- **The given statement.** -/
theorem holds_RegionEnds : Rows.RegionEndsSaid :=
  OpenClaim.holds_of_wide 10 Try.f10 rfl rfl rfl rfl rfl rfl rfl ⟨rfl, rfl, rfl, rfl, rfl⟩ rfl rfl rfl rfl rfl fn_RegionEnds Try.func10
    (joined_of Try.laidOutK Try.mapsK Try.stopsK Try.knobsK (by kernel_rfl) Try.heardK i0_RegionEnds i1_RegionEnds i2_RegionEnds i3_RegionEnds rest_RegionEnds rfl rfl Try.enterK Try.liftsK Try.makeK (by kernel_rfl))
    inst_RegionEnds wrap_RegionEnds
    (fun os started HH enc _ => lifted_RegionEnds os started HH enc)
end Go.Proofs.Ytffpfcomikcimaa
