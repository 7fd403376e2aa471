/-
  RegionNames: the program's IsName, CheckPoint, Check, All, Has and Root answer as the reference does, for every input. No condition.
-/
import Derived.Test.YtffpfcomikcimaaRf
import Derived.Test.YtffpfcomikcimaaVg
namespace Go.Proofs.Ytffpfcomikcimaa
open Go
set_option maxRecDepth 100000
open Go.ChangeShapes Go.WideShapes Go.ChangeAt Go.RowKit
set_option maxRecDepth 100000 in
theorem lifted_RegionNames (os : Os) (started : os.Started) (HH : Type) (enc : TypeId × Value → HH) :
    ReturnsInHanded {} Try.checked os 18 .any (Rows.regionNamesSpec.pre6 enc Try.prog Try.f18 Rows.regionNamesRow.domain false) (Rows.regionNamesSpec.post enc Try.prog Try.f18 false true false false) := by
  refine returnsInHanded_of_change (C := Try.checked) Try.ownK started (by kernel_rfl) Try.func18
    (ChangeSpec.witness6 (enc := enc) (C := Try.checked) false ⟨#[], #[.string ByteArray.empty, .agg #[.int .i64 0, .int .i64 0, .int .i64 0, .int .i64 0, .int .i64 0, .int .i64 0, .int .i64 0, .int .i64 0], .agg #[.int .i64 0, .int .i64 0, .int .i64 0]], []⟩ 8 (by kernel_rfl) (by kernel_rfl) (by kernel_rfl) (by kernel_rfl)) ?_
  intro W base args ds gs before hval0 hW hcnd _
  have hval : ∀ (j : Nat) t v, Try.f18.params[j]? = some t → args[j]? = some v → Value.okWide Try.prog W .any base t v := hval0
  have hW' := hW
  obtain ⟨p, q, hA0, hV, rfl, hfz, hnd⟩ := hW
  have hA : DataW.TrodAll enc Try.prog W 0 (fun _ => true) true Try.f18.params.toList args.toList ds p := hA0
  rw [Try.params18] at hA hval
  have hAk := hA
  have hlt : ∀ x ∈ p, x.block < W.heap.size := fun x hx => hW'.lt x (List.mem_append_left _ hx)
  obtain ⟨rfl, rfl⟩ := trodVars_none hV
  obtain ⟨v0, vs0, d0, ds0, p0, q0, hargs, rfl, rfl, h0, r0⟩ := Go.ChangeShapes.trodAll_cons hA
  obtain ⟨v1, vs1, d1, ds1, p1, q1, rfl, rfl, rfl, h1, r1⟩ := Go.ChangeShapes.trodAll_cons r0
  obtain ⟨v2, vs2, d2, ds2, p2, q2, rfl, rfl, rfl, h2, r2⟩ := Go.ChangeShapes.trodAll_cons r1
  obtain ⟨rfl, rfl, rfl⟩ := Go.ChangeShapes.trodAll_nil r2
  obtain rfl : args = #[v0, v1, v2] := by apply Array.ext'; simpa using hargs
  obtain ⟨s, rfl, rfl, rfl, hs⟩ := Go.ChangeMaps.open_string Try.underlying9 (hval 0 9 v0 rfl rfl) h0
  obtain ⟨a0, a1, a2, a3, a4, a5, a6, a7, rfl, _⟩ := rd_25 h1 (hval 1 25 v1 rfl rfl)
  obtain ⟨b0, b1, b2, rfl, ib0, ib1, ib2⟩ := rd_82 h2 (hval 2 82 v2 rfl rfl)
  refine (calls_of ((l_RegionNames s (by unfold maxLen at hs; omega) ⟨⟨a0, a1⟩, ⟨a2, a3⟩, ⟨a4, a5⟩, ⟨a6, a7⟩⟩ ⟨b0, b1⟩ b2 (allH W)).mono fun o H' ⟨h1, h2⟩ => ⟨h1, [], h2⟩)).mono fun e W' ⟨he, bel⟩ => ?_
  subst he
  exact ⟨_, rfl, _, _, _, [], _, [], hW', trodAll_mk1 (shut_bool Try.underlying4 _), trodAll_below Try.laidOutK bel (by decide +kernel) hlt hAk, rfl, bel.frame _, fun h => by cases h⟩
theorem i0_RegionNames : (Rows.regionNamesRow.inPlace == Try.prog.inPlace 18) = true := by kernel_rfl
theorem i1_RegionNames : (Rows.regionNamesRow.unfollowed == Try.prog.unfollowed 18) = true := by kernel_rfl
theorem i2_RegionNames : (Rows.regionNamesRow.recurses == Try.prog.recurses 18) = true := by kernel_rfl
theorem i3_RegionNames : (Rows.regionNamesRow.named == Try.prog.varsNamed 18) = true := by kernel_rfl
theorem fn_RegionNames : Try.prog.funcNamed Rows.regionNamesRow.func = some 18 := by kernel_rfl
theorem rest_RegionNames : restFacts Try.prog Try.f18 Rows.regionNamesSpec Rows.regionNamesRow = true := by kernel_rfl
theorem wrap_RegionNames : Try.f18.isWrapper Try.prog Rows.regionNamesRow.wrapper Rows.regionNamesRow.mainSum := by unfold Func.isWrapper; rw [if_neg (of_decide_eq_false (by kernel_rfl))]; exact ⟨rfl, rfl⟩
theorem inst_RegionNames : Try.f18.isInstance Try.prog Rows.regionNamesRow.origin Rows.regionNamesRow.targs := of_decide_eq_true (by kernel_rfl)
/-- **The given statement.** -/
theorem holds_RegionNames : Rows.RegionNamesSaid :=
  OpenClaim.holds_of_wide 18 Try.f18 rfl rfl rfl rfl rfl rfl rfl ⟨rfl, rfl, rfl, rfl, rfl⟩ rfl rfl rfl rfl rfl fn_RegionNames Try.func18
    (joined_of Try.laidOutK Try.mapsK Try.stopsK Try.knobsK (by kernel_rfl) Try.heardK i0_RegionNames i1_RegionNames i2_RegionNames i3_RegionNames rest_RegionNames rfl rfl Try.enterK Try.liftsK Try.makeK (by kernel_rfl))
    inst_RegionNames wrap_RegionNames
    (fun os started HH enc _ => lifted_RegionNames os started HH enc)
end Go.Proofs.Ytffpfcomikcimaa
