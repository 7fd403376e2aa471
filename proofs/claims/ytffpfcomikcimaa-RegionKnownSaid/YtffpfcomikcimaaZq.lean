/-
  RegionKnown: the chapter's other examples, and the limits, for every input. No condition.
-/
import Derived.Test.YtffpfcomikcimaaRd
import Derived.Test.YtffpfcomikcimaaVh
namespace Go.Proofs.Ytffpfcomikcimaa
open Go
set_option maxRecDepth 100000
open Go.ChangeShapes Go.WideShapes Go.ChangeAt Go.RowKit
set_option maxRecDepth 100000 in
theorem lifted_RegionKnown (os : Os) (started : os.Started) (HH : Type) (enc : TypeId × Value → HH) :
    ReturnsInHanded {} Try.checked os 19 .any (Rows.regionKnownSpec.pre6 enc Try.prog Try.f19 Rows.regionKnownRow.domain false) (Rows.regionKnownSpec.post enc Try.prog Try.f19 false true false false) := by
  refine returnsInHanded_of_change (C := Try.checked) Try.ownK started (by kernel_rfl) Try.func19
    (ChangeSpec.witness6 (enc := enc) (C := Try.checked) false ⟨#[], #[], []⟩ 8 (by kernel_rfl) (by kernel_rfl) (by kernel_rfl) (by kernel_rfl)) ?_
  intro W base args ds gs before hval0 hW hcnd _
  have hval : ∀ (j : Nat) t v, Try.f19.params[j]? = some t → args[j]? = some v → Value.okWide Try.prog W .any base t v := hval0
  have hW' := hW
  obtain ⟨p, q, hA0, hV, rfl, hfz, hnd⟩ := hW
  have hA : DataW.TrodAll enc Try.prog W 0 (fun _ => true) true Try.f19.params.toList args.toList ds p := hA0
  rw [Try.params19] at hA hval
  have hAk := hA
  have hlt : ∀ x ∈ p, x.block < W.heap.size := fun x hx => hW'.lt x (List.mem_append_left _ hx)
  obtain ⟨rfl, rfl⟩ := trodVars_none hV
  obtain ⟨hargs, rfl, rfl⟩ := Go.ChangeShapes.trodAll_nil hA
  obtain rfl : args = #[] := by apply Array.ext'; simpa using hargs
  refine (calls_of ((l_RegionKnown (allH W)).mono fun o H' ⟨h1, h2⟩ => ⟨h1, [], h2⟩)).mono fun e W' ⟨he, bel⟩ => ?_
  subst he
  exact ⟨_, rfl, _, _, _, [], _, [], hW', trodAll_mk1 (shut_bool Try.underlying4 _), trodAll_below Try.laidOutK bel (by decide +kernel) hlt hAk, rfl, bel.frame _, fun h => by cases h⟩
theorem i0_RegionKnown : (Rows.regionKnownRow.inPlace == Try.prog.inPlace 19) = true := by kernel_rfl
theorem i1_RegionKnown : (Rows.regionKnownRow.unfollowed == Try.prog.unfollowed 19) = true := by kernel_rfl
theorem i2_RegionKnown : (Rows.regionKnownRow.recurses == Try.prog.recurses 19) = true := by kernel_rfl
theorem i3_RegionKnown : (Rows.regionKnownRow.named == Try.prog.varsNamed 19) = true := by kernel_rfl
theorem fn_RegionKnown : Try.prog.funcNamed Rows.regionKnownRow.func = some 19 := by kernel_rfl
theorem rest_RegionKnown : restFacts Try.prog Try.f19 Rows.regionKnownSpec Rows.regionKnownRow = true := by kernel_rfl
theorem wrap_RegionKnown : Try.f19.isWrapper Try.prog Rows.regionKnownRow.wrapper Rows.regionKnownRow.mainSum := by unfold Func.isWrapper; rw [if_neg (of_decide_eq_false (by kernel_rfl))]; exact ⟨rfl, rfl⟩
theorem inst_RegionKnown : Try.f19.isInstance Try.prog Rows.regionKnownRow.origin Rows.regionKnownRow.targs := of_decide_eq_true (by kernel_rfl)
/-- **The given statement.** -/
theorem holds_RegionKnown : Rows.RegionKnownSaid :=
  OpenClaim.holds_of_wide 19 Try.f19 rfl rfl rfl rfl rfl rfl rfl ⟨rfl, rfl, rfl, rfl, rfl⟩ rfl rfl rfl rfl rfl fn_RegionKnown Try.func19
    (joined_of Try.laidOutK Try.mapsK Try.stopsK Try.knobsK (by kernel_rfl) Try.heardK i0_RegionKnown i1_RegionKnown i2_RegionKnown i3_RegionKnown rest_RegionKnown rfl rfl Try.enterK Try.liftsK Try.makeK (by kernel_rfl))
    inst_RegionKnown wrap_RegionKnown
    (fun os started HH enc _ => lifted_RegionKnown os started HH enc)
end Go.Proofs.Ytffpfcomikcimaa
