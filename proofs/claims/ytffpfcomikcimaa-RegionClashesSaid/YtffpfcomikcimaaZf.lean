/-
  RegionClashes: the program's Clash answers as the reference does, and the examples hold, for every input. No condition.
-/
import Derived.Test.YtffpfcomikcimaaRd
import Derived.Test.YtffpfcomikcimaaWx
namespace Go.Proofs.Ytffpfcomikcimaa
open Go
set_option maxRecDepth 100000
open Go.ChangeShapes Go.WideShapes Go.ChangeAt Go.RowKit
set_option maxRecDepth 100000 in
theorem lifted_RegionClashes (os : Os) (started : os.Started) (HH : Type) (enc : TypeId × Value → HH) :
    ReturnsInHanded {} Try.checked os 6 .any (Rows.regionClashesSpec.pre6 enc Try.prog Try.f6 Rows.regionClashesRow.domain false) (Rows.regionClashesSpec.post enc Try.prog Try.f6 false true false false) := by
  refine returnsInHanded_of_change (C := Try.checked) Try.ownK started (by kernel_rfl) Try.func6
    (ChangeSpec.witness6 (enc := enc) (C := Try.checked) false ⟨#[], #[.slice Option.none 0 0], []⟩ 8 (by kernel_rfl) (by kernel_rfl) (by kernel_rfl) (by kernel_rfl)) ?_
  intro W base args ds gs before hval0 hW hcnd _
  have hval : ∀ (j : Nat) t v, Try.f6.params[j]? = some t → args[j]? = some v → Value.okWide Try.prog W .any base t v := hval0
  have hW' := hW
  obtain ⟨p, q, hA0, hV, rfl, hfz, hnd⟩ := hW
  have hA : DataW.TrodAll enc Try.prog W 0 (fun _ => true) true Try.f6.params.toList args.toList ds p := hA0
  rw [Try.params6] at hA hval
  have hAk := hA
  have hlt : ∀ x ∈ p, x.block < W.heap.size := fun x hx => hW'.lt x (List.mem_append_left _ hx)
  obtain ⟨rfl, rfl⟩ := trodVars_none hV
  obtain ⟨v0, vs0, d0, ds0, p0, q0, hargs, rfl, rfl, h0, r0⟩ := Go.ChangeShapes.trodAll_cons hA
  obtain ⟨rfl, rfl, rfl⟩ := Go.ChangeShapes.trodAll_nil r0
  obtain rfl : args = #[v0] := by apply Array.ext'; simpa using hargs
  obtain ⟨oa, m, c, l, rfl, hl, hm, _, _, hS⟩ := rd_50 h0 (hval 0 50 v0 rfl rfl)
  refine (calls_of (@l_RegionClashes l oa m c hl hm (allH W) hS)).mono fun e W' ⟨he, bel⟩ => ?_
  subst he
  exact ⟨_, rfl, _, _, _, [], _, [], hW', trodAll_mk1 (shut_bool Try.underlying4 _), trodAll_below Try.laidOutK bel (by decide +kernel) hlt hAk, rfl, bel.frame _, fun h => by cases h⟩
theorem i0_RegionClashes : (Rows.regionClashesRow.inPlace == Try.prog.inPlace 6) = true := by kernel_rfl
theorem i1_RegionClashes : (Rows.regionClashesRow.unfollowed == Try.prog.unfollowed 6) = true := by kernel_rfl
theorem i2_RegionClashes : (Rows.regionClashesRow.recurses == Try.prog.recurses 6) = true := by kernel_rfl
theorem i3_RegionClashes : (Rows.regionClashesRow.named == Try.prog.varsNamed 6) = true := by kernel_rfl
theorem fn_RegionClashes : Try.prog.funcNamed Rows.regionClashesRow.func = some 6 := by kernel_rfl
theorem rest_RegionClashes : restFacts Try.prog Try.f6 Rows.regionClashesSpec Rows.regionClashesRow = true := by kernel_rfl
theorem wrap_RegionClashes : Try.f6.isWrapper Try.prog Rows.regionClashesRow.wrapper Rows.regionClashesRow.mainSum := by unfold Func.isWrapper; rw [if_neg (of_decide_eq_false (by kernel_rfl))]; exact ⟨rfl, rfl⟩
theorem inst_RegionClashes : Try.f6.isInstance Try.prog Rows.regionClashesRow.origin Rows.regionClashesRow.targs := of_decide_eq_true (by kernel_rfl)
/-- **The given statement.** -/
theorem holds_RegionClashes : Rows.RegionClashesSaid :=
  OpenClaim.holds_of_wide 6 Try.f6 rfl rfl rfl rfl rfl rfl rfl ⟨rfl, rfl, rfl, rfl, rfl⟩ rfl rfl rfl rfl rfl fn_RegionClashes Try.func6
    (joined_of Try.laidOutK Try.mapsK Try.stopsK Try.knobsK (by kernel_rfl) Try.heardK i0_RegionClashes i1_RegionClashes i2_RegionClashes i3_RegionClashes rest_RegionClashes rfl rfl Try.enterK Try.liftsK Try.makeK (by kernel_rfl))
    inst_RegionClashes wrap_RegionClashes
    (fun os started HH enc _ => lifted_RegionClashes os started HH enc)
end Go.Proofs.Ytffpfcomikcimaa
