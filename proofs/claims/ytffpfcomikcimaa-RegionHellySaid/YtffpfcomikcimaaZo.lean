/-
  RegionHelly: of regions that contradict each other at most four do so by themselves, each one is needed, for every input. No condition.
-/
import Derived.Test.YtffpfcomikcimaaRd
import Derived.Test.YtffpfcomikcimaaVf
namespace Go.Proofs.Ytffpfcomikcimaa
open Go
set_option maxRecDepth 100000
open Go.ChangeShapes Go.WideShapes Go.ChangeAt Go.RowKit
set_option maxRecDepth 100000 in
theorem lifted_RegionHelly (os : Os) (started : os.Started) (HH : Type) (enc : TypeId × Value → HH) :
    ReturnsInHanded {} Try.checked os 15 .any (Rows.regionHellySpec.pre6 enc Try.prog Try.f15 Rows.regionHellyRow.domain false) (Rows.regionHellySpec.post enc Try.prog Try.f15 false true false false) := by
  refine returnsInHanded_of_change (C := Try.checked) Try.ownK started (by kernel_rfl) Try.func15
    (ChangeSpec.witness6 (enc := enc) (C := Try.checked) false ⟨#[], #[.slice Option.none 0 0, .agg #[.int .i64 0, .int .i64 0]], []⟩ 8 (by kernel_rfl) (by kernel_rfl) (by kernel_rfl) (by kernel_rfl)) ?_
  intro W base args ds gs before hval0 hW hcnd _
  have hval : ∀ (j : Nat) t v, Try.f15.params[j]? = some t → args[j]? = some v → Value.okWide Try.prog W .any base t v := hval0
  have hW' := hW
  obtain ⟨p, q, hA0, hV, rfl, hfz, hnd⟩ := hW
  have hA : DataW.TrodAll enc Try.prog W 0 (fun _ => true) true Try.f15.params.toList args.toList ds p := hA0
  rw [Try.params15] at hA hval
  have hAk := hA
  have hlt : ∀ x ∈ p, x.block < W.heap.size := fun x hx => hW'.lt x (List.mem_append_left _ hx)
  obtain ⟨rfl, rfl⟩ := trodVars_none hV
  obtain ⟨v0, vs0, d0, ds0, p0, q0, hargs, rfl, rfl, h0, r0⟩ := Go.ChangeShapes.trodAll_cons hA
  obtain ⟨v1, vs1, d1, ds1, p1, q1, rfl, rfl, rfl, h1, r1⟩ := Go.ChangeShapes.trodAll_cons r0
  obtain ⟨rfl, rfl, rfl⟩ := Go.ChangeShapes.trodAll_nil r1
  obtain rfl : args = #[v0, v1] := by apply Array.ext'; simpa using hargs
  obtain ⟨oa, m, c, l, rfl, hl, hm, _, _, hS⟩ := rd_50 h0 (hval 0 50 v0 rfl rfl)
  obtain ⟨b0, b1, rfl, _⟩ := rd_36 h1 (hval 1 36 v1 rfl rfl)
  refine (calls_of (@l_RegionHelly l oa m c hl hm ⟨b0, b1⟩ (allH W) hS)).mono fun e W' ⟨he, bel⟩ => ?_
  subst he
  exact ⟨_, rfl, _, _, _, [], _, [], hW', trodAll_mk1 (shut_bool Try.underlying4 _), trodAll_below Try.laidOutK bel (by decide +kernel) hlt hAk, rfl, bel.frame _, fun h => by cases h⟩
theorem i0_RegionHelly : (Rows.regionHellyRow.inPlace == Try.prog.inPlace 15) = true := by kernel_rfl
theorem i1_RegionHelly : (Rows.regionHellyRow.unfollowed == Try.prog.unfollowed 15) = true := by kernel_rfl
theorem i2_RegionHelly : (Rows.regionHellyRow.recurses == Try.prog.recurses 15) = true := by kernel_rfl
theorem i3_RegionHelly : (Rows.regionHellyRow.named == Try.prog.varsNamed 15) = true := by kernel_rfl
theorem fn_RegionHelly : Try.prog.funcNamed Rows.regionHellyRow.func = some 15 := by kernel_rfl
theorem rest_RegionHelly : restFacts Try.prog Try.f15 Rows.regionHellySpec Rows.regionHellyRow = true := by kernel_rfl
theorem wrap_RegionHelly : Try.f15.isWrapper Try.prog Rows.regionHellyRow.wrapper Rows.regionHellyRow.mainSum := by unfold Func.isWrapper; rw [if_neg (of_decide_eq_false (by kernel_rfl))]; exact ⟨rfl, rfl⟩
theorem inst_RegionHelly : Try.f15.isInstance Try.prog Rows.regionHellyRow.origin Rows.regionHellyRow.targs := of_decide_eq_true (by kernel_rfl)
/-- **The given statement.** -/
theorem holds_RegionHelly : Rows.RegionHellySaid :=
  OpenClaim.holds_of_wide 15 Try.f15 rfl rfl rfl rfl rfl rfl rfl ⟨rfl, rfl, rfl, rfl, rfl⟩ rfl rfl rfl rfl rfl fn_RegionHelly Try.func15
    (joined_of Try.laidOutK Try.mapsK Try.stopsK Try.knobsK (by kernel_rfl) Try.heardK i0_RegionHelly i1_RegionHelly i2_RegionHelly i3_RegionHelly rest_RegionHelly rfl rfl Try.enterK Try.liftsK Try.makeK (by kernel_rfl))
    inst_RegionHelly wrap_RegionHelly
    (fun os started HH enc _ => lifted_RegionHelly os started HH enc)
end Go.Proofs.Ytffpfcomikcimaa
