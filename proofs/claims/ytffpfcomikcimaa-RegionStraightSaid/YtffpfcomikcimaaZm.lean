/-
  RegionStraight: a field has no dents, and what covers and hits it answers so, for every input. No condition.
-/
import Derived.Test.YtffpfcomikcimaaRf
import Derived.Test.YtffpfcomikcimaaVd
namespace Go.Proofs.Ytffpfcomikcimaa
open Go
set_option maxRecDepth 100000
open Go.ChangeShapes Go.WideShapes Go.ChangeAt Go.RowKit
set_option maxRecDepth 100000 in
theorem lifted_RegionStraight (os : Os) (started : os.Started) (HH : Type) (enc : TypeId × Value → HH) :
    ReturnsInHanded {} Try.checked os 16 .any (Rows.regionStraightSpec.pre6 enc Try.prog Try.f16 Rows.regionStraightRow.domain false) (Rows.regionStraightSpec.post enc Try.prog Try.f16 false true false false) := by
  refine returnsInHanded_of_change (C := Try.checked) Try.ownK started (by kernel_rfl) Try.func16
    (ChangeSpec.witness6 (enc := enc) (C := Try.checked) false ⟨#[], #[.slice Option.none 0 0, .agg #[.int .i64 0, .int .i64 0, .int .i64 0, .int .i64 0, .int .i64 0, .int .i64 0, .int .i64 0, .int .i64 0], .agg #[.int .i64 0, .int .i64 0, .int .i64 0, .int .i64 0]], []⟩ 8 (by kernel_rfl) (by kernel_rfl) (by kernel_rfl) (by kernel_rfl)) ?_
  intro W base args ds gs before hval0 hW hcnd _
  have hval : ∀ (j : Nat) t v, Try.f16.params[j]? = some t → args[j]? = some v → Value.okWide Try.prog W .any base t v := hval0
  have hW' := hW
  obtain ⟨p, q, hA0, hV, rfl, hfz, hnd⟩ := hW
  have hA : DataW.TrodAll enc Try.prog W 0 (fun _ => true) true Try.f16.params.toList args.toList ds p := hA0
  rw [Try.params16] at hA hval
  have hAk := hA
  have hlt : ∀ x ∈ p, x.block < W.heap.size := fun x hx => hW'.lt x (List.mem_append_left _ hx)
  obtain ⟨rfl, rfl⟩ := trodVars_none hV
  obtain ⟨v0, vs0, d0, ds0, p0, q0, hargs, rfl, rfl, h0, r0⟩ := Go.ChangeShapes.trodAll_cons hA
  obtain ⟨v1, vs1, d1, ds1, p1, q1, rfl, rfl, rfl, h1, r1⟩ := Go.ChangeShapes.trodAll_cons r0
  obtain ⟨v2, vs2, d2, ds2, p2, q2, rfl, rfl, rfl, h2, r2⟩ := Go.ChangeShapes.trodAll_cons r1
  obtain ⟨rfl, rfl, rfl⟩ := Go.ChangeShapes.trodAll_nil r2
  obtain rfl : args = #[v0, v1, v2] := by apply Array.ext'; simpa using hargs
  obtain ⟨oa, m, c, l, rfl, hl, hm, _, _, hS⟩ := rd_26 h0 (hval 0 26 v0 rfl rfl)
  obtain ⟨a0, a1, a2, a3, a4, a5, a6, a7, rfl, _⟩ := rd_25 h1 (hval 1 25 v1 rfl rfl)
  obtain ⟨b0, b1, b2, b3, rfl, ib0, ib1, ib2, ib3⟩ := rd_77 h2 (hval 2 77 v2 rfl rfl)
  refine (calls_of ((@l_RegionStraight l oa m c hl hm ⟨⟨a0, a1⟩, ⟨a2, a3⟩, ⟨a4, a5⟩, ⟨a6, a7⟩⟩ b0 b1 b2 b3 ib0 ib1 (allH W) hS).mono fun o H' ⟨h1, h2⟩ => ⟨h1, [], h2⟩)).mono fun e W' ⟨he, bel⟩ => ?_
  subst he
  exact ⟨_, rfl, _, _, _, [], _, [], hW', trodAll_mk1 (shut_bool Try.underlying4 _), trodAll_below Try.laidOutK bel (by decide +kernel) hlt hAk, rfl, bel.frame _, fun h => by cases h⟩
theorem i0_RegionStraight : (Rows.regionStraightRow.inPlace == Try.prog.inPlace 16) = true := by kernel_rfl
theorem i1_RegionStraight : (Rows.regionStraightRow.unfollowed == Try.prog.unfollowed 16) = true := by kernel_rfl
theorem i2_RegionStraight : (Rows.regionStraightRow.recurses == Try.prog.recurses 16) = true := by kernel_rfl
theorem i3_RegionStraight : (Rows.regionStraightRow.named == Try.prog.varsNamed 16) = true := by kernel_rfl
theorem fn_RegionStraight : Try.prog.funcNamed Rows.regionStraightRow.func = some 16 := by kernel_rfl
theorem rest_RegionStraight : restFacts Try.prog Try.f16 Rows.regionStraightSpec Rows.regionStraightRow = true := by kernel_rfl
theorem wrap_RegionStraight : Try.f16.isWrapper Try.prog Rows.regionStraightRow.wrapper Rows.regionStraightRow.mainSum := by unfold Func.isWrapper; rw [if_neg (of_decide_eq_false (by kernel_rfl))]; exact ⟨rfl, rfl⟩
theorem inst_RegionStraight : Try.f16.isInstance Try.prog Rows.regionStraightRow.origin Rows.regionStraightRow.targs := of_decide_eq_true (by kernel_rfl)
/-- **The given statement.** -/
theorem holds_RegionStraight : Rows.RegionStraightSaid :=
  OpenClaim.holds_of_wide 16 Try.f16 rfl rfl rfl rfl rfl rfl rfl ⟨rfl, rfl, rfl, rfl, rfl⟩ rfl rfl rfl rfl rfl fn_RegionStraight Try.func16
    (joined_of Try.laidOutK Try.mapsK Try.stopsK Try.knobsK (by kernel_rfl) Try.heardK i0_RegionStraight i1_RegionStraight i2_RegionStraight i3_RegionStraight rest_RegionStraight rfl rfl Try.enterK Try.liftsK Try.makeK (by kernel_rfl))
    inst_RegionStraight wrap_RegionStraight
    (fun os started HH enc _ => lifted_RegionStraight os started HH enc)
end Go.Proofs.Ytffpfcomikcimaa
