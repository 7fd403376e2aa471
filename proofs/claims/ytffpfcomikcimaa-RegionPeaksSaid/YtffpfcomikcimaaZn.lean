/-
  RegionPeaks: extremes and distances bound all places, and are reached, for every input. No condition.
-/
import Derived.Test.YtffpfcomikcimaaRf
import Derived.Test.YtffpfcomikcimaaVe
namespace Go.Proofs.Ytffpfcomikcimaa
open Go
set_option maxRecDepth 100000
open Go.ChangeShapes Go.WideShapes Go.ChangeAt Go.RowKit
set_option maxRecDepth 100000 in
theorem lifted_RegionPeaks (os : Os) (started : os.Started) (HH : Type) (enc : TypeId × Value → HH) :
    ReturnsInHanded {} Try.checked os 14 .any (Rows.regionPeaksSpec.pre6 enc Try.prog Try.f14 Rows.regionPeaksRow.domain false) (Rows.regionPeaksSpec.post enc Try.prog Try.f14 false true false false) := by
  refine returnsInHanded_of_change (C := Try.checked) Try.ownK started (by kernel_rfl) Try.func14
    (ChangeSpec.witness6 (enc := enc) (C := Try.checked) false ⟨#[], #[.agg #[.int .i64 0, .int .i64 0, .int .i64 0, .int .i64 0, .int .i64 0, .int .i64 0, .int .i64 0, .int .i64 0], .agg #[.int .i64 0, .int .i64 0], .agg #[.int .i64 0, .int .i64 0, .int .i64 0]], []⟩ 8 (by kernel_rfl) (by kernel_rfl) (by kernel_rfl) (by kernel_rfl)) ?_
  intro W base args ds gs before hval0 hW hcnd _
  have hval : ∀ (j : Nat) t v, Try.f14.params[j]? = some t → args[j]? = some v → Value.okWide Try.prog W .any base t v := hval0
  have hW' := hW
  obtain ⟨p, q, hA0, hV, rfl, hfz, hnd⟩ := hW
  have hA : DataW.TrodAll enc Try.prog W 0 (fun _ => true) true Try.f14.params.toList args.toList ds p := hA0
  rw [Try.params14] at hA hval
  have hAk := hA
  have hlt : ∀ x ∈ p, x.block < W.heap.size := fun x hx => hW'.lt x (List.mem_append_left _ hx)
  obtain ⟨rfl, rfl⟩ := trodVars_none hV
  obtain ⟨v0, vs0, d0, ds0, p0, q0, hargs, rfl, rfl, h0, r0⟩ := Go.ChangeShapes.trodAll_cons hA
  obtain ⟨v1, vs1, d1, ds1, p1, q1, rfl, rfl, rfl, h1, r1⟩ := Go.ChangeShapes.trodAll_cons r0
  obtain ⟨v2, vs2, d2, ds2, p2, q2, rfl, rfl, rfl, h2, r2⟩ := Go.ChangeShapes.trodAll_cons r1
  obtain ⟨rfl, rfl, rfl⟩ := Go.ChangeShapes.trodAll_nil r2
  obtain rfl : args = #[v0, v1, v2] := by apply Array.ext'; simpa using hargs
  obtain ⟨a0, a1, a2, a3, a4, a5, a6, a7, rfl, _⟩ := rd_25 h0 (hval 0 25 v0 rfl rfl)
  obtain ⟨b0, b1, rfl, _⟩ := rd_36 h1 (hval 1 36 v1 rfl rfl)
  obtain ⟨c0, c1, c2, rfl, ic0, ic1, ic2⟩ := rd_82 h2 (hval 2 82 v2 rfl rfl)
  refine (calls_of ((l_RegionPeaks ⟨⟨a0, a1⟩, ⟨a2, a3⟩, ⟨a4, a5⟩, ⟨a6, a7⟩⟩ ⟨b0, b1⟩ ⟨c0, c1⟩ c2 ic2 (allH W)).mono fun o H' ⟨h1, h2⟩ => ⟨h1, [], h2⟩)).mono fun e W' ⟨he, bel⟩ => ?_
  subst he
  exact ⟨_, rfl, _, _, _, [], _, [], hW', trodAll_mk1 (shut_bool Try.underlying4 _), trodAll_below Try.laidOutK bel (by decide +kernel) hlt hAk, rfl, bel.frame _, fun h => by cases h⟩
theorem i0_RegionPeaks : (Rows.regionPeaksRow.inPlace == Try.prog.inPlace 14) = true := by kernel_rfl
theorem i1_RegionPeaks : (Rows.regionPeaksRow.unfollowed == Try.prog.unfollowed 14) = true := by kernel_rfl
theorem i2_RegionPeaks : (Rows.regionPeaksRow.recurses == Try.prog.recurses 14) = true := by kernel_rfl
theorem i3_RegionPeaks : (Rows.regionPeaksRow.named == Try.prog.varsNamed 14) = true := by kernel_rfl
theorem fn_RegionPeaks : Try.prog.funcNamed Rows.regionPeaksRow.func = some 14 := by kernel_rfl
theorem rest_RegionPeaks : restFacts Try.prog Try.f14 Rows.regionPeaksSpec Rows.regionPeaksRow = true := by kernel_rfl
theorem wrap_RegionPeaks : Try.f14.isWrapper Try.prog Rows.regionPeaksRow.wrapper Rows.regionPeaksRow.mainSum := by unfold Func.isWrapper; rw [if_neg (of_decide_eq_false (by kernel_rfl))]; exact ⟨rfl, rfl⟩
theorem inst_RegionPeaks : Try.f14.isInstance Try.prog Rows.regionPeaksRow.origin Rows.regionPeaksRow.targs := of_decide_eq_true (by kernel_rfl)
/-- **The given statement.** -/
theorem holds_RegionPeaks : Rows.RegionPeaksSaid :=
  OpenClaim.holds_of_wide 14 Try.f14 rfl rfl rfl rfl rfl rfl rfl ⟨rfl, rfl, rfl, rfl, rfl⟩ rfl rfl rfl rfl rfl fn_RegionPeaks Try.func14
    (joined_of Try.laidOutK Try.mapsK Try.stopsK Try.knobsK (by kernel_rfl) Try.heardK i0_RegionPeaks i1_RegionPeaks i2_RegionPeaks i3_RegionPeaks rest_RegionPeaks rfl rfl Try.enterK Try.liftsK Try.makeK (by kernel_rfl))
    inst_RegionPeaks wrap_RegionPeaks
    (fun os started HH enc _ => lifted_RegionPeaks os started HH enc)
end Go.Proofs.Ytffpfcomikcimaa
