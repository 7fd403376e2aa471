/-
  WatchNearer: a sighting more makes the region of its animal not greater, and what it has then lies in the region of the sighting, for every input. The row lists the package's two variables with what the program's text lays (the card ties them); no other condition.
-/
import Derived.Test.YtaplkoimhecacaaDoorCards
import Derived.Test.YtaplkoimhecacaaDoorTne1
namespace Go.Proofs.YtaplkoimhecacaaDoor
open Go
set_option maxRecDepth 100000
open Go.ChangeShapes Go.WideShapes Go.ChangeAt Go.RowKit
theorem rdn_33 {HH : Type} {enc : TypeId × Value → HH} {W : World} {base : Nat} {v : Value} {d : DataW HH} {ps : List MemPlace} (h : DataW.Trod enc Tryd.prog W 0 (fun _ => true) true 33 v d ps) (hv : Value.okWide Tryd.prog W .any base 33 v) : ∃ (h : SH) (s : Sc), v = vSc h s ∧ ScO (allH W) h s ∧ s.sg.length ≤ h.c5 := by
  obtain ⟨l, rfl, hl⟩ := okWide_agg (by left; exact ⟨_, Tryd.underlying33⟩) hv
  have hc := trod_cells (n := 9) (ks := [.sl 55, .sl 55, .sl 4, .sl 4, .sl 49]) (by kernel_rfl) h
  rw [hl] at hc
  obtain ⟨v1, l, rfl, c1, hc⟩ := cells_slX hc
  obtain ⟨v2, l, rfl, c2, hc⟩ := cells_slX hc
  obtain ⟨v3, l, rfl, c3, hc⟩ := cells_slX hc
  obtain ⟨v4, l, rfl, c4, hc⟩ := cells_slX hc
  obtain ⟨v5, l, rfl, c5, hc⟩ := cells_slX hc
  obtain rfl := cells_nil hc
  obtain ⟨a1, m1, k1, l1, rfl, rfl, n1, _, _, s1, t1⟩ := sl_R c1
  obtain ⟨a2, m2, k2, l2, rfl, rfl, n2, _, _, s2, t2⟩ := sl_R c2
  obtain ⟨a3, m3, k3, l3, rfl, rfl, n3, _, _, s3, t3⟩ := sl_B c3
  obtain ⟨a4, m4, k4, l4, rfl, rfl, n4, _, _, s4, t4⟩ := sl_B c4
  obtain ⟨a5, m5, k5, l5, rfl, rfl, n5, g5, _, s5, t5⟩ := sl_S c5
  exact ⟨⟨a1, k1, a2, k2, a3, k3, a4, k4, a5, k5⟩, ⟨l1, l2, l3, l4, l5⟩, rfl, ⟨s1, s2, s3, s4, s5, ⟨t3, t4⟩, fun x hx => (g5 x hx).2.1, n1, n2, n3, n4, n5⟩, t5⟩
set_option maxRecDepth 100000 in
theorem lifted_WatchNearer (os : Os) (started : os.Started) (HH : Type) (enc : TypeId × Value → HH) :
    ReturnsInHanded {} Tryd.checked os 7 .any (fun w args => (Rows.watchNearerSpec.pre enc Tryd.prog Tryd.f7 Rows.watchNearerRow.domain false w args ∧ laidMetH Tryd.prog laidL w) ∧ sizedMet enc Tryd.prog Tryd.f7 (OpenSpec.ofChange Rows.watchNearerSpec) false w args) (Rows.watchNearerSpec.post enc Tryd.prog Tryd.f7 false true false false) := by
  refine returnsInHanded_of_change_and (C := Tryd.checked) (X := fun w _ => laidMetH Tryd.prog laidL w) (fun _ _ _ hh h => h.of_heap hh) Tryd.ownK started (by kernel_rfl) Tryd.func7
    (ChangeSpec.witness_shaped (enc := enc) (C := Tryd.checked) (os := os) (X := fun w _ => laidMetH Tryd.prog laidL w) false (World.doorLaid Tryd.prog 19 os) #[.agg #[.int .i64 0, .int .i64 0, .int .i64 0, .int .i64 0, .int .i64 0, .int .i64 0, .int .i64 0], .agg #[.slice Option.none 0 0, .slice Option.none 0 0, .slice Option.none 0 0, .slice Option.none 0 0, .slice Option.none 0 0], .agg #[.int .i64 0, .string ByteArray.empty, .int .i64 0, .int .i64 0, .int .i64 0]] 8 rfl (World.shaped_of_RefB (by kernel_rfl) (by kernel_rfl)) (by kernel_rfl) (by kernel_rfl) (by kernel_rfl) (door_met os _)) ?_
  intro W base args ds gs before hval0 hW _ _ hL _
  have hval : ∀ (j : Nat) t v, Tryd.f7.params[j]? = some t → args[j]? = some v → Value.okWide Tryd.prog W .any base t v := hval0
  have hW' := hW
  obtain ⟨p, q, hA0, hV, rfl, hfz, hnd⟩ := hW
  have hA : DataW.TrodAll enc Tryd.prog W 0 (fun _ => true) true Tryd.f7.params.toList args.toList ds p := hA0
  rw [Tryd.params7] at hA hval
  have hAk := hA
  have hlt : ∀ x ∈ p, x.block < W.heap.size := fun x hx => hW'.lt x (List.mem_append_left _ hx)
  obtain ⟨rfl, rfl⟩ := trodVars_none hV
  haveI hgl : Glob (allH W) := glob_of hL
  obtain ⟨v0, vs0, d0, ds0, p0, q0, hargs, rfl, rfl, h0, r0⟩ := Go.ChangeShapes.trodAll_cons hA
  obtain ⟨v1, vs1, d1, ds1, p1, q1, rfl, rfl, rfl, h1, r1⟩ := Go.ChangeShapes.trodAll_cons r0
  obtain ⟨v2, vs2, d2, ds2, p2, q2, rfl, rfl, rfl, h2, r2⟩ := Go.ChangeShapes.trodAll_cons r1
  obtain ⟨rfl, rfl, rfl⟩ := Go.ChangeShapes.trodAll_nil r2
  obtain rfl : args = #[v0, v1, v2] := by apply Array.ext'; simpa using hargs
  obtain ⟨a0, a1, a2, a3, a4, a5, a6, rfl, _⟩ := rd_23 h0 (hval 0 23 v0 rfl rfl)
  obtain ⟨h, s, rfl, hsc, hc5⟩ := rdn_33 h1 (hval 1 33 v1 rfl rfl)
  obtain ⟨x, rfl, hxR⟩ := rd_49 h2 (hval 2 49 v2 rfl rfl)
  refine (calls_of ((w_Nearer ⟨a0, a1, a2, a3, a4, a5, a6⟩ h s x hxR hc5 (allH W)).mono fun o H' ⟨h1, h2⟩ => ⟨h1, [], h2⟩)).mono fun e W' ⟨he, bel⟩ => ?_
  subst he
  exact ⟨_, rfl, _, _, _, [], _, [], hW', trodAll_mk1 (shut_bool Tryd.underlying4 _), trodAll_below Tryd.laidOutK bel (by decide +kernel) hlt hAk, rfl, bel.frame _, fun h => by cases h⟩
theorem i0_WatchNearer : (Rows.watchNearerRow.inPlace == Tryd.prog.inPlace 7) = true := by kernel_rfl
theorem i1_WatchNearer : (Rows.watchNearerRow.unfollowed == Tryd.prog.unfollowed 7) = true := by kernel_rfl
theorem i2_WatchNearer : (Rows.watchNearerRow.recurses == Tryd.prog.recurses 7) = true := by kernel_rfl
theorem i3_WatchNearer : (Rows.watchNearerRow.named == Tryd.prog.varsNamed 7) = true := by kernel_rfl
theorem fn_WatchNearer : Tryd.prog.funcNamed Rows.watchNearerRow.func = some 7 := by kernel_rfl
theorem rest_WatchNearer : restFacts Tryd.prog Tryd.f7 Rows.watchNearerSpec Rows.watchNearerRow = true := by kernel_rfl
theorem wrap_WatchNearer : Tryd.f7.isWrapper Tryd.prog Rows.watchNearerRow.wrapper Rows.watchNearerRow.mainSum := by unfold Func.isWrapper; rw [if_neg (of_decide_eq_false (by kernel_rfl))]; exact ⟨rfl, rfl⟩
theorem inst_WatchNearer : Tryd.f7.isInstance Tryd.prog Rows.watchNearerRow.origin Rows.watchNearerRow.targs := of_decide_eq_true (by kernel_rfl)
theorem row_WatchNearer : Rows.WatchNearerSaid :=
  OpenClaim.holds_of_wide 7 Tryd.f7 rfl rfl rfl rfl rfl rfl rfl ⟨rfl, rfl, rfl, rfl, rfl⟩ rfl rfl rfl rfl rfl fn_WatchNearer Tryd.func7
    (joined_of Tryd.laidOutK Tryd.mapsK Tryd.stopsK Tryd.knobsK (by kernel_rfl) Tryd.heardK i0_WatchNearer i1_WatchNearer i2_WatchNearer i3_WatchNearer rest_WatchNearer rfl rfl Tryd.enterK Tryd.liftsK Tryd.makeK (by kernel_rfl))
    inst_WatchNearer wrap_WatchNearer
    (fun os started HH enc _ => lifted_WatchNearer os started HH enc)
/-- **The given statement.** -/
theorem holds_WatchNearer : Rows.WatchNearerCardSaid :=
  Claim7.holds_tied_plain_at .later [] [.data, .funcs] true (true, "051fffa99e0aa63067a7ba7a81b1841c31cd859f56b6fa81cf12aca7d8e6ff09") false
    row_WatchNearer (fun _ h => by cases h) (by kernel_rfl) (fun _ h => by cases h) watchNearer_row_tie rfl ⟨rfl, rfl⟩ (by kernel_rfl) rfl
    (fun f fn hf hfn => by
      obtain rfl : f = 7 := Option.some.inj (fn_WatchNearer.symm.trans hf) |>.symm
      obtain rfl : fn = Tryd.f7 := (Option.some.inj (Tryd.func7.symm.trans hfn)).symm
      exact ⟨by kernel_rfl, fun j t ht => by
        rw [Tryd.params7] at ht
        have hm : t ∈ [23, 33, 49] := by simpa using Array.mem_of_getElem? ht
        have hall : ([23, 33, 49].all fun u => !Tryd.prog.wantsStandIn u) = true := by kernel_rfl
        exact (show Tryd.prog.wantsStandIn t = false by simpa using List.all_eq_true.1 hall t hm)⟩)
    (by kernel_rfl)
end Go.Proofs.YtaplkoimhecacaaDoor
