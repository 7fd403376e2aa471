/-
  WatchTruth: what is seen is true: who is far is told so, where an animal lies it is told to lie, and where it is in danger the best plan does not fire, for every input. The row lists the package's two variables with what the program's text lays (the card ties them); no other condition.
-/
import Derived.Test.YtaplkoimhecacaaDoorCards
import Derived.Test.YtaplkoimhecacaaDoorTtr2
namespace Go.Proofs.YtaplkoimhecacaaDoor
open Go
set_option maxRecDepth 100000
open Go.ChangeShapes Go.WideShapes Go.ChangeAt Go.RowKit
theorem rdc_71 {HH : Type} {enc : TypeId × Value → HH} {W : World} {base : Nat} {v : Value} {d : DataW HH} {ps : List MemPlace} (h : DataW.Trod enc Tryd.prog W 0 (fun _ => true) true 71 v d ps) (hv : Value.okWide Tryd.prog W .any base 71 v) : ∃ (o1 : Option Addr) (c1 : Nat) (ls : List Pt) (o2 : Option Addr) (c2 : Nat) (la : List Pt) (o3 : Option Addr) (c3 : Nat) (lb : List Int) (wd : Int), v = .agg (clLf o1 ls.length c1 o2 la.length c2 o3 lb.length c3 wd).toArray ∧ SlO (allH W) o1 2 encP ls ∧ SlO (allH W) o2 2 encP la ∧ SlO (allH W) o3 1 encI lb ∧ ls.length ≤ 9223372036854775807 ∧ la.length ≤ 9223372036854775807 ∧ lb.length ≤ 9223372036854775807 ∧ la.length ≤ c2 ∧ (∀ p ∈ ls, InR p.x ∧ InR p.y) ∧ (∀ n ∈ lb, InR n) ∧ InR wd := by
  obtain ⟨l, rfl, hl⟩ := okWide_agg (by left; exact ⟨_, Tryd.underlying71⟩) hv
  have hc := trod_cells (n := 9) (ks := [.sl 73, .sl 73, .sl 3, .i]) (by kernel_rfl) h
  rw [hl] at hc
  obtain ⟨v1, l, rfl, c1, hc⟩ := cells_slX hc
  obtain ⟨v2, l, rfl, c2, hc⟩ := cells_slX hc
  obtain ⟨v3, l, rfl, c3, hc⟩ := cells_slX hc
  obtain ⟨wd, l, rfl, bw, hc⟩ := cells_i hc
  obtain rfl := cells_nil hc
  obtain ⟨a1, m1, k1, l1, rfl, rfl, n1, g1, _, s1, _⟩ := sl_P c1
  obtain ⟨a2, m2, k2, l2, rfl, rfl, n2, g2, _, s2, t2⟩ := sl_P c2
  obtain ⟨a3, m3, k3, l3, rfl, rfl, n3, g3, _, s3, _⟩ := sl_I c3
  exact ⟨a1, k1, l1, a2, k2, l2, a3, k3, l3, wd, rfl, s1, s2, s3, n1, n2, n3, t2, g1, g3, bw⟩
set_option maxRecDepth 100000 in
theorem lifted_WatchTruth (os : Os) (started : os.Started) (HH : Type) (enc : TypeId × Value → HH) :
    ReturnsInHanded {} Tryd.checked os 12 .any (fun w args => (Rows.watchTruthSpec.pre enc Tryd.prog Tryd.f12 Rows.watchTruthRow.domain false w args ∧ laidMetH Tryd.prog laidL w) ∧ sizedMet enc Tryd.prog Tryd.f12 (OpenSpec.ofChange Rows.watchTruthSpec) false w args) (Rows.watchTruthSpec.post enc Tryd.prog Tryd.f12 false true false false) := by
  refine returnsInHanded_of_change_and (C := Tryd.checked) (X := fun w _ => laidMetH Tryd.prog laidL w) (fun _ _ _ hh h => h.of_heap hh) Tryd.ownK started (by kernel_rfl) Tryd.func12
    (ChangeSpec.witness_shaped (enc := enc) (C := Tryd.checked) (os := os) (X := fun w _ => laidMetH Tryd.prog laidL w) false (World.doorLaid Tryd.prog 19 os) #[.agg #[.int .i64 0, .int .i64 0, .int .i64 0, .int .i64 0, .int .i64 0, .int .i64 0, .int .i64 0], .agg #[.slice Option.none 0 0, .slice Option.none 0 0, .slice Option.none 0 0, .int .i64 0]] 8 rfl (World.shaped_of_RefB (by kernel_rfl) (by kernel_rfl)) (by kernel_rfl) (by kernel_rfl) (by kernel_rfl) (door_met os _)) ?_
  intro W base args ds gs before hval0 hW _ _ hL _
  have hval : ∀ (j : Nat) t v, Tryd.f12.params[j]? = some t → args[j]? = some v → Value.okWide Tryd.prog W .any base t v := hval0
  have hW' := hW
  obtain ⟨p, q, hA0, hV, rfl, hfz, hnd⟩ := hW
  have hA : DataW.TrodAll enc Tryd.prog W 0 (fun _ => true) true Tryd.f12.params.toList args.toList ds p := hA0
  rw [Tryd.params12] at hA hval
  have hAk := hA
  have hlt : ∀ x ∈ p, x.block < W.heap.size := fun x hx => hW'.lt x (List.mem_append_left _ hx)
  obtain ⟨rfl, rfl⟩ := trodVars_none hV
  haveI hgl : Glob (allH W) := glob_of hL
  obtain ⟨v0, vs0, d0, ds0, p0, q0, hargs, rfl, rfl, h0, r0⟩ := Go.ChangeShapes.trodAll_cons hA
  obtain ⟨v1, vs1, d1, ds1, p1, q1, rfl, rfl, rfl, h1, r1⟩ := Go.ChangeShapes.trodAll_cons r0
  obtain ⟨rfl, rfl, rfl⟩ := Go.ChangeShapes.trodAll_nil r1
  obtain rfl : args = #[v0, v1] := by apply Array.ext'; simpa using hargs
  obtain ⟨a0, a1, a2, a3, a4, a5, a6, rfl, _⟩ := rd_23 h0 (hval 0 23 v0 rfl rfl)
  obtain ⟨o1, c1, ls, o2, c2, la, o3, c3, lb, wd, rfl, hs1, hs2, hs3, hm1, hm2, hm3, hc2, hgs, hb, hwd⟩ := rdc_71 h1 (hval 1 71 v1 rfl rfl)
  refine (calls_of ((w_Truth ⟨a0, a1, a2, a3, a4, a5, a6⟩ o1 c1 ls o2 c2 la o3 c3 lb wd (allH W) hm1 hm2 hm3 hc2 hgs hb hwd).mono fun o H' ⟨h1, h2⟩ => ⟨h1, [], h2⟩)).mono fun e W' ⟨he, bel⟩ => ?_
  subst he
  exact ⟨_, rfl, _, _, _, [], _, [], hW', trodAll_mk1 (shut_bool Tryd.underlying4 _), trodAll_below Tryd.laidOutK bel (by decide +kernel) hlt hAk, rfl, bel.frame _, fun h => by cases h⟩
theorem i0_WatchTruth : (Rows.watchTruthRow.inPlace == Tryd.prog.inPlace 12) = true := by kernel_rfl
theorem i1_WatchTruth : (Rows.watchTruthRow.unfollowed == Tryd.prog.unfollowed 12) = true := by kernel_rfl
theorem i2_WatchTruth : (Rows.watchTruthRow.recurses == Tryd.prog.recurses 12) = true := by kernel_rfl
theorem i3_WatchTruth : (Rows.watchTruthRow.named == Tryd.prog.varsNamed 12) = true := by kernel_rfl
theorem fn_WatchTruth : Tryd.prog.funcNamed Rows.watchTruthRow.func = some 12 := by kernel_rfl
theorem rest_WatchTruth : restFacts Tryd.prog Tryd.f12 Rows.watchTruthSpec Rows.watchTruthRow = true := by kernel_rfl
theorem wrap_WatchTruth : Tryd.f12.isWrapper Tryd.prog Rows.watchTruthRow.wrapper Rows.watchTruthRow.mainSum := by unfold Func.isWrapper; rw [if_neg (of_decide_eq_false (by kernel_rfl))]; exact ⟨rfl, rfl⟩
theorem inst_WatchTruth : Tryd.f12.isInstance Tryd.prog Rows.watchTruthRow.origin Rows.watchTruthRow.targs := of_decide_eq_true (by kernel_rfl)
theorem row_WatchTruth : Rows.WatchTruthSaid :=
  OpenClaim.holds_of_wide 12 Tryd.f12 rfl rfl rfl rfl rfl rfl rfl ⟨rfl, rfl, rfl, rfl, rfl⟩ rfl rfl rfl rfl rfl fn_WatchTruth Tryd.func12
    (joined_of Tryd.laidOutK Tryd.mapsK Tryd.stopsK Tryd.knobsK (by kernel_rfl) Tryd.heardK i0_WatchTruth i1_WatchTruth i2_WatchTruth i3_WatchTruth rest_WatchTruth rfl rfl Tryd.enterK Tryd.liftsK Tryd.makeK (by kernel_rfl))
    inst_WatchTruth wrap_WatchTruth
    (fun os started HH enc _ => lifted_WatchTruth os started HH enc)
/-- **The given statement.** -/
theorem holds_WatchTruth : Rows.WatchTruthCardSaid :=
  Claim7.holds_tied_plain_at .later [] [.data, .funcs] true (true, "051fffa99e0aa63067a7ba7a81b1841c31cd859f56b6fa81cf12aca7d8e6ff09") false
    row_WatchTruth (fun _ h => by cases h) (by kernel_rfl) (fun _ h => by cases h) watchTruth_row_tie rfl ⟨rfl, rfl⟩ (by kernel_rfl) rfl
    (fun f fn hf hfn => by
      obtain rfl : f = 12 := Option.some.inj (fn_WatchTruth.symm.trans hf) |>.symm
      obtain rfl : fn = Tryd.f12 := (Option.some.inj (Tryd.func12.symm.trans hfn)).symm
      exact ⟨by kernel_rfl, fun j t ht => by
        rw [Tryd.params12] at ht
        have hm : t ∈ [23, 71] := by simpa using Array.mem_of_getElem? ht
        have hall : ([23, 71].all fun u => !Tryd.prog.wantsStandIn u) = true := by kernel_rfl
        exact (show Tryd.prog.wantsStandIn t = false by simpa using List.all_eq_true.1 hall t hm)⟩)
    (by kernel_rfl)
end Go.Proofs.YtaplkoimhecacaaDoor
