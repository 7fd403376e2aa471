/-
  WatchGuarded: an animal that is farther from a source than far is in none of the steps of Guard in the zone, for every input. The row lists the package's two variables with what the program's text lays (the card ties them); no other condition.
-/
import Derived.Test.YtaplkoimhecacaaDoorCards
import Derived.Test.YtaplkoimhecacaaDoorTgd1
namespace Go.Proofs.YtaplkoimhecacaaDoor
open Go
set_option maxRecDepth 100000
open Go.ChangeShapes Go.WideShapes Go.ChangeAt Go.RowKit
theorem rd_71 {HH : Type} {enc : TypeId × Value → HH} {W : World} {base : Nat} {v : Value} {d : DataW HH} {ps : List MemPlace} (h : DataW.Trod enc Tryd.prog W 0 (fun _ => true) true 71 v d ps) (hv : Value.okWide Tryd.prog W .any base 71 v) : ∃ (o1 : Option Addr) (c1 : Nat) (ls : List Pt) (o2 : Option Addr) (c2 : Nat) (la : List Pt) (o3 : Option Addr) (c3 : Nat) (lb : List Int) (wd : Int), v = .agg (clLf o1 ls.length c1 o2 la.length c2 o3 lb.length c3 wd).toArray ∧ SlO (allH W) o1 2 encP ls ∧ SlO (allH W) o2 2 encP la ∧ SlO (allH W) o3 1 encI lb ∧ ls.length ≤ 9223372036854775807 ∧ la.length ≤ 9223372036854775807 ∧ lb.length ≤ 9223372036854775807 ∧ (∀ p ∈ ls, InR p.x ∧ InR p.y) ∧ (∀ p ∈ la, InR p.x ∧ InR p.y) ∧ (∀ n ∈ lb, InR n) ∧ InR wd := by
  obtain ⟨l, rfl, hl⟩ := okWide_agg (by left; exact ⟨_, Tryd.underlying71⟩) hv
  have hc := trod_cells (n := 9) (ks := [.sl 73, .sl 73, .sl 3, .i]) (by kernel_rfl) h
  rw [hl] at hc
  obtain ⟨v1, l, rfl, c1, hc⟩ := cells_slX hc
  obtain ⟨v2, l, rfl, c2, hc⟩ := cells_slX hc
  obtain ⟨v3, l, rfl, c3, hc⟩ := cells_slX hc
  obtain ⟨wd, l, rfl, bw, hc⟩ := cells_i hc
  obtain rfl := cells_nil hc
  obtain ⟨a1, m1, k1, l1, rfl, rfl, n1, g1, _, s1, _⟩ := sl_P c1
  obtain ⟨a2, m2, k2, l2, rfl, rfl, n2, g2, _, s2, _⟩ := sl_P c2
  obtain ⟨a3, m3, k3, l3, rfl, rfl, n3, g3, _, s3, _⟩ := sl_I c3
  exact ⟨a1, k1, l1, a2, k2, l2, a3, k3, l3, wd, rfl, s1, s2, s3, n1, n2, n3, g1, g2, g3, bw⟩
set_option maxRecDepth 100000 in
theorem lifted_WatchGuarded (os : Os) (started : os.Started) (HH : Type) (enc : TypeId × Value → HH) :
    ReturnsInHanded {} Tryd.checked os 10 .any (fun w args => (Rows.watchGuardedSpec.pre enc Tryd.prog Tryd.f10 Rows.watchGuardedRow.domain false w args ∧ laidMetH Tryd.prog laidL w) ∧ sizedMet enc Tryd.prog Tryd.f10 (OpenSpec.ofChange Rows.watchGuardedSpec) false w args) (Rows.watchGuardedSpec.post enc Tryd.prog Tryd.f10 false true false false) := by
  refine returnsInHanded_of_change_and (C := Tryd.checked) (X := fun w _ => laidMetH Tryd.prog laidL w) (fun _ _ _ hh h => h.of_heap hh) Tryd.ownK started (by kernel_rfl) Tryd.func10
    (ChangeSpec.witness_shaped (enc := enc) (C := Tryd.checked) (os := os) (X := fun w _ => laidMetH Tryd.prog laidL w) false (World.doorLaid Tryd.prog 19 os) #[.agg #[.int .i64 0, .int .i64 0, .int .i64 0, .int .i64 0, .int .i64 0, .int .i64 0, .int .i64 0], .agg #[.int .i64 0, .int .i64 0], .agg #[.slice Option.none 0 0, .slice Option.none 0 0, .slice Option.none 0 0, .int .i64 0]] 8 rfl (World.shaped_of_RefB (by kernel_rfl) (by kernel_rfl)) (by kernel_rfl) (by kernel_rfl) (by kernel_rfl) (door_met os _)) ?_
  intro W base args ds gs before hval0 hW _ _ hL _
  have hval : ∀ (j : Nat) t v, Tryd.f10.params[j]? = some t → args[j]? = some v → Value.okWide Tryd.prog W .any base t v := hval0
  have hW' := hW
  obtain ⟨p, q, hA0, hV, rfl, hfz, hnd⟩ := hW
  have hA : DataW.TrodAll enc Tryd.prog W 0 (fun _ => true) true Tryd.f10.params.toList args.toList ds p := hA0
  rw [Tryd.params10] at hA hval
  have hAk := hA
  have hlt : ∀ x ∈ p, x.block < W.heap.size := fun x hx => hW'.lt x (List.mem_append_left _ hx)
  obtain ⟨rfl, rfl⟩ := trodVars_none hV
  haveI hgl : Glob (allH W) := glob_of hL
  obtain ⟨v0, vs0, d0, ds0, p0, q0, hargs, rfl, rfl, h0, r0⟩ := Go.ChangeShapes.trodAll_cons hA
  obtain ⟨v1, vs1, d1, ds1, p1, q1, rfl, rfl, rfl, h1, r1⟩ := Go.ChangeShapes.trodAll_cons r0
  obtain ⟨v2, vs2, d2, ds2, p2, q2, rfl, rfl, rfl, h2, r2⟩ := Go.ChangeShapes.trodAll_cons r1
  obtain ⟨rfl, rfl, rfl⟩ := Go.ChangeShapes.trodAll_nil r2
  obtain rfl : args = #[v0, v1, v2] := by apply Array.ext'; simpa using hargs
  obtain ⟨a0, a1, a2, a3, a4, a5, a6, rfl, _⟩ := rd_23 h0 (hval 0 23 v0 rfl rfl)
  obtain ⟨n0, n1, rfl, hn0, hn1⟩ := rd_68 h1 (hval 1 68 v1 rfl rfl)
  obtain ⟨o1, c1, ls, o2, c2, la, o3, c3, lb, wd, rfl, hs1, hs2, hs3, hm1, hm2, hm3, hg1, hg2, hg3, hwd⟩ := rd_71 h2 (hval 2 71 v2 rfl rfl)
  refine (calls_of ((w_Guarded ⟨a0, a1, a2, a3, a4, a5, a6⟩ n0 n1 hn1 o1 c1 ls o2 c2 la o3 c3 lb wd (allH W) hm3 hg3).mono fun o H' ⟨h1, h2⟩ => ⟨h1, [], h2⟩)).mono fun e W' ⟨he, bel⟩ => ?_
  subst he
  exact ⟨_, rfl, _, _, _, [], _, [], hW', trodAll_mk1 (shut_bool Tryd.underlying4 _), trodAll_below Tryd.laidOutK bel (by decide +kernel) hlt hAk, rfl, bel.frame _, fun h => by cases h⟩
theorem i0_WatchGuarded : (Rows.watchGuardedRow.inPlace == Tryd.prog.inPlace 10) = true := by kernel_rfl
theorem i1_WatchGuarded : (Rows.watchGuardedRow.unfollowed == Tryd.prog.unfollowed 10) = true := by kernel_rfl
theorem i2_WatchGuarded : (Rows.watchGuardedRow.recurses == Tryd.prog.recurses 10) = true := by kernel_rfl
theorem i3_WatchGuarded : (Rows.watchGuardedRow.named == Tryd.prog.varsNamed 10) = true := by kernel_rfl
theorem fn_WatchGuarded : Tryd.prog.funcNamed Rows.watchGuardedRow.func = some 10 := by kernel_rfl
theorem rest_WatchGuarded : restFacts Tryd.prog Tryd.f10 Rows.watchGuardedSpec Rows.watchGuardedRow = true := by kernel_rfl
theorem wrap_WatchGuarded : Tryd.f10.isWrapper Tryd.prog Rows.watchGuardedRow.wrapper Rows.watchGuardedRow.mainSum := by unfold Func.isWrapper; rw [if_neg (of_decide_eq_false (by kernel_rfl))]; exact ⟨rfl, rfl⟩
theorem inst_WatchGuarded : Tryd.f10.isInstance Tryd.prog Rows.watchGuardedRow.origin Rows.watchGuardedRow.targs := of_decide_eq_true (by kernel_rfl)
theorem row_WatchGuarded : Rows.WatchGuardedSaid :=
  OpenClaim.holds_of_wide 10 Tryd.f10 rfl rfl rfl rfl rfl rfl rfl ⟨rfl, rfl, rfl, rfl, rfl⟩ rfl rfl rfl rfl rfl fn_WatchGuarded Tryd.func10
    (joined_of Tryd.laidOutK Tryd.mapsK Tryd.stopsK Tryd.knobsK (by kernel_rfl) Tryd.heardK i0_WatchGuarded i1_WatchGuarded i2_WatchGuarded i3_WatchGuarded rest_WatchGuarded rfl rfl Tryd.enterK Tryd.liftsK Tryd.makeK (by kernel_rfl))
    inst_WatchGuarded wrap_WatchGuarded
    (fun os started HH enc _ => lifted_WatchGuarded os started HH enc)
/-- **The given statement.** -/
theorem holds_WatchGuarded : Rows.WatchGuardedCardSaid :=
  Claim7.holds_tied_plain_at .later [] [.data, .funcs] true (true, "051fffa99e0aa63067a7ba7a81b1841c31cd859f56b6fa81cf12aca7d8e6ff09") false
    row_WatchGuarded (fun _ h => by cases h) (by kernel_rfl) (fun _ h => by cases h) watchGuarded_row_tie rfl ⟨rfl, rfl⟩ (by kernel_rfl) rfl
    (fun f fn hf hfn => by
      obtain rfl : f = 10 := Option.some.inj (fn_WatchGuarded.symm.trans hf) |>.symm
      obtain rfl : fn = Tryd.f10 := (Option.some.inj (Tryd.func10.symm.trans hfn)).symm
      exact ⟨by kernel_rfl, fun j t ht => by
        rw [Tryd.params10] at ht
        have hm : t ∈ [23, 68, 71] := by simpa using Array.mem_of_getElem? ht
        have hall : ([23, 68, 71].all fun u => !Tryd.prog.wantsStandIn u) = true := by kernel_rfl
        exact (show Tryd.prog.wantsStandIn t = false by simpa using List.all_eq_true.1 hall t hm)⟩)
    (by kernel_rfl)
end Go.Proofs.YtaplkoimhecacaaDoor
