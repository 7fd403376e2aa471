/-
  How the arguments of these statements read.
-/
import Derived.Test.YtffpfcomikcimaaHd
import Derived.Test.YtffpfcomikcimaaFra
import Derived.Test.YtffpfcomikcimaaWc
import Derived.Test.YtffpfcomikcimaaWe
namespace Go.Proofs.Ytffpfcomikcimaa
open Go
set_option maxRecDepth 100000
open Go.ChangeShapes Go.WideShapes Go.ChangeAt Go.RowKit

section
variable {HH : Type} {enc : TypeId × Value → HH} {P : Program} {W : World}
theorem cells_i {ks : List CK} {l : List Value} (h : CellsAre enc P W (.i :: ks) l) : ∃ n r, l = I n :: r ∧ InR n ∧ CellsAre enc P W ks r := by
  cases l with
  | nil => exact h.elim
  | cons v r => obtain ⟨⟨n, rfl, hn⟩, h2⟩ := h; exact ⟨n, r, rfl, hn, h2⟩
theorem cells_nil {l : List Value} (h : CellsAre enc P W [] l) : l = [] := by
  cases l with
  | nil => rfl
  | cons v r => exact h.elim
/-- Arguments read as before, below a world. -/
theorem trodAll_below (hl : laidOutB P = true) {W' : World} (hb : Below W.heap.size W W') : ∀ {ts : List TypeId} {vs : List Value} {ds : List (DataW HH)} {ps : List MemPlace}, (∀ t ∈ ts, P.readableRec t = true ∧ t < P.types.size) → (∀ x ∈ ps, x.block < W.heap.size) →
    DataW.TrodAll enc P W 0 (fun _ => true) true ts vs ds ps → DataW.TrodAll enc P W' 0 (fun b => decide (b < W.heap.size)) true ts vs ds ps
  | [], vs, ds, ps, _, _, h => by
    obtain ⟨rfl, rfl, rfl⟩ := Go.ChangeShapes.trodAll_nil h
    exact trodAll_mk0
  | t :: ts, vs, ds, ps, ht, hps, h => by
    obtain ⟨v, vs', d, ds', p, q, rfl, rfl, rfl, h1, h2⟩ := Go.ChangeShapes.trodAll_cons h
    exact trodAll_cons_mk (Below.trod hl (ht t (by simp)).1 (ht t (by simp)).2 h1 hb (fun x hx => hps x (by simp [hx]))) (trodAll_below hl hb (fun u hu => ht u (by simp [hu])) (fun x hx => hps x (by simp [hx])) h2)
end
def restFacts (P : Program) (fn : Func) (s : ChangeSpec) (c : OpenClaim) : Bool :=
  c.wf (OpenSpec.ofChange s) && (fn.params.all (P.readableRec ·) && (namedTie P c.named s.vars &&
  ((c.stops == []) && ((c.knobs == []) &&
  ((c.maps == (fn.params.toList ++ s.plain.varTypes P).any (P.mapsRec ·)) && ((c.ifaces == (fn.params.toList ++ s.plain.varTypes P).any (P.ifacesRec ·)) && ((c.mapsOut == P.mapsAmong fn.resultTypes.toList) &&
  ((c.loops == (fn.params.toList ++ s.plain.varTypes P).any (P.loopsFrom ·)) && ((c.wideKeys == (fn.params.toList ++ s.plain.varTypes P ++ fn.resultTypes.toList).any (P.wideKeysFrom ·)) &&
  (s.vars.all (P.varReadable ·) && (fn.resultTypes.all (fun t => P.readableRec t && decide (t < P.types.size)) && ((c.ifacesOut == fn.resultTypes.toList.any (P.ifacesRec ·)) && ((c.loopsOut == fn.resultTypes.toList.any (P.loopsFrom ·)) && (c.shortTexts.isNone &&
  ((c.veiled == (fn.params.toList ++ s.plain.varTypes P ++ fn.resultTypes.toList).any (P.veiledRec ·)) && c.veiledFits P fn.params.toList (fn.params.toList ++ s.plain.varTypes P ++ fn.resultTypes.toList))))))))))))))))
theorem joined_of {P : Program} {f : FuncId} {fn : Func} {s : ChangeSpec} {c : OpenClaim} (h1 : laidOutB P = true) (h2 : mapsRowed P = true) (h3 : (P.stops == []) = true) (h4 : (P.stopKnobs == []) = true) (h5 : (c.plainKeys == P.plainKeys) = true) (h6 : P.stopsHeard = true)
    (i1 : (c.inPlace == P.inPlace f) = true) (i2 : (c.unfollowed == P.unfollowed f) = true) (i3 : (c.recurses == P.recurses f) = true) (i4 : (c.named == P.varsNamed f) = true) (rest : restFacts P fn s c = true)
    (j0 : c.domain.isEmpty = true) (j1 : (c.kinds == []) = true) (j2 : P.mayEnter = true) (j3 : (c.lifted == P.liftsFinal) = true) (j4 : (P.make == some c.make) = true) (j5 : (c.pinned == c.pinnedBy) = true) : joinedFacts P f fn s c = true := by
  simp only [restFacts, Bool.and_eq_true] at rest
  obtain ⟨r1, r2, r3, r4, r5, r6, r7, r8, r9, r10, r11, r12, r13, r14, r15, r16, r17⟩ := rest
  unfold joinedFacts
  simp only [h1, h2, h3, h4, h5, h6, i1, i2, i3, i4, r1, r2, r3, r4, r5, r6, r7, r8, r9, r10, r11, r12, r13, r14, r15, r16, r17, j0, j1, j2, j3, j4, j5, if_true, Bool.and_self, Bool.and_true, Bool.true_and]
theorem Try.ownK : ownKnob Try.prog.godebug = none := by kernel_rfl
theorem Try.laidOutK : laidOutB Try.prog = true := by kernel_rfl
theorem Try.mapsK : mapsRowed Try.prog = true := by kernel_rfl
theorem Try.stopsK : (Try.prog.stops == []) = true := by kernel_rfl
theorem Try.knobsK : (Try.prog.stopKnobs == []) = true := by kernel_rfl
theorem Try.heardK : Try.prog.stopsHeard = true := by kernel_rfl

abbrev encR8 (r : Rg) : List Value := [I r.x.lo, I r.x.hi, I r.y.lo, I r.y.hi, I r.s.lo, I r.s.hi, I r.d.lo, I r.d.hi]
theorem rd_25 {HH : Type} {enc : TypeId × Value → HH} {W : World} {base : Nat} {v : Value} {d : DataW HH} {ps : List MemPlace} (h : DataW.Trod enc Try.prog W 0 (fun _ => true) true 25 v d ps) (hv : Value.okWide Try.prog W .any base 25 v) : ∃ x0 x1 x2 x3 x4 x5 x6 x7 : Int, v = .agg [I x0, I x1, I x2, I x3, I x4, I x5, I x6, I x7].toArray ∧ InR x0 ∧ InR x1 ∧ InR x2 ∧ InR x3 ∧ InR x4 ∧ InR x5 ∧ InR x6 ∧ InR x7 := by
  obtain ⟨l, rfl, hl⟩ := okWide_agg (by left; exact ⟨_, Try.underlying25⟩) hv
  have hc := trod_cells (n := 9) (ks := [.i, .i, .i, .i, .i, .i, .i, .i]) (by kernel_rfl) h
  rw [hl] at hc
  obtain ⟨x0, l, rfl, b0, hc⟩ := cells_i hc
  obtain ⟨x1, l, rfl, b1, hc⟩ := cells_i hc
  obtain ⟨x2, l, rfl, b2, hc⟩ := cells_i hc
  obtain ⟨x3, l, rfl, b3, hc⟩ := cells_i hc
  obtain ⟨x4, l, rfl, b4, hc⟩ := cells_i hc
  obtain ⟨x5, l, rfl, b5, hc⟩ := cells_i hc
  obtain ⟨x6, l, rfl, b6, hc⟩ := cells_i hc
  obtain ⟨x7, l, rfl, b7, hc⟩ := cells_i hc
  obtain rfl := cells_nil hc
  exact ⟨x0, x1, x2, x3, x4, x5, x6, x7, rfl, b0, b1, b2, b3, b4, b5, b6, b7⟩
theorem rd_36 {HH : Type} {enc : TypeId × Value → HH} {W : World} {base : Nat} {v : Value} {d : DataW HH} {ps : List MemPlace} (h : DataW.Trod enc Try.prog W 0 (fun _ => true) true 36 v d ps) (hv : Value.okWide Try.prog W .any base 36 v) : ∃ x0 x1 : Int, v = .agg [I x0, I x1].toArray ∧ InR x0 ∧ InR x1 := by
  obtain ⟨l, rfl, hl⟩ := okWide_agg (by left; exact ⟨_, Try.underlying36⟩) hv
  have hc := trod_cells (n := 9) (ks := [.i, .i]) (by kernel_rfl) h
  rw [hl] at hc
  obtain ⟨x0, l, rfl, b0, hc⟩ := cells_i hc
  obtain ⟨x1, l, rfl, b1, hc⟩ := cells_i hc
  obtain rfl := cells_nil hc
  exact ⟨x0, x1, rfl, b0, b1⟩
theorem rd_26 {HH : Type} {enc : TypeId × Value → HH} {W : World} {base : Nat} {v : Value} {d : DataW HH} {ps : List MemPlace} (h : DataW.Trod enc Try.prog W 0 (fun _ => true) true 26 v d ps) (hv : Value.okWide Try.prog W .any base 26 v) : ∃ (oa : Option Addr) (m c : Nat) (l : List Pt), v = .slice oa m c ∧ l.length = m ∧ m ≤ 9223372036854775807 ∧ (∀ x ∈ l, True) ∧ (oa = Option.none → m = 0 ∧ c = 0) ∧ SlO (allH W) oa 2 encP l := by
  obtain ⟨a0, len, cap, rfl⟩ := okWide_slice Try.underlying26 hv
  have hc := trod_cells (n := 9) (ks := [.sl 36]) (by kernel_rfl) h
  refine slice_of (n := 9) (ks := [.i, .i]) encP (fun _ => True) (by kernel_rfl) (by kernel_rfl) (by decide) (fun row hr hl => ?_) hc.1
  obtain ⟨x0, row, rfl, b0, hr⟩ := cells_i hr
  obtain ⟨x1, row, rfl, b1, hr⟩ := cells_i hr
  obtain rfl := cells_nil hr
  exact ⟨⟨x0, x1⟩, rfl, True.intro⟩
theorem rd_50 {HH : Type} {enc : TypeId × Value → HH} {W : World} {base : Nat} {v : Value} {d : DataW HH} {ps : List MemPlace} (h : DataW.Trod enc Try.prog W 0 (fun _ => true) true 50 v d ps) (hv : Value.okWide Try.prog W .any base 50 v) : ∃ (oa : Option Addr) (m c : Nat) (l : List Rg), v = .slice oa m c ∧ l.length = m ∧ m ≤ 9223372036854775807 ∧ (∀ x ∈ l, True) ∧ (oa = Option.none → m = 0 ∧ c = 0) ∧ SlO (allH W) oa 8 encR8 l := by
  obtain ⟨a0, len, cap, rfl⟩ := okWide_slice Try.underlying50 hv
  have hc := trod_cells (n := 9) (ks := [.sl 25]) (by kernel_rfl) h
  refine slice_of (n := 9) (ks := [.i, .i, .i, .i, .i, .i, .i, .i]) encR8 (fun _ => True) (by kernel_rfl) (by kernel_rfl) (by decide) (fun row hr hl => ?_) hc.1
  obtain ⟨x0, row, rfl, b0, hr⟩ := cells_i hr
  obtain ⟨x1, row, rfl, b1, hr⟩ := cells_i hr
  obtain ⟨x2, row, rfl, b2, hr⟩ := cells_i hr
  obtain ⟨x3, row, rfl, b3, hr⟩ := cells_i hr
  obtain ⟨x4, row, rfl, b4, hr⟩ := cells_i hr
  obtain ⟨x5, row, rfl, b5, hr⟩ := cells_i hr
  obtain ⟨x6, row, rfl, b6, hr⟩ := cells_i hr
  obtain ⟨x7, row, rfl, b7, hr⟩ := cells_i hr
  obtain rfl := cells_nil hr
  exact ⟨⟨⟨x0, x1⟩, ⟨x2, x3⟩, ⟨x4, x5⟩, ⟨x6, x7⟩⟩, rfl, True.intro⟩
end Go.Proofs.Ytffpfcomikcimaa
