/-
  How the arguments of these statements read; facts on the program's head.
-/
import Derived.Test.YtaplkoimhecacaaDoorTb09
import Derived.Test.YtaplkoimhecacaaDoorTb18
namespace Go.Proofs.YtaplkoimhecacaaDoor
open Go
set_option maxRecDepth 100000
open Go.ChangeShapes Go.WideShapes Go.ChangeAt Go.RowKit
theorem Tryd.enterK : Tryd.prog.mayEnter = true := by kernel_rfl
theorem Tryd.liftsK : (Rows.watchGuardsRow.lifted == Tryd.prog.liftsFinal) = true := by kernel_rfl
theorem Tryd.makeK : (Tryd.prog.make == some Rows.watchGuardsRow.make) = true := by kernel_rfl

section
variable {HH : Type} {enc : TypeId × Value → HH} {P : Program} {W : World}
theorem cells_i {ks : List CK} {l : List Value} (h : CellsAre enc P W (.i :: ks) l) : ∃ n r, l = I n :: r ∧ InR n ∧ CellsAre enc P W ks r := by
  cases l with
  | nil => exact h.elim
  | cons v r => obtain ⟨⟨n, rfl, hn⟩, h2⟩ := h; exact ⟨n, r, rfl, hn, h2⟩
theorem cells_nil {l : List Value} (h : CellsAre enc P W [] l) : l = [] := by
  cases l with
  | nil => rfl
  | cons v r => exact h.elim
/-- Arguments read as before, below a world. -/
theorem trodAll_below (hl : laidOutB P = true) {W' : World} (hb : Below W.heap.size W W') : ∀ {ts : List TypeId} {vs : List Value} {ds : List (DataW HH)} {ps : List MemPlace}, (∀ t ∈ ts, P.readableRec t = true ∧ t < P.types.size) → (∀ x ∈ ps, x.block < W.heap.size) →
    DataW.TrodAll enc P W 0 (fun _ => true) true ts vs ds ps → DataW.TrodAll enc P W' 0 (fun b => decide (b < W.heap.size)) true ts vs ds ps
  | [], vs, ds, ps, _, _, h => by
    obtain ⟨rfl, rfl, rfl⟩ := Go.ChangeShapes.trodAll_nil h
    exact trodAll_mk0
  | t :: ts, vs, ds, ps, ht, hps, h => by
    obtain ⟨v, vs', d, ds', p, q, rfl, rfl, rfl, h1, h2⟩ := Go.ChangeShapes.trodAll_cons h
    exact trodAll_cons_mk (Below.trod hl (ht t (by simp)).1 (ht t (by simp)).2 h1 hb (fun x hx => hps x (by simp [hx]))) (trodAll_below hl hb (fun u hu => ht u (by simp [hu])) (fun x hx => hps x (by simp [hx])) h2)
end
def restFacts (P : Program) (fn : Func) (s : ChangeSpec) (c : OpenClaim) : Bool :=
  c.wf (OpenSpec.ofChange s) && (fn.params.all (P.readableRec ·) && (namedTie P c.named s.vars &&
  ((c.stops == []) && ((c.knobs == []) &&
  ((c.maps == (fn.params.toList ++ s.plain.varTypes P).any (P.mapsRec ·)) && ((c.ifaces == (fn.params.toList ++ s.plain.varTypes P).any (P.ifacesRec ·)) && ((c.mapsOut == P.mapsAmong fn.resultTypes.toList) &&
  ((c.loops == (fn.params.toList ++ s.plain.varTypes P).any (P.loopsFrom ·)) && ((c.wideKeys == (fn.params.toList ++ s.plain.varTypes P ++ fn.resultTypes.toList).any (P.wideKeysFrom ·)) &&
  (s.vars.all (P.varReadable ·) && (fn.resultTypes.all (fun t => P.readableRec t && decide (t < P.types.size)) && ((c.ifacesOut == fn.resultTypes.toList.any (P.ifacesRec ·)) && ((c.loopsOut == fn.resultTypes.toList.any (P.loopsFrom ·)) && (c.shortTexts.isNone &&
  ((c.veiled == (fn.params.toList ++ s.plain.varTypes P ++ fn.resultTypes.toList).any (P.veiledRec ·)) && c.veiledFits P fn.params.toList (fn.params.toList ++ s.plain.varTypes P ++ fn.resultTypes.toList))))))))))))))))
theorem joined_of {P : Program} {f : FuncId} {fn : Func} {s : ChangeSpec} {c : OpenClaim} (h1 : laidOutB P = true) (h2 : mapsRowed P = true) (h3 : (P.stops == []) = true) (h4 : (P.stopKnobs == []) = true) (h5 : (c.plainKeys == P.plainKeys) = true) (h6 : P.stopsHeard = true)
    (i1 : (c.inPlace == P.inPlace f) = true) (i2 : (c.unfollowed == P.unfollowed f) = true) (i3 : (c.recurses == P.recurses f) = true) (i4 : (c.named == P.varsNamed f) = true) (rest : restFacts P fn s c = true)
    (j0 : c.domain.isEmpty = true) (j1 : (c.kinds == []) = true) (j2 : P.mayEnter = true) (j3 : (c.lifted == P.liftsFinal) = true) (j4 : (P.make == some c.make) = true) (j5 : (c.pinned == c.pinnedBy) = true) : joinedFacts P f fn s c = true := by
  simp only [restFacts, Bool.and_eq_true] at rest
  obtain ⟨r1, r2, r3, r4, r5, r6, r7, r8, r9, r10, r11, r12, r13, r14, r15, r16, r17⟩ := rest
  unfold joinedFacts
  simp only [h1, h2, h3, h4, h5, h6, i1, i2, i3, i4, r1, r2, r3, r4, r5, r6, r7, r8, r9, r10, r11, r12, r13, r14, r15, r16, r17, j0, j1, j2, j3, j4, j5, if_true, Bool.and_self]
theorem Tryd.ownK : ownKnob Tryd.prog.godebug = none := by kernel_rfl
theorem Tryd.laidOutK : laidOutB Tryd.prog = true := by kernel_rfl
theorem Tryd.mapsK : mapsRowed Tryd.prog = true := by kernel_rfl
theorem Tryd.stopsK : (Tryd.prog.stops == []) = true := by kernel_rfl
theorem Tryd.knobsK : (Tryd.prog.stopKnobs == []) = true := by kernel_rfl
theorem Tryd.heardK : Tryd.prog.stopsHeard = true := by kernel_rfl


section
variable {HH : Type} {enc : TypeId × Value → HH} {P : Program} {W : World}
theorem cells_sX {ks : List CK} {l : List Value} (h : CellsAre enc P W (.s :: ks) l) : ∃ (n : ByteArray) (r : List Value), l = .string n :: r ∧ n.size ≤ 9223372036854775807 ∧ CellsAre enc P W ks r := by
  cases l with
  | nil => exact h.elim
  | cons v r => obtain ⟨⟨n, rfl, hn⟩, h2⟩ := h; exact ⟨n, r, rfl, hn, h2⟩
theorem cells_bX {ks : List CK} {l : List Value} (h : CellsAre enc P W (.b :: ks) l) : ∃ (n : Bool) (r : List Value), l = .bool n :: r ∧ CellsAre enc P W ks r := by
  cases l with
  | nil => exact h.elim
  | cons v r => obtain ⟨⟨n, rfl⟩, h2⟩ := h; exact ⟨n, r, rfl, h2⟩
theorem cells_slX {e : TypeId} {ks : List CK} {l : List Value} (h : CellsAre enc P W (.sl e :: ks) l) : ∃ (v : Value) (r : List Value), l = v :: r ∧ CellIs enc P W (.sl e) v ∧ CellsAre enc P W ks r := by
  cases l with
  | nil => exact h.elim
  | cons v r => obtain ⟨h1, h2⟩ := h; exact ⟨v, r, rfl, h1, h2⟩
end

theorem rd_23 {HH : Type} {enc : TypeId × Value → HH} {W : World} {base : Nat} {v : Value} {d : DataW HH} {ps : List MemPlace} (h : DataW.Trod enc Tryd.prog W 0 (fun _ => true) true 23 v d ps) (hv : Value.okWide Tryd.prog W .any base 23 v) : ∃ x0 x1 x2 x3 x4 x5 x6 : Int, v = .agg [I x0, I x1, I x2, I x3, I x4, I x5, I x6].toArray ∧ InR x0 ∧ InR x1 ∧ InR x2 ∧ InR x3 ∧ InR x4 ∧ InR x5 ∧ InR x6 := by
  obtain ⟨l, rfl, hl⟩ := okWide_agg (by left; exact ⟨_, Tryd.underlying23⟩) hv
  have hc := trod_cells (n := 9) (ks := [.i, .i, .i, .i, .i, .i, .i]) (by kernel_rfl) h
  rw [hl] at hc
  obtain ⟨x0, l, rfl, b0, hc⟩ := cells_i hc
  obtain ⟨x1, l, rfl, b1, hc⟩ := cells_i hc
  obtain ⟨x2, l, rfl, b2, hc⟩ := cells_i hc
  obtain ⟨x3, l, rfl, b3, hc⟩ := cells_i hc
  obtain ⟨x4, l, rfl, b4, hc⟩ := cells_i hc
  obtain ⟨x5, l, rfl, b5, hc⟩ := cells_i hc
  obtain ⟨x6, l, rfl, b6, hc⟩ := cells_i hc
  obtain rfl := cells_nil hc
  exact ⟨x0, x1, x2, x3, x4, x5, x6, rfl, b0, b1, b2, b3, b4, b5, b6⟩
def okSgR (x : Sg) : Prop := InR x.st ∧ x.nm.size ≤ 9223372036854775807 ∧ InR x.oc ∧ InR x.nr ∧ InR x.fr
end Go.Proofs.YtaplkoimhecacaaDoor
