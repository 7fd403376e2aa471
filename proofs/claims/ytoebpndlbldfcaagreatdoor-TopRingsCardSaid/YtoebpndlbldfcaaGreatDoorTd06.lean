/-
  Parts of the proof: rules of the engine, walks of functions, plain Lean. No condition.
-/
import Derived.Test.YtoebpndlbldfcaaGreatDoorTd05
import Derived.Laws.Strings
import Derived.Laws.Slices
namespace Go.Proofs.YtoebpndlbldfcaaGreatDoor
open Go
set_option maxRecDepth 100000
attribute [local irreducible] tightP hullP rootP farP rows endsOf pickL sqL sqP twoE
theorem zP_sm : zP.sm 524288 := by unfold Pt.sm zP; simp only; omega
theorem gap_sm (a b : Rg) : ((twoE a b).1.map2 Bd.minus (twoE a b).2.1).sm 524288 := (minus_sm (twoE_sm a b).1 (twoE_sm a b).2).mono (by decide)
theorem c_Gap (a b : Rg) : VPure Tryz.prog 143 [vR a, vR b] (tup [vB (gapE a b).1, I (gapE a b).2]) := by
 intro H
 refine CV 31 Tryz.func143 ?_
 refine KK2 (BX fun b1 => ?_)
 refine BX fun b2 => ?_
 refine AL fun b3 => ?_
 refine QA (KK3 ?_)
 refine QN ?_
 refine QN ?_
 refine QQ (vcp rfl rfl rfl (c_two a b)) rfl ?_
 refine QM ?_
 refine QX ?_
 refine QX ?_
 refine QX ?_
 refine AL fun b4 => ?_
 refine AL fun b5 => ?_
 refine SN ?_
 refine SN ?_
 refine QA (vnil (vseq (KK2 ?_)))
 refine QM ?_
 refine QG (vnil ?_)
 refine vcondd rfl (fun h19 => ?_) (fun h19 => ?_)
 ·
  refine KK2 (QB ?_)
  refine QM ?_
  refine SN ?_
  refine QA (vnil ?_)
  refine vret (vr2 (H' := H) Tryz.func143 rfl (.celln rfl rfl) (.tmp rfl) sb ?_)
  (rw [show gapE a b = (zB, (twoE a b).2.2) from if_neg h19]; exact ⟨rfl, rfl⟩)
 ·
  refine vskip (KK2 (QN ?_))
  refine QN ?_
  refine QQ (vcp rfl rfl rfl (c_minus4 (twoE a b).1 (twoE a b).2.1 ((twoE_sm a b).1.mono (by decide)) ((twoE_sm a b).2.mono (by decide)))) rfl ?_
  refine QB ?_
  refine QQ (vcp rfl rfl rfl (c_squares ((twoE a b).1.map2 Bd.minus (twoE a b).2.1) zP (gap_sm a b) zP_sm)) rfl ?_
  refine QM ?_
  refine QX ?_
  refine QX ?_
  refine AL fun b6 => ?_
  refine SN ?_
  refine QA (KK3 ?_)
  refine QN ?_
  refine SN ?_
  refine QA (vnil ?_)
  refine vret (vr2 (H' := H) Tryz.func143 rfl (.celln rfl rfl) (.tmp rfl) sb ?_)
  (rw [show gapE a b = ((sqP ((twoE a b).1.map2 Bd.minus (twoE a b).2.1) zP).getD zB, 0) from if_pos (nn h19)]; exact ⟨rfl, rfl⟩)
end Go.Proofs.YtoebpndlbldfcaaGreatDoor
namespace Go.Proofs.YtoebpndlbldfcaaGreatDoor
open Go
abbrev clWn (w : Wn) : List Value := [I w.zone, I w.speed, I w.hold, I w.pre, I w.delay, I w.soft, I w.pause]
abbrev vWn (w : Wn) : Value := .agg (clWn w).toArray
abbrev clSg (x : Sg) : List Value := [I x.st, .string x.nm, I x.oc, I x.nr, I x.fr]
abbrev vSg (x : Sg) : Value := .agg (clSg x).toArray
abbrev encB (b : Bool) : List Value := [.bool b]
structure SH where
  a1 : Option Addr
  c1 : Nat
  a2 : Option Addr
  c2 : Nat
  a3 : Option Addr
  c3 : Nat
  a4 : Option Addr
  c4 : Nat
  a5 : Option Addr
  c5 : Nat
abbrev clSc (h : SH) (s : Sc) : List Value := [.slice h.a1 s.ship.length h.c1, .slice h.a2 s.src.length h.c2, .slice h.a3 s.eyes.length h.c3, .slice h.a4 s.ears.length h.c4, .slice h.a5 s.sg.length h.c5]
abbrev vSc (h : SH) (s : Sc) : Value := .agg (clSc h s).toArray
class ScO (H : Heap) (h : SH) (s : Sc) : Prop where
  ship : SlO H h.a1 8 clR s.ship
  src : SlO H h.a2 8 clR s.src
  eyes : SlO H h.a3 1 encB s.eyes
  ears : SlO H h.a4 1 encB s.ears
  sg : SlO H h.a5 5 clSg s.sg
  cap : s.eyes.length ≤ h.c3 ∧ s.ears.length ≤ h.c4
  nm : ∀ x ∈ s.sg, x.nm.size ≤ 9223372036854775807
  bd : s.ship.length ≤ 9223372036854775807 ∧ s.src.length ≤ 9223372036854775807 ∧ s.eyes.length ≤ 9223372036854775807 ∧ s.ears.length ≤ 9223372036854775807 ∧ s.sg.length ≤ 9223372036854775807
theorem ScO.sub {H H' : Heap} {h : SH} {s : Sc} (hs : ScO H h s) (hm : ∀ e ∈ H, e ∈ H') : ScO H' h s := ⟨hs.ship.sub hm, hs.src.sub hm, hs.eyes.sub hm, hs.ears.sub hm, hs.sg.sub hm, hs.cap, hs.nm, hs.bd⟩
instance (priority := low) ScO.tail {x : Nat × Obj} {H : Heap} {h : SH} {s : Sc} [hs : ScO H h s] : ScO (x :: H) h s := hs.sub fun e he => List.mem_cons_of_mem _ he
instance ScO.appL {A B : Heap} {h : SH} {s : Sc} [hs : ScO A h s] : ScO (A ++ B) h s := hs.sub fun e he => List.mem_append_left _ he
instance (priority := low) ScO.appR {A B : Heap} {h : SH} {s : Sc} [hs : ScO B h s] : ScO (A ++ B) h s := hs.sub fun e he => List.mem_append_right _ he
instance ScO.i1 {H : Heap} {h : SH} {s : Sc} [hs : ScO H h s] : SlO H h.a1 8 clR s.ship := hs.ship
instance ScO.i2 {H : Heap} {h : SH} {s : Sc} [hs : ScO H h s] : SlO H h.a2 8 clR s.src := hs.src
instance ScO.i3 {H : Heap} {h : SH} {s : Sc} [hs : ScO H h s] : SlO H h.a3 1 encB s.eyes := hs.eyes
instance ScO.i4 {H : Heap} {h : SH} {s : Sc} [hs : ScO H h s] : SlO H h.a4 1 encB s.ears := hs.ears
instance ScO.i5 {H : Heap} {h : SH} {s : Sc} [hs : ScO H h s] : SlO H h.a5 5 clSg s.sg := hs.sg
instance (priority := low) SlO.appR {α : Type} {A B : Heap} {oa : Option Addr} {esz : Nat} {enc : α → List Value} {l : List α} [h : SlO B oa esz enc l] : SlO (A ++ B) oa esz enc l := h.sub fun e he => List.mem_append_right _ he
def octL : List Value := [fnv 268, fnv 270, fnv 271, fnv 272, fnv 273, fnv 274, fnv 275, fnv 276]
class Glob (H : Heap) : Prop where
  first : SlO H (some ⟨1, 0, Option.none⟩) 2 (fun l : List Value => l) [[I 0, I (-1)]]
  oct : SlO H (some ⟨6, 0, Option.none⟩) 1 (fun v : Value => [v]) octL
theorem Glob.sub {H H' : Heap} (h : Glob H) (hm : ∀ e ∈ H, e ∈ H') : Glob H' := ⟨h.first.sub hm, h.oct.sub hm⟩
instance (priority := low) Glob.tail {x : Nat × Obj} {H : Heap} [h : Glob H] : Glob (x :: H) := h.sub fun e he => List.mem_cons_of_mem _ he
instance Glob.appL {A B : Heap} [h : Glob A] : Glob (A ++ B) := h.sub fun e he => List.mem_append_left _ he
instance (priority := low) Glob.appR {A B : Heap} [h : Glob B] : Glob (A ++ B) := h.sub fun e he => List.mem_append_right _ he
section
variable {P : Program} {f : FuncId} {ro : Option Nat} {N : Nat} {k : List Item} {E : Env} {D : List Deferred} {H : Heap} {Q : Out → Heap → Prop}
variable {d : Nat} {x y : Operand} {T ty : TypeId} {pos : String} {af : Array Edge} {g : Option (Nat × Bool)}
theorem veqb {p q : Bool} {T' : TypeId} (hT : P.underlying T = some .bool) (hx : ev E x = some (.bool p)) (hy : ev E y = some (.bool q)) :
    OQ P N E D H ⟨some d, .binOp .eql T x y T', ty, pos, af, g⟩ (.bool (p == q)) :=
  ov (by simp) (fun t w hA _ => by
    have := run_eql_bool (P := P) (w := w) T p q hT
    simp [execOp, ev_eval hA hx, ev_eval hA hy, eqGuard, this])
theorem bytesEq (a b : ByteArray) : (a.toList == b.toList) = decide (a = b) := by
  rw [ByteArray.toList_eq, ByteArray.toList_eq]
  obtain ⟨⟨l⟩⟩ := a
  obtain ⟨⟨m⟩⟩ := b
  by_cases h : l = m
  · subst h; simp
  · have : (⟨⟨l⟩⟩ : ByteArray) ≠ ⟨⟨m⟩⟩ := fun e => h (congrArg (fun x : ByteArray => x.data.toList) e)
    rw [decide_eq_false this]
    simpa using h
theorem veqst {a b : ByteArray} {T' : TypeId} (hx : ev E x = some (.string a)) (hy : ev E y = some (.string b)) :
    OQ P N E D H ⟨some d, .binOp .eql T x y T', ty, pos, af, g⟩ (.bool (decide (a = b))) :=
  ov (by simp) (fun t w hA _ => by simp [execOp, ev_eval hA hx, ev_eval hA hy, eqGuard, binOp, Op.stringOp, bytesEq])
def atS (oa : Option Addr) (c l esz : Nat) : Option Addr := if c = l then oa else oa.map (·.add (l * esz))
theorem vslc {oa : Option Addr} {n c e esz : Nat} {lo hi : Operand} {kl kh : IntKind} {l h : Int} [hT : TSl P T e esz] (hx : ev E x = some (.slice oa n c)) (hl : ev E lo = some (.int kl l)) (hh : ev E hi = some (.int kh h)) (h0 : 0 ≤ l) (h1 : l ≤ h) (h2 : h ≤ c) :
    OQ P N E D H ⟨some d, .slice T x (some lo) (some hi) Option.none, ty, pos, af, g⟩ (.slice (atS oa c l.toNat esz) (h - l).toNat (c - l.toNat)) :=
  ov (by simp) (fun t w hA hE => by
    have hu := hT.und
    have e1 : (Instr.sliceBound (.int kh h) c .sliceAcap).run P w = .ok h.toNat w := run_sliceBound w kh h c _ (by omega) h2
    have e2 : (Instr.sliceBound (.int kl l) h.toNat .sliceB).run P w = .ok l.toNat w := run_sliceBound w kl l h.toNat _ h0 (by omega)
    have e3 : h.toNat - l.toNat = (h - l).toNat := by omega
    simp [execOp, ev_eval hA hx, ev_eval hA hl, ev_eval hA hh, Instr.sliceAt, Instr.slice, Instr.sliceBounds, run_underlying hu, e1, e2, hT.size, Result.andThen, atS, e3])
end
theorem SlO.part {α : Type} {H : Heap} {oa : Option Addr} {esz c : Nat} {enc : α → List Value} {xs : List α} (h : SlO H oa esz enc xs) {l m : Nat} (hlm : m ≤ c) : SlO H (atS oa c l esz) esz enc ((xs.drop l).take (m - l)) := by
  refine ⟨fun i x hx => ?_⟩
  rw [List.getElem?_take] at hx
  split at hx
  · rename_i hi
    rw [List.getElem?_drop] at hx
    obtain ⟨h1, a, ob, rfl, h3, h4⟩ := h.el _ x hx
    refine ⟨h1, ?_⟩
    unfold atS
    rw [if_neg (by omega)]
    refine ⟨a.add (l * esz), ob, rfl, by rw [add_block]; exact h3, fun j v hv => ?_⟩
    rw [add_add, show l * esz + (i * esz + j) = (l + i) * esz + j by rw [Nat.add_mul]; omega]
    exact h4 j v hv
  · cases hx
class TFg (P : Program) (T : TypeId) (i : Nat) (off : outParam Nat) : Prop where
  fld : ∀ a w, (Instr.fieldAt T (.pointer (some a)) i).run P w = .ok (.pointer (some (a.add off))) w
theorem mkTFg {P : Program} {T : TypeId} {i off : Nat} (h : fldB P T i = some (off, true)) : TFg P T i off := by
  refine ⟨fun a w => ?_⟩
  unfold fldB at h
  split at h
  · rename_i fs hu
    cases hf : fs[i]? with
    | none => simp [hf] at h
    | some fd =>
      simp only [hf, Option.bind_some] at h
      cases hj : P.info? fd.type with
      | none => simp [hj] at h
      | some j =>
        simp only [hj, Option.map_some, Option.some.injEq, Prod.mk.injEq] at h
        obtain ⟨h1, h2⟩ := h
        have h3 : (0 : Nat) < j.size := Nat.le_of_ble_eq_true h2
        have hsz := size_run (P := P) (T := fd.type) (n := j.size) (by simp [hj]) w
        have hfp : (fieldPlace a fd).run P w = .ok (a.add off) w := by
          simp only [fieldPlace, Sem.run_bind, hsz, Result.andThen]
          rw [if_neg (by omega), h1]
          simp
        simp [Instr.fieldAt, run_underlying hu, hf, Instr.sureAddr, hfp]
  · cases h
section
variable {P : Program} {f : FuncId} {ro : Option Nat} {N : Nat} {k : List Item} {E : Env} {D : List Deferred} {H : Heap} {Q : Out → Heap → Prop}
variable {d : Nat} {x y : Operand} {T ty : TypeId} {pos : String} {af : Array Edge} {g : Option (Nat × Bool)}
theorem vfaS {α : Type} {enc : α → List Value} {xs : List α} {oa : Option Addr} {esz m i off : Nat} {z : α} [hT : TFg P T i off] [hS : SlO H oa esz enc xs] (hx : ev E x = some (.pointer (atI oa (m * esz)))) (hz : xs[m]? = some z) :
    OQ P N E D H ⟨some d, .fieldAddr T x i, ty, pos, af, g⟩ (.pointer (atI oa (m * esz + off))) :=
  ov (by simp) (fun t w hA hE => by
    obtain ⟨_, a, ob, rfl, _, _⟩ := hS.el _ _ hz
    simp [execOp, ev_eval hA hx, atI, hT.fld, add_add])
theorem vldSf {α : Type} {enc : α → List Value} {xs : List α} {oa : Option Addr} {esz m j : Nat} {z : α} {v : Value} [hT : TSc P T] [hS : SlO H oa esz enc xs] (hx : ev E x = some (.pointer (atI oa (m * esz + j)))) (hz : xs[m]? = some z) (hv : nth (enc z) j = some v) :
    OQ P N E D H ⟨some d, .load T x, ty, pos, af, g⟩ v := by
  obtain ⟨hl, a, ob, rfl, hm, hc⟩ := hS.el _ _ hz
  refine vldm (a := a.add (m * esz + j)) hx fun w hE => ?_
  have hob := hE.at_ _ hm
  rw [nth_eq] at hv
  have h1 : w.cell? (a.add (m * esz + j)) = some v := by
    rw [oCell_eq (ob := ob) (by rw [add_block]; exact hob)]; exact hc j v hv
  simp only [loadVar, Sem.run_bind, hT.agg, Result.andThen]
  simp only [load, Sem.run, h1, Bool.false_eq_true, if_false]
end
section
variable {P : Program} {N : Nat} {E : Env} {D : List Deferred} {H : Heap}
variable {d : Nat} {x : Operand} {T ty : TypeId} {pos : String} {af : Array Edge} {g : Option (Nat × Bool)}
theorem atI_blk (b k : Nat) : atI (some ⟨b, 0, Option.none⟩) k = some ⟨b, k, Option.none⟩ := by
  unfold atI Addr.add
  by_cases h : k = 0
  · subst h; rfl
  · simp [h]
theorem vglO {k : Nat} {v : Value} [hT : TSc P T] [hg : Glob H] (hx : ev E x = some (.pointer (some ⟨6, k, Option.none⟩))) (hk : octL[k]? = some v) : OQ P N E D H ⟨some d, .load T x, ty, pos, af, g⟩ v := by
  haveI := hg.oct
  exact vldS1 (enc := fun v : Value => [v]) (xs := octL) (m := k) (z := v) (by rw [hx, Nat.mul_one, ← atI_blk]) hk rfl
theorem vglF [hT : TAg P T 2] [hg : Glob H] (hx : ev E x = some (.pointer (some ⟨1, 0, Option.none⟩))) : OQ P N E D H ⟨some d, .load T x, ty, pos, af, g⟩ (.agg [I 0, I (-1)].toArray) := by
  haveI := hg.first
  exact vldS (enc := fun l : List Value => l) (xs := [[I 0, I (-1)]]) (m := 0) (z := [I 0, I (-1)]) (by rw [hx, Nat.zero_mul, ← atI_blk]) rfl
end
class HOR (H : Heap) (b : Nat) (o : outParam Obj) (R : outParam Heap) (F : outParam (Obj → Heap)) : Prop where
  pm : H.Perm ((b, o) :: R)
  pf : ∀ c, (F c).Perm ((b, c) :: R)
instance HOR.head {H : Heap} {b : Nat} {o : Obj} : HOR ((b, o) :: H) b o H (fun c => (b, c) :: H) := ⟨.refl _, fun _ => .refl _⟩
instance (priority := low) HOR.tail {x : Nat × Obj} {H R : Heap} {b : Nat} {o : Obj} {F : Obj → Heap} [h : HOR H b o R F] : HOR (x :: H) b o (x :: R) (fun c => x :: F c) :=
  ⟨(h.pm.cons x).trans (List.Perm.swap _ _ _), fun c => ((h.pf c).cons x).trans (List.Perm.swap _ _ _)⟩
theorem VHas.atO {P : Program} {gf : FuncId} {al : List Value} {v : Value} {H R : Heap} {b : Nat} {o o' : Obj} {F : Obj → Heap} [hr : HOR H b o R F] (h : VHas P gf al v ((b, o) :: R) ((b, o') :: R)) : VHas P gf al v H (F o') := h.perm hr.pm.symm (hr.pf o').symm
end Go.Proofs.YtoebpndlbldfcaaGreatDoor
namespace Go.Proofs.YtoebpndlbldfcaaGreatDoor
open Go
set_option maxRecDepth 100000
attribute [local irreducible] tightP hullP rootP farP rows endsOf
instance tSg9 : TSg Tryz.prog 9 := ⟨by kernel_rfl⟩
theorem chkW_t {w : Wn} (h : okW w) : chkW w = 0 := if_pos h
theorem chkW_f {w : Wn} (h : ¬ okW w) : chkW w = 60 := if_neg h
theorem chkW_z {w : Wn} : chkW w = 0 ↔ okW w := by unfold chkW; split <;> simp_all
theorem small_z {r : Rg} (h : (tightE r).2 = 0) : r.ok ∧ (tightP r).isSome = true := by
  rcases tight_cases r with ⟨t, h1, h2, h3⟩ | ⟨e, h1, h2⟩
  · exact ⟨h1, by rw [h2]; rfl⟩
  · rw [h2] at h; exact absurd h h1
theorem small_t {r : Rg} (h : smallR r) : (tightE r).2 = 0 := by
  obtain ⟨t, ht⟩ := Option.isSome_iff_exists.1 h.2.2.2
  unfold tightE; rw [if_pos h.1, ht]; rfl
theorem small_bd {r : Rg} (h : (tightE r).2 = 0) : r.sm 65536 := (small_z h).1.sm
theorem name_end {s : ByteArray} (h : ∀ j, j < s.size → goodP s j) : decide (1 ≤ (s.size : Int) ∧ (s.size : Int) ≤ 16) = nameB s := by
  by_cases h1 : 1 ≤ s.size ∧ s.size ≤ 16
  · rw [nameB_t ⟨h1, h⟩, decide_eq_true (by omega)]
  · rw [nameB_f (fun hn => h1 hn.1), decide_eq_false (by omega)]
theorem good_next {s : ByteArray} {i : Nat} (h : ∀ j, j < i → goodP s j) (hi : goodP s i) : ∀ j, j < i + 1 → goodP s j := fun j hj => by
  by_cases e : j = i
  · subst e; exact hi
  · exact h j (by omega)
noncomputable def okSgB (s : Sc) (x : Sg) : Bool := @decide (okSg s x) (Classical.propDecidable _)
theorem okSgB_t {s : Sc} {x : Sg} (h : okSg s x) : okSgB s x = true := by unfold okSgB; exact @decide_eq_true _ (Classical.propDecidable _) h
theorem okSgB_f {s : Sc} {x : Sg} (h : ¬ okSg s x) : okSgB s x = false := by unfold okSgB; exact @decide_eq_false _ (Classical.propDecidable _) h
theorem okSgB_i {s : Sc} {x : Sg} : okSgB s x = true ↔ okSg s x := by
  constructor
  · intro h; rcases Classical.em (okSg s x) with h1 | h1
    · exact h1
    · rw [okSgB_f h1] at h; cases h
  · exact okSgB_t
theorem nameB_i {s : ByteArray} : nameB s = true ↔ nameP s := by
  constructor
  · intro h; rcases Classical.em (nameP s) with h1 | h1
    · exact h1
    · rw [nameB_f h1] at h; cases h
  · exact nameB_t
theorem atB_of {l : List Bool} {i : Int} {z : Bool} (h : l[i.toNat]? = some z) : atB l i = z := by unfold atB; rw [h]; rfl
theorem sight_fin {s : Sc} {x : Sg} {b : Bool} (h1 : 0 ≤ x.st ∧ x.st ≤ (s.ship.length : Int) - 1) (h2 : nameB x.nm = true) (h3 : ¬ x.nr < 0) (h4 : x.nr ≤ x.fr ∧ x.fr ≤ 256) (h : b = true ↔ ((0 ≤ x.oc ∧ x.oc ≤ 7) ∧ atB s.eyes x.st = true ∨ x.oc = -1 ∧ atB s.ears x.st = true)) : Out.val (.bool b) = Out.val (.bool (okSgB s x)) := by
  congr 2
  rw [Bool.eq_iff_iff, h, okSgB_i]
  constructor
  · exact fun g => ⟨by omega, nameB_i.1 h2, by omega, g⟩
  · exact fun g => g.2.2.2
theorem sight_no {s : Sc} {x : Sg} (h : ¬ okSg s x) : Out.val (.bool false) = Out.val (.bool (okSgB s x)) := by rw [okSgB_f h]
theorem c_watch_within (n a b : Int) : VPure Tryz.prog 64 [I n, I a, I b] (.bool (decide (a ≤ n ∧ n ≤ b))) := by
 intro H
 refine CV 15 Tryz.func64 ?_
 refine KK2 (QA (KK3 ?_))
 refine QM ?_
 refine QM ?_
 refine QQ (vgeq rfl rfl) rfl ?_
 refine QM ?_
 refine vsplitd (d := 10) rfl (fun h10 => ?_) (fun h10 => ?_)
 ·
  refine YM ?_
  refine YM ?_
  refine YY (vleq rfl rfl) rfl ?_
  refine QT ?_
  refine QA (vnil ?_)
  refine vret (V1 (H) Tryz.func64 ?_)
  exact ⟨obd (by omega), rfl⟩
 ·
  refine NO3 ?_
  refine QU ?_
  refine QA (vnil ?_)
  refine vret (V1 (H) Tryz.func64 ?_)
  exact ⟨obf (by omega), rfl⟩
theorem c_CheckWatch (w : Wn) : VPure Tryz.prog 63 [vWn w] (I (chkW w)) := by
 intro H
 refine CV 37 Tryz.func63 ?_
 refine KK2 (BX fun b1 => ?_)
 refine QA (vnil (vseq (KK2 ?_)))
 refine QF ?_
 refine QL ?_
 refine QF ?_
 refine QL ?_
 refine QF ?_
 refine QL ?_
 refine QF ?_
 refine QL ?_
 refine QB ?_
 refine QM (vnil (vblock ?_))
 refine vloop1 ?_
 refine KK2 (QS (vnil (vseq ?_)))
 refine vcondt rfl (vskip (vseq (vblock (KK2 (QQ (vixa1 rfl rfl (by omega) rfl) rfl ?_)))))
 refine QA (KK3 ?_)
 refine QM ?_
 refine QQ (vcp rfl rfl rfl (c_watch_within _ _ _)) rfl ?_
 refine QQ (vnotd rfl) rfl (vnil ?_)
 refine vcondd rfl (fun h19 => ?_) (fun h19 => ?_)
 ·
  refine KK2 (QA (vnil ?_))
  refine vret (V1 (H) Tryz.func63 ?_)
  exact ⟨oI (chkW_f (by unfold okW; omega)).symm, rfl⟩
 ·
  refine vskip (vinblock (vregion (QQ (vadd rfl rfl (by unfold InR; omega)) rfl ?_)))
  refine QM (vnil ?_)
  refine vinloop1 ?_
  refine KK2 (QS (vnil (vseq ?_)))
  refine vcondt rfl (vskip (vseq (vblock (KK2 (QQ (vixa1 rfl rfl (by omega) rfl) rfl ?_)))))
  refine QA (KK3 ?_)
  refine QM ?_
  refine QQ (vcp rfl rfl rfl (c_watch_within _ _ _)) rfl ?_
  refine QQ (vnotd rfl) rfl (vnil ?_)
  refine vcondd rfl (fun h19 => ?_) (fun h19 => ?_)
  ·
   refine KK2 (QA (vnil ?_))
   refine vret (V1 (H) Tryz.func63 ?_)
   exact ⟨oI (chkW_f (by unfold okW; omega)).symm, rfl⟩
  ·
   refine vskip (vinblock (vregion (QQ (vadd rfl rfl (by unfold InR; omega)) rfl ?_)))
   refine QM (vnil ?_)
   refine vinloop1 ?_
   refine KK2 (QS (vnil (vseq ?_)))
   refine vcondt rfl (vskip (vseq (vblock (KK2 (QQ (vixa1 rfl rfl (by omega) rfl) rfl ?_)))))
   refine QA (KK3 ?_)
   refine QM ?_
   refine QQ (vcp rfl rfl rfl (c_watch_within _ _ _)) rfl ?_
   refine QQ (vnotd rfl) rfl (vnil ?_)
   refine vcondd rfl (fun h19 => ?_) (fun h19 => ?_)
   ·
    refine KK2 (QA (vnil ?_))
    refine vret (V1 (H) Tryz.func63 ?_)
    exact ⟨oI (chkW_f (by unfold okW; omega)).symm, rfl⟩
   ·
    refine vskip (vinblock (vregion (QQ (vadd rfl rfl (by unfold InR; omega)) rfl ?_)))
    refine QM (vnil ?_)
    refine vinloop1 ?_
    refine KK2 (QS (vnil (vseq ?_)))
    refine vcondt rfl (vskip (vseq (vblock (KK2 (QQ (vixa1 rfl rfl (by omega) rfl) rfl ?_)))))
    refine QA (KK3 ?_)
    refine QM ?_
    refine QQ (vcp rfl rfl rfl (c_watch_within _ _ _)) rfl ?_
    refine QQ (vnotd rfl) rfl (vnil ?_)
    refine vcondd rfl (fun h19 => ?_) (fun h19 => ?_)
    ·
     refine KK2 (QA (vnil ?_))
     refine vret (V1 (H) Tryz.func63 ?_)
     exact ⟨oI (chkW_f (by unfold okW; omega)).symm, rfl⟩
    ·
     refine vskip (vinblock (vregion (QQ (vadd rfl rfl (by unfold InR; omega)) rfl ?_)))
     refine QM (vnil ?_)
     refine vinloop1 ?_
     refine KK2 (QS (vnil (vseq ?_)))
     refine vcondf rfl ?_
     refine vexit (k' := _) rfl ?_
     refine vseq (KK2 (QF ?_))
     refine QL ?_
     refine QQ (vcp rfl rfl rfl (c_watch_within _ _ _)) rfl ?_
     refine QQ (vnotd rfl) rfl ?_
     refine QM ?_
     refine vsplitd (d := 25) rfl (fun h25 => ?_) (fun h25 => ?_)
     ·
      refine NO4 ?_
      refine QT ?_
      refine QM ?_
      refine NO4 ?_
      refine QT (vnil ?_)
      refine vcondt rfl (KK2 (QA (vnil ?_)))
      refine vret (V1 (H) Tryz.func63 ?_)
      exact ⟨oI (chkW_f (by unfold okW; omega)).symm, rfl⟩
     ·
      refine YF ?_
      refine YL ?_
      refine YY (vcp rfl rfl rfl (c_watch_within _ _ _)) rfl ?_
      refine YY (vnotd rfl) rfl ?_
      refine QU ?_
      refine QM ?_
      refine vsplitd (d := 31) rfl (fun h31 => ?_) (fun h31 => ?_)
      ·
       refine NO4 ?_
       refine QT (vnil ?_)
       refine vcondt rfl (KK2 (QA (vnil ?_)))
       refine vret (V1 (H) Tryz.func63 ?_)
       exact ⟨oI (chkW_f (by unfold okW; omega)).symm, rfl⟩
      ·
       refine YF ?_
       refine YL ?_
       refine YY (vcp rfl rfl rfl (c_watch_within _ _ _)) rfl ?_
       refine YY (vnotd rfl) rfl ?_
       refine QU (vnil ?_)
       refine vcondd rfl (fun h36 => ?_) (fun h36 => ?_)
       ·
        refine KK2 (QA (vnil ?_))
        refine vret (V1 (H) Tryz.func63 ?_)
        exact ⟨oI (chkW_f (by unfold okW; omega)).symm, rfl⟩
       ·
        refine vskip (KK2 (QA (vnil ?_)))
        refine vret (V1 (H) Tryz.func63 ?_)
        exact ⟨oI (chkW_t (by unfold okW; omega)).symm, rfl⟩
theorem c_steps (h : SH) (s : Sc) : VPure Tryz.prog 62 [vSc h s] (I (s.ship.length : Int)) := by
 intro H
 refine CV 7 Tryz.func62 ?_
 refine KK2 (BX fun b1 => ?_)
 refine QA (KK3 ?_)
 refine QF ?_
 refine QF ?_
 refine QL ?_
 refine QQ (vlen rfl) rfl ?_
 refine QA (vnil ?_)
 refine vret (V1 (H) Tryz.func62 ?_)
 exact ⟨rfl, rfl⟩
theorem c_small (r : Rg) : VPure Tryz.prog 204 [vR r] (.bool (decide (smallR r))) := by
 intro H
 refine CV 32 Tryz.func204 ?_
 refine KK2 (BX fun b1 => ?_)
 refine QA (KK3 ?_)
 refine QN ?_
 refine QQ (vcp rfl rfl rfl (c_Tight r)) rfl ?_
 refine QM ?_
 refine QX ?_
 refine QX ?_
 refine AL fun b2 => ?_
 refine SN ?_
 refine QA (KK3 ?_)
 refine QM ?_
 refine QE ?_
 refine QM ?_
 refine vsplitd (d := 12) rfl (fun h12 => ?_) (fun h12 => ?_)
 ·
  refine YF ?_
  refine YF ?_
  refine YL ?_
  refine YF ?_
  refine YF ?_
  refine YL ?_
  refine YY (vsub rfl rfl (by have := small_bd h12; unfold Rg.sm Bd.sm at this; unfold InR; omega)) rfl ?_
  refine YY (vleq rfl rfl) rfl ?_
  refine QT ?_
  refine QM ?_
  refine vsplitd (d := 22) rfl (fun h22 => ?_) (fun h22 => ?_)
  ·
   refine YF ?_
   refine YF ?_
   refine YL ?_
   refine YF ?_
   refine YF ?_
   refine YL ?_
   refine YY (vsub rfl rfl (by have := small_bd h12; unfold Rg.sm Bd.sm at this; unfold InR; omega)) rfl ?_
   refine YY (vleq rfl rfl) rfl ?_
   refine QT ?_
   refine QA (vnil ?_)
   refine vret (V1 (H) Tryz.func204 ?_)
   exact ⟨obd ⟨fun hh => ⟨(small_z h12).1, h22, hh, (small_z h12).2⟩, fun hh => hh.2.2.1⟩, rfl⟩
  ·
   refine NO4 ?_
   refine NO4 ?_
   refine QU ?_
   refine QA (vnil ?_)
   refine vret (V1 (H) Tryz.func204 ?_)
   exact ⟨obf (fun hh => h22 hh.2.1), rfl⟩
 ·
  refine NO4 ?_
  refine NO4 ?_
  refine QU ?_
  refine QM ?_
  refine NO4 ?_
  refine NO4 ?_
  refine QU ?_
  refine QA (vnil ?_)
  refine vret (V1 (H) Tryz.func204 ?_)
  exact ⟨obf (fun hh => h12 (small_t hh)), rfl⟩
theorem c_IsName (s : ByteArray) (hs : s.size ≤ 9223372036854775807) : VPure Tryz.prog 234 [.string s] (.bool (nameB s)) := by
 intro H
 refine CV 42 Tryz.func234 ?_
 refine KK2 (QA (vnil (vseq (KK2 ?_))))
 refine QM ?_
 refine QQ (vlens rfl) rfl ?_
 refine QM (vnil (vblock ?_))
 refine vwhile (σ := Nat) (fun i => s.size - i) (fun i => [(0, .string s), (2, .bool false), (7, I s.size), (8, I (i : Int))]) (fun i => H) (fun i => ∀ j, j < i → goodP s j) 0 (by omega) ⟨rfl, rfl, rfl, rfl, True.intro⟩ sb ?_
 rintro i hgd IH
 change VRun _ _ _ _ _ [(0, .string s), (2, .bool false), (7, I s.size), (8, I (i : Int))] _ (H) _
 refine KK2 (QS (vnil (vseq ?_)))
 refine vcondd rfl (fun h9 => ?_) (fun h9 => ?_)
 ·
  refine vskip (vseq (vblock (KK2 (QM ?_))))
  refine QA (KK3 ?_)
  refine QM ?_
  refine QM ?_
  refine QQ (vixs rfl rfl (by omega)) rfl ?_
  refine QA (KK3 ?_)
  refine QM ?_
  refine QQ (vgeqk rfl rfl) rfl ?_
  refine QM ?_
  refine vsplitd (d := 16) rfl (fun h16 => ?_) (fun h16 => ?_)
  ·
   refine YM ?_
   refine YY (vleqk rfl rfl) rfl ?_
   refine QT ?_
   refine QA (KK3 ?_)
   refine QM ?_
   refine QQ (vnotd rfl) rfl ?_
   refine QM ?_
   refine vsplitd (d := 22) rfl (fun h22 => ?_) (fun h22 => ?_)
   ·
    refine YM ?_
    refine YE ?_
    refine YM ?_
    refine vsplitd (d := 25) rfl (fun h25 => ?_) (fun h25 => ?_)
    ·
     refine NO3 ?_
     refine vnou rfl rfl rfl rfl rfl ?_
     refine vnou rfl rfl rfl rfl rfl ?_
     refine vnou rfl rfl rfl rfl rfl ?_
     refine vnou rfl rfl rfl rfl rfl ?_
     refine vnou rfl rfl rfl rfl rfl ?_
     refine vnou rfl rfl rfl rfl rfl ?_
     refine NO ?_
     refine YT ?_
     refine QT (vnil ?_)
     refine vcondt rfl (KK2 (QA (vnil ?_)))
     refine vret (V1 (H) Tryz.func234 ?_)
     (exact ⟨oV (by rw [nameB_f (fun hn => by have hg := hn.2 i (by omega); unfold goodP letP at hg; simp only [Int.toNat_natCast] at *; omega)]), rfl⟩)
    ·
     refine YM ?_
     refine YG ?_
     refine YM ?_
     refine vsplitd (d := 28) rfl (fun h28 => ?_) (fun h28 => ?_)
     ·
      refine YM ?_
      refine YY (vlssk rfl rfl) rfl ?_
      refine YM ?_
      refine vsplitd (d := 31) rfl (fun h31 => ?_) (fun h31 => ?_)
      ·
       refine NO2 ?_
       refine YT ?_
       refine YT ?_
       refine YU ?_
       refine QT (vnil ?_)
       refine vcondt rfl (KK2 (QA (vnil ?_)))
       refine vret (V1 (H) Tryz.func234 ?_)
       (exact ⟨oV (by rw [nameB_f (fun hn => by have := hn.1; omega)]), rfl⟩)
      ·
       refine YM ?_
       refine YY (vgtrk rfl rfl) rfl ?_
       refine YU ?_
       refine YT ?_
       refine YU ?_
       refine QT (vnil ?_)
       refine vcondd rfl (fun h37 => ?_) (fun h37 => ?_)
       ·
        refine KK2 (QA (vnil ?_))
        refine vret (V1 (H) Tryz.func234 ?_)
        (exact ⟨oV (by rw [nameB_f (fun hn => by have hg := hn.2 i (by omega); unfold goodP letP at hg; simp only [Int.toNat_natCast] at *; omega)]), rfl⟩)
       ·
        refine vskip (vinblock (vregion (QQ (vadd rfl rfl (by unfold InR; omega)) rfl ?_)))
        refine QM (vnil ?_)
        exact vback (IH (i + 1) (good_next hgd (by unfold goodP letP; simp only [Int.toNat_natCast] at *; omega)) (by omega)) ⟨rfl, rfl, rfl, rfl, True.intro⟩ sb
     ·
      refine NO3 ?_
      refine vnou rfl rfl rfl rfl rfl ?_
      refine vnou rfl rfl rfl rfl rfl ?_
      refine NO ?_
      refine YU ?_
      refine YU ?_
      refine QT (vnil ?_)
      refine vcondf rfl (vskip (vinblock (vregion (QQ (vadd rfl rfl (by unfold InR; omega)) rfl ?_))))
      refine QM (vnil ?_)
      exact vback (IH (i + 1) (good_next hgd (by unfold goodP letP; simp only [Int.toNat_natCast] at *; omega)) (by omega)) ⟨rfl, rfl, rfl, rfl, True.intro⟩ sb
   ·
    refine NO3 ?_
    refine vnou rfl rfl rfl rfl rfl ?_
    refine vnou rfl rfl rfl rfl rfl ?_
    refine vnou rfl rfl rfl rfl rfl ?_
    refine vnou rfl rfl rfl rfl rfl ?_
    refine vnou rfl rfl rfl rfl rfl ?_
    refine vnou rfl rfl rfl rfl rfl ?_
    refine vnou rfl rfl rfl rfl rfl ?_
    refine vnou rfl rfl rfl rfl rfl ?_
    refine vnou rfl rfl rfl rfl rfl ?_
    refine vnou rfl rfl rfl rfl rfl ?_
    refine NO ?_
    refine QU (vnil ?_)
    refine vcondf rfl (vskip (vinblock (vregion (QQ (vadd rfl rfl (by unfold InR; omega)) rfl ?_))))
    refine QM (vnil ?_)
    exact vback (IH (i + 1) (good_next hgd (by unfold goodP letP; simp only [Int.toNat_natCast] at *; omega)) (by omega)) ⟨rfl, rfl, rfl, rfl, True.intro⟩ sb
  ·
   refine NO2 ?_
   refine QU ?_
   refine QA (KK3 ?_)
   refine QM ?_
   refine QQ (vnot rfl) rfl ?_
   refine QM ?_
   refine YM ?_
   refine YE ?_
   refine YM ?_
   refine vsplitd (d := 25) rfl (fun h25 => ?_) (fun h25 => ?_)
   ·
    refine NO3 ?_
    refine vnou rfl rfl rfl rfl rfl ?_
    refine vnou rfl rfl rfl rfl rfl ?_
    refine vnou rfl rfl rfl rfl rfl ?_
    refine vnou rfl rfl rfl rfl rfl ?_
    refine vnou rfl rfl rfl rfl rfl ?_
    refine vnou rfl rfl rfl rfl rfl ?_
    refine NO ?_
    refine YT ?_
    refine QT (vnil ?_)
    refine vcondt rfl (KK2 (QA (vnil ?_)))
    refine vret (V1 (H) Tryz.func234 ?_)
    (exact ⟨oV (by rw [nameB_f (fun hn => by have hg := hn.2 i (by omega); unfold goodP letP at hg; simp only [Int.toNat_natCast] at *; omega)]), rfl⟩)
   ·
    refine YM ?_
    refine YG ?_
    refine YM ?_
    refine vsplitd (d := 28) rfl (fun h28 => ?_) (fun h28 => ?_)
    ·
     refine YM ?_
     refine YY (vlssk rfl rfl) rfl ?_
     refine YM ?_
     refine vsplitd (d := 31) rfl (fun h31 => ?_) (fun h31 => ?_)
     ·
      refine NO2 ?_
      refine YT ?_
      refine YT ?_
      refine YU ?_
      refine QT (vnil ?_)
      refine vcondt rfl (KK2 (QA (vnil ?_)))
      refine vret (V1 (H) Tryz.func234 ?_)
      (exact ⟨oV (by rw [nameB_f (fun hn => by have hg := hn.2 i (by omega); unfold goodP letP at hg; simp only [Int.toNat_natCast] at *; omega)]), rfl⟩)
     ·
      refine YM ?_
      refine YY (vgtrk rfl rfl) rfl ?_
      refine YU ?_
      refine YT ?_
      refine YU ?_
      refine QT (vnil ?_)
      refine vcondd rfl (fun h37 => ?_) (fun h37 => ?_)
      ·
       refine KK2 (QA (vnil ?_))
       refine vret (V1 (H) Tryz.func234 ?_)
       (exact ⟨oV (by rw [nameB_f (fun hn => by have hg := hn.2 i (by omega); unfold goodP letP at hg; simp only [Int.toNat_natCast] at *; omega)]), rfl⟩)
      ·
       refine vskip (vinblock (vregion (QQ (vadd rfl rfl (by unfold InR; omega)) rfl ?_)))
       refine QM (vnil ?_)
       exact vback (IH (i + 1) (good_next hgd (by unfold goodP letP; simp only [Int.toNat_natCast] at *; omega)) (by omega)) ⟨rfl, rfl, rfl, rfl, True.intro⟩ sb
    ·
     refine NO3 ?_
     refine vnou rfl rfl rfl rfl rfl ?_
     refine vnou rfl rfl rfl rfl rfl ?_
     refine NO ?_
     refine YU ?_
     refine YU ?_
     refine QT (vnil ?_)
     refine vcondf rfl (vskip (vinblock (vregion (QQ (vadd rfl rfl (by unfold InR; omega)) rfl ?_))))
     refine QM (vnil ?_)
     exact vback (IH (i + 1) (good_next hgd (by unfold goodP letP; simp only [Int.toNat_natCast] at *; omega)) (by omega)) ⟨rfl, rfl, rfl, rfl, True.intro⟩ sb
 ·
  refine vexit (k' := _) rfl ?_
  refine KK2 (QM ?_)
  refine QQ (vlens rfl) rfl ?_
  refine QQ (vcp rfl rfl rfl (c_region_within _ _ _)) rfl ?_
  refine QA (vnil ?_)
  refine vret (V1 (H) Tryz.func234 ?_)
  exact ⟨oV (by rw [name_end (fun j hj => hgd j (by omega))]), rfl⟩
theorem c_sight (h : SH) (s : Sc) (H : Heap) [hsc : ScO H h s] (x : Sg) (hn : x.nm.size ≤ 9223372036854775807) (he : s.eyes.length = s.ship.length ∧ s.ears.length = s.ship.length) : VHas Tryz.prog 205 [vSc h s, vSg x] (.bool (okSgB s x)) (H) (H) := by
 have hbd := hsc.bd
 refine CV 57 Tryz.func205 ?_
 refine KK2 (BX fun b1 => ?_)
 refine BX fun b2 => ?_
 refine QA (vnil (vseq (vseq ?_)))
 refine DR [(.q, 0), (.q, 1), (.q, 2), (.q, 3), (.q, 4), (.q, 5), (.q, 6), (.q, 7), (.q, 8), (.q, 9), (.q, 10), (.q, 11), (.q, 12), (.q, 13), (.q, 14), (.q, 15), (.q, 16), (.q, 17), (.q, 18), (.q, 19), (.q, 20), (.q, 21), (.q, 22), (.q, 23), (.q, 24), (.q, 25)] Tryz.mixed ?_
 refine DF ?_
 refine DL ?_
 refine DN ?_
 refine DD (vcp rfl rfl rfl (c_steps h s)) rfl ?_
 refine DD (vsub rfl rfl (by unfold InR; omega)) rfl ?_
 refine DD (vcp rfl rfl rfl (c_watch_within _ _ _)) rfl ?_
 refine DD (vnotd rfl) rfl ?_
 refine DM ?_
 refine vdsplitd (d := 12) rfl (fun h12 => ?_) (fun h12 => ?_)
 ·
  refine NP4 ?_
  refine DT ?_
  refine DM ?_
  refine NP3 ?_
  refine DT ?_
  refine DM ?_
  refine NP4 ?_
  refine NP2 ?_
  refine DT (vdend rfl ?_)
  refine vcondt rfl (KK2 (QA (vnil ?_)))
  refine vret (V1 (H) Tryz.func205 ?_)
  exact ⟨sight_no (fun hh => h12 ⟨hh.1.1, by have := hh.1.2; omega⟩), rfl⟩
 ·
  refine WF ?_
  refine WL ?_
  refine WW (vcp rfl rfl rfl (c_IsName x.nm hn)) rfl ?_
  refine WW (vnot rfl) rfl ?_
  refine DU ?_
  refine DM ?_
  refine vdsplit (d := 18) rfl (fun h18 => ?_) (fun h18 => ?_)
  ·
   refine NP3 ?_
   refine DT ?_
   refine DM ?_
   refine NP4 ?_
   refine NP2 ?_
   refine DT (vdend rfl ?_)
   refine vcondt rfl (KK2 (QA (vnil ?_)))
   refine vret (V1 (H) Tryz.func205 ?_)
   exact ⟨sight_no (fun hh => by rw [nameB_t hh.2.1] at h18; exact absurd h18 (by decide)), rfl⟩
  ·
   refine WF ?_
   refine WL ?_
   refine WS ?_
   refine DU ?_
   refine DM ?_
   refine vdsplitd (d := 23) rfl (fun h23 => ?_) (fun h23 => ?_)
   ·
    refine NP4 ?_
    refine NP2 ?_
    refine DT (vdend rfl ?_)
    refine vcondt rfl (KK2 (QA (vnil ?_)))
    refine vret (V1 (H) Tryz.func205 ?_)
    exact ⟨sight_no (fun hh => by have := hh.2.2.1; omega), rfl⟩
   ·
    refine WF ?_
    refine WL ?_
    refine WF ?_
    refine WL ?_
    refine WW (vcp rfl rfl rfl (c_watch_within _ _ _)) rfl ?_
    refine WW (vnotd rfl) rfl ?_
    refine DU (vdend rfl ?_)
    refine vcondd rfl (fun h30 => ?_) (fun h30 => ?_)
    ·
     refine KK2 (QA (vnil ?_))
     refine vret (V1 (H) Tryz.func205 ?_)
     exact ⟨sight_no (fun hh => by have := hh.2.2.1; omega), rfl⟩
    ·
     refine vskip (KK2 (QF ?_))
     refine QL ?_
     refine QQ (vcp rfl rfl rfl (c_watch_within _ _ _)) rfl ?_
     refine QM ?_
     refine vsplitd (d := 34) rfl (fun h34 => ?_) (fun h34 => ?_)
     ·
      refine YF ?_
      refine YF ?_
      refine YL ?_
      refine YF ?_
      refine YL ?_
      obtain ⟨z, hz⟩ := get_of_lt s.eyes (i := x.st.toNat) (by omega)
      refine YY (visg (enc := encB) rfl rfl (by omega) hz) rfl ?_
      refine YY (vldS1 (enc := encB) rfl hz rfl) rfl ?_
      refine QT ?_
      refine QM ?_
      refine vsplit (d := 43) rfl (fun h43 => ?_) (fun h43 => ?_)
      ·
       refine NO4 ?_
       refine vnou rfl rfl rfl rfl rfl ?_
       refine vnou rfl rfl rfl rfl rfl ?_
       refine vnou rfl rfl rfl rfl rfl ?_
       refine vnou rfl rfl rfl rfl rfl ?_
       refine vnou rfl rfl rfl rfl rfl ?_
       refine vnou rfl rfl rfl rfl rfl ?_
       refine vnou rfl rfl rfl rfl rfl ?_
       refine NO ?_
       refine QT ?_
       refine QA (vnil ?_)
       refine vret (V1 (H) Tryz.func205 ?_)
       exact ⟨sight_fin (by omega) (by simpa using h18) (by omega) (by omega) ⟨fun _ => .inl ⟨by omega, (atB_of hz).trans h43⟩, fun _ => rfl⟩, rfl⟩
      ·
       refine YF ?_
       refine YL ?_
       refine YE ?_
       refine YM ?_
       refine vsplitd (d := 47) rfl (fun h47 => ?_) (fun h47 => ?_)
       ·
        refine YF ?_
        refine YF ?_
        refine YL ?_
        refine YF ?_
        refine YL ?_
        obtain ⟨z2, hz2⟩ := get_of_lt s.ears (i := x.st.toNat) (by omega)
        refine YY (visg (enc := encB) rfl rfl (by omega) hz2) rfl ?_
        refine YY (vldS1 (enc := encB) rfl hz2 rfl) rfl ?_
        refine YT ?_
        refine QU ?_
        refine QA (vnil ?_)
        refine vret (V1 (H) Tryz.func205 ?_)
        exact ⟨sight_fin (by omega) (by simpa using h18) (by omega) (by omega) ⟨fun e => .inr ⟨h47, (atB_of hz2).trans e⟩, fun g => by rcases g with ⟨g1, g2⟩ | ⟨g1, g2⟩ <;> first | (exfalso; omega) | exact (atB_of hz2).symm.trans g2⟩, rfl⟩
       ·
        refine NO4 ?_
        refine NO3 ?_
        refine YU ?_
        refine QU ?_
        refine QA (vnil ?_)
        refine vret (V1 (H) Tryz.func205 ?_)
        exact ⟨sight_fin (by omega) (by simpa using h18) (by omega) (by omega) ⟨fun e => (by cases e), fun g => by rcases g with ⟨g1, g2⟩ | ⟨g1, g2⟩ <;> first | (exfalso; omega) | (rw [atB_of hz] at g2; rw [g2] at h43; exact absurd h43 (by decide))⟩, rfl⟩
     ·
      refine NO4 ?_
      refine NO3 ?_
      refine QU ?_
      refine QM ?_
      refine YF ?_
      refine YL ?_
      refine YE ?_
      refine YM ?_
      refine vsplitd (d := 47) rfl (fun h47 => ?_) (fun h47 => ?_)
      ·
       refine YF ?_
       refine YF ?_
       refine YL ?_
       refine YF ?_
       refine YL ?_
       obtain ⟨z2, hz2⟩ := get_of_lt s.ears (i := x.st.toNat) (by omega)
       refine YY (visg (enc := encB) rfl rfl (by omega) hz2) rfl ?_
       refine YY (vldS1 (enc := encB) rfl hz2 rfl) rfl ?_
       refine YT ?_
       refine QU ?_
       refine QA (vnil ?_)
       refine vret (V1 (H) Tryz.func205 ?_)
       exact ⟨sight_fin (by omega) (by simpa using h18) (by omega) (by omega) ⟨fun e => .inr ⟨h47, (atB_of hz2).trans e⟩, fun g => by rcases g with ⟨g1, g2⟩ | ⟨g1, g2⟩ <;> first | (exfalso; omega) | exact (atB_of hz2).symm.trans g2⟩, rfl⟩
      ·
       refine NO4 ?_
       refine NO3 ?_
       refine YU ?_
       refine QU ?_
       refine QA (vnil ?_)
       refine vret (V1 (H) Tryz.func205 ?_)
       exact ⟨sight_fin (by omega) (by simpa using h18) (by omega) (by omega) ⟨fun e => (by cases e), fun g => by rcases g with ⟨g1, g2⟩ | ⟨g1, g2⟩ <;> first | (exfalso; omega) | (rw [atB_of hz] at g2; rw [g2] at h43; exact absurd h43 (by decide))⟩, rfl⟩
end Go.Proofs.YtoebpndlbldfcaaGreatDoor
namespace Go.Proofs.YtoebpndlbldfcaaGreatDoor
open Go
set_option maxRecDepth 100000
attribute [local irreducible] tightP hullP rootP farP rows endsOf
instance tFg301_0 : TFg Tryz.prog 301 0 0 := mkTFg (by kernel_rfl)
noncomputable def okScB (s : Sc) : Bool := @decide (okSc s) (Classical.propDecidable _)
theorem okScB_t {s : Sc} (h : okSc s) : okScB s = true := by unfold okScB; exact @decide_eq_true _ (Classical.propDecidable _) h
theorem okScB_f {s : Sc} (h : ¬ okSc s) : okScB s = false := by unfold okScB; exact @decide_eq_false _ (Classical.propDecidable _) h
theorem okScB_i {s : Sc} : okScB s = true ↔ okSc s := by
  constructor
  · intro h; rcases Classical.em (okSc s) with h1 | h1
    · exact h1
    · rw [okScB_f h1] at h; cases h
  · exact okScB_t
theorem chkS_t {s : Sc} (h : okSc s) : chkS s = 0 := by unfold chkS; exact @if_pos _ (Classical.propDecidable _) h _ _ _
theorem chkS_f {s : Sc} (h : ¬ okSc s) : chkS s = 61 := by unfold chkS; exact @if_neg _ (Classical.propDecidable _) h _ _ _
theorem chkS_z {s : Sc} : chkS s = 0 ↔ okSc s := by
  constructor
  · intro h; rcases Classical.em (okSc s) with h1 | h1
    · exact h1
    · rw [chkS_f h1] at h; cases h
  · exact chkS_t
theorem scene_no {s : Sc} (h : ¬ okSc s) : Out.val (.bool false) = Out.val (.bool (okScB s)) := by rw [okScB_f h]
theorem scene_yes {s : Sc} (h : okSc s) : Out.val (.bool true) = Out.val (.bool (okScB s)) := by rw [okScB_t h]
theorem valid_fin {s : Sc} (h1 : (1 ≤ (s.ship.length : Int) ∧ (s.ship.length : Int) ≤ 64) ∧ s.src.length = s.ship.length ∧ s.eyes.length = s.ship.length ∧ s.ears.length = s.ship.length ∧ s.sg.length ≤ 32) (hsm : ∀ j : Nat, (j : Int) < s.ship.length → smallR (atR s.ship j) ∧ smallR (atR s.src j))
    (hok : ∀ j : Nat, (j : Int) < s.sg.length → ∀ x, s.sg[j]? = some x → okSg s x) (hso : ∀ j : Nat, (j : Int) < s.sg.length → ∀ x y, s.sg[j - 1]? = some x → s.sg[j]? = some y → 0 < j → x.st ≤ y.st) : okSc s := by
  refine ⟨by omega, h1.2.1, h1.2.2.1, h1.2.2.2.1, h1.2.2.2.2, fun r hr => ?_, fun r hr => ?_, fun x hx => ?_, fun i x y hx hy => ?_⟩
  · obtain ⟨j, hj⟩ := List.getElem?_of_mem hr
    have := (hsm j (by have := (List.getElem?_eq_some_iff.1 hj).1; omega)).1
    rwa [atR_of hj] at this
  · obtain ⟨j, hj⟩ := List.getElem?_of_mem hr
    have := (hsm j (by have := (List.getElem?_eq_some_iff.1 hj).1; omega)).2
    rwa [atR_of hj] at this
  · obtain ⟨j, hj⟩ := List.getElem?_of_mem hx
    exact hok j (by have := (List.getElem?_eq_some_iff.1 hj).1; omega) x hj
  · exact hso (i + 1) (by have := (List.getElem?_eq_some_iff.1 hy).1; omega) x y hx hy (by omega)
theorem inR_mulG {a b : Int} (ha : 0 ≤ a ∧ a ≤ 1001) (hb : 0 ≤ b ∧ b ≤ 2000) : InR (a * b) := by
  have := mul_bd (a := a) (b := b) (m := 2000) (by omega) (by omega); unfold InR; omega
theorem inR_subG {c a b : Int} (ha : 0 ≤ a ∧ a ≤ 1001) (hb : 0 ≤ b ∧ b ≤ 2000) (hc : 0 ≤ c ∧ c ≤ 32768) : InR (c - a * b) := by
  have := mul_bd (a := a) (b := b) (m := 2000) (by omega) (by omega); unfold InR; omega
theorem lt_snoc {n : Nat} {p : Nat → Prop} {t : Int} (h0 : 0 ≤ t) (h : ∀ j : Nat, (j : Int) < t → p j) (ht : p t.toNat) : ∀ j : Nat, (j : Int) < t + 1 → p j := fun j hj => by
  by_cases e : (j : Int) = t
  · rw [show j = t.toNat by omega]; exact ht
  · exact h j (by omega)
theorem c_valid (h : SH) (s : Sc) (H : Heap) [hsc : ScO H h s] : VHas Tryz.prog 171 [vSc h s] (.bool (okScB s)) (H) (H) := by
 have hbd := hsc.bd
 have hnm := hsc.nm
 refine CV 97 Tryz.func171 ?_
 refine KK2 (BX fun b1 => ?_)
 refine QA (KK3 ?_)
 refine QN ?_
 refine QQ (vcp rfl rfl rfl (c_steps h s)) rfl ?_
 refine QA (vnil (vseq (KK2 ?_)))
 refine QM ?_
 refine QQ (vcp rfl rfl rfl (c_watch_within _ _ _)) rfl ?_
 refine QQ (vnotd rfl) rfl ?_
 refine QM ?_
 refine vsplitd (d := 12) rfl (fun h12 => ?_) (fun h12 => ?_)
 ·
  refine NO4 ?_
  refine NO2 ?_
  refine QT ?_
  refine QM ?_
  refine NO4 ?_
  refine NO2 ?_
  refine QT ?_
  refine QM ?_
  refine NO4 ?_
  refine NO2 ?_
  refine QT ?_
  refine QM ?_
  refine NO4 ?_
  refine NO ?_
  refine QT (vnil ?_)
  refine vcondt rfl (KK2 (QA (vnil ?_)))
  refine vret (V1 (H) Tryz.func171 ?_)
  exact ⟨scene_no (fun hh => by have g1 := hh.1; have g2 := hh.2.1; have g3 := hh.2.2.1; have g4 := hh.2.2.2.1; have g5 := hh.2.2.2.2.1; omega), rfl⟩
 ·
  refine YF ?_
  refine YF ?_
  refine YL ?_
  refine YY (vlen rfl) rfl ?_
  refine YM ?_
  refine YG ?_
  refine QU ?_
  refine QM ?_
  refine vsplitd (d := 20) rfl (fun h20 => ?_) (fun h20 => ?_)
  ·
   refine NO4 ?_
   refine NO2 ?_
   refine QT ?_
   refine QM ?_
   refine NO4 ?_
   refine NO2 ?_
   refine QT ?_
   refine QM ?_
   refine NO4 ?_
   refine NO ?_
   refine QT (vnil ?_)
   refine vcondt rfl (KK2 (QA (vnil ?_)))
   refine vret (V1 (H) Tryz.func171 ?_)
   exact ⟨scene_no (fun hh => by have g1 := hh.1; have g2 := hh.2.1; have g3 := hh.2.2.1; have g4 := hh.2.2.2.1; have g5 := hh.2.2.2.2.1; omega), rfl⟩
  ·
   refine YF ?_
   refine YF ?_
   refine YL ?_
   refine YY (vlen rfl) rfl ?_
   refine YM ?_
   refine YG ?_
   refine QU ?_
   refine QM ?_
   refine vsplitd (d := 28) rfl (fun h28 => ?_) (fun h28 => ?_)
   ·
    refine NO4 ?_
    refine NO2 ?_
    refine QT ?_
    refine QM ?_
    refine NO4 ?_
    refine NO ?_
    refine QT (vnil ?_)
    refine vcondt rfl (KK2 (QA (vnil ?_)))
    refine vret (V1 (H) Tryz.func171 ?_)
    exact ⟨scene_no (fun hh => by have g1 := hh.1; have g2 := hh.2.1; have g3 := hh.2.2.1; have g4 := hh.2.2.2.1; have g5 := hh.2.2.2.2.1; omega), rfl⟩
   ·
    refine YF ?_
    refine YF ?_
    refine YL ?_
    refine YY (vlen rfl) rfl ?_
    refine YM ?_
    refine YG ?_
    refine QU ?_
    refine QM ?_
    refine vsplitd (d := 36) rfl (fun h36 => ?_) (fun h36 => ?_)
    ·
     refine NO4 ?_
     refine NO ?_
     refine QT (vnil ?_)
     refine vcondt rfl (KK2 (QA (vnil ?_)))
     refine vret (V1 (H) Tryz.func171 ?_)
     exact ⟨scene_no (fun hh => by have g1 := hh.1; have g2 := hh.2.1; have g3 := hh.2.2.1; have g4 := hh.2.2.2.1; have g5 := hh.2.2.2.2.1; omega), rfl⟩
    ·
     refine YF ?_
     refine YF ?_
     refine YL ?_
     refine YY (vlen rfl) rfl ?_
     refine YY (vgtr rfl rfl) rfl ?_
     refine QU (vnil ?_)
     refine vcondd rfl (fun h42 => ?_) (fun h42 => ?_)
     ·
      refine KK2 (QA (vnil ?_))
      refine vret (V1 (H) Tryz.func171 ?_)
      exact ⟨scene_no (fun hh => by have g1 := hh.1; have g2 := hh.2.1; have g3 := hh.2.2.1; have g4 := hh.2.2.2.1; have g5 := hh.2.2.2.2.1; omega), rfl⟩
     ·
      refine vskip (vseq (KK2 (QM ?_)))
      refine QM (vnil (vblock ?_))
      refine vwhile (σ := Int) (fun t => (s.ship.length - t).toNat) (fun t => [(1, ptr b1), (3, I s.ship.length), (43, I s.ship.length), (44, I t)]) (fun t => (b1, blk (clSc h s) 109) :: H) (fun t => (0 ≤ t ∧ t ≤ s.ship.length) ∧ ∀ j : Nat, (j : Int) < t → smallR (atR s.ship j) ∧ smallR (atR s.src j)) 0 ⟨⟨by omega, by omega⟩, fun j hj => by omega⟩ ⟨rfl, rfl, rfl, rfl, True.intro⟩ sb ?_
      rintro t ⟨⟨ht0, htn⟩, hsm⟩ IH
      change VRun _ _ _ _ _ [(1, ptr b1), (3, I s.ship.length), (43, I s.ship.length), (44, I t)] _ ((b1, blk (clSc h s) 109) :: H) _
      refine KK2 (QS (vnil (vseq ?_)))
      refine vcondd rfl (fun h45 => ?_) (fun h45 => ?_)
      ·
       obtain ⟨z1, hz1⟩ := get_of_lt s.ship (i := t.toNat) (by omega)
       obtain ⟨z2, hz2⟩ := get_of_lt s.src (i := t.toNat) (by omega)
       refine vskip (vseq (vblock (KK2 (QM ?_))))
       refine QA (KK3 ?_)
       refine QF ?_
       refine QF ?_
       refine QL ?_
       refine QM ?_
       refine QQ (visg (enc := clR) rfl rfl (by omega) hz1) rfl ?_
       refine QQ (vldS (enc := clR) rfl hz1) rfl ?_
       refine QQ (vcp rfl rfl rfl (c_small z1)) rfl ?_
       refine QQ (vnotd rfl) rfl ?_
       refine QM ?_
       refine vsplitd (d := 55) rfl (fun h55 => ?_) (fun h55 => ?_)
       ·
        refine NO4 ?_
        refine NO4 ?_
        refine QT (vnil ?_)
        refine vcondt rfl (KK2 (QA (vnil ?_)))
        refine vret (V1 (H) Tryz.func171 ?_)
        exact ⟨scene_no (fun hh => h55 (hh.2.2.2.2.2.1 z1 (List.mem_of_getElem? hz1))), rfl⟩
       ·
        refine YF ?_
        refine YF ?_
        refine YL ?_
        refine YM ?_
        refine YY (visg (enc := clR) rfl rfl (by omega) hz2) rfl ?_
        refine YY (vldS (enc := clR) rfl hz2) rfl ?_
        refine YY (vcp rfl rfl rfl (c_small z2)) rfl ?_
        refine YY (vnotd rfl) rfl ?_
        refine QU (vnil ?_)
        refine vcondd rfl (fun h64 => ?_) (fun h64 => ?_)
        ·
         refine KK2 (QA (vnil ?_))
         refine vret (V1 (H) Tryz.func171 ?_)
         exact ⟨scene_no (fun hh => h64 (hh.2.2.2.2.2.2.1 z2 (List.mem_of_getElem? hz2))), rfl⟩
        ·
         refine vskip (vinblock (vregion (QQ (vadd rfl rfl (by unfold InR; omega)) rfl ?_)))
         refine QM (vnil ?_)
         exact vback (IH (t + 1) ⟨⟨by omega, by omega⟩, lt_snoc (n := 0) ht0 hsm ⟨by rw [atR_of hz1]; exact Classical.not_not.1 h55, by rw [atR_of hz2]; exact Classical.not_not.1 h64⟩⟩ (by show (_ : Int).toNat < (_ : Int).toNat; omega)) ⟨rfl, rfl, rfl, rfl, True.intro⟩ sb
      ·
       refine vexit (k' := _) rfl ?_
       refine vseq (KK2 (QF ?_))
       refine QF ?_
       refine QL ?_
       refine QQ (vlen rfl) rfl ?_
       refine QM (vnil (vblock ?_))
       refine vwhile (σ := Int) (fun i => (s.sg.length - i).toNat) (fun i => [(1, ptr b1), (68, .slice h.a5 s.sg.length h.c5), (69, I s.sg.length), (70, I i)]) (fun i => (b1, blk (clSc h s) 109) :: H) (fun i => (0 ≤ i ∧ i ≤ s.sg.length) ∧ (∀ j : Nat, (j : Int) < i → ∀ x, s.sg[j]? = some x → okSg s x) ∧ ∀ j : Nat, (j : Int) < i → ∀ x y, s.sg[j - 1]? = some x → s.sg[j]? = some y → 0 < j → x.st ≤ y.st) 0 ⟨⟨by omega, by omega⟩, fun j hj => by omega, fun j hj => by omega⟩ ⟨rfl, rfl, rfl, rfl, True.intro⟩ sb ?_
       rintro i ⟨⟨hi0, hin⟩, hok, hso⟩ IH
       change VRun _ _ _ _ _ [(1, ptr b1), (68, .slice h.a5 s.sg.length h.c5), (69, I s.sg.length), (70, I i)] _ ((b1, blk (clSc h s) 109) :: H) _
       refine KK2 (QS (vnil (vseq ?_)))
       refine vcondd rfl (fun h71 => ?_) (fun h71 => ?_)
       ·
        obtain ⟨x, hx⟩ := get_of_lt s.sg (i := i.toNat) (by omega)
        refine vskip (vseq (vblock (KK2 (QM ?_))))
        refine QQ (visg (enc := clSg) rfl rfl (by omega) hx) rfl ?_
        refine QQ (vldS (enc := clSg) rfl hx) rfl ?_
        refine AL fun b2 => ?_
        refine QA ?_
        refine SN (vnil (vseq ?_))
        refine DR [(.q, 0), (.q, 1), (.q, 2), (.q, 3), (.q, 4), (.q, 5), (.q, 6), (.q, 7), (.q, 8), (.q, 9), (.q, 10), (.q, 11), (.q, 12), (.q, 13), (.q, 14), (.q, 15), (.q, 16), (.q, 17), (.q, 18), (.q, 19), (.q, 20)] Tryz.mixed ?_
        refine DN ?_
        refine DN ?_
        refine DD (vcq rfl rfl rfl (c_sight h s _ x (hnm x (List.mem_of_getElem? hx)) (by omega))) rfl ?_
        refine DD (vnot rfl) rfl ?_
        refine DM ?_
        refine vdsplit (d := 79) rfl (fun h79 => ?_) (fun h79 => ?_)
        ·
         refine NP3 ?_
         refine vdnou rfl rfl rfl rfl rfl ?_
         refine vdnou rfl rfl rfl rfl rfl ?_
         refine vdnou rfl rfl rfl rfl rfl ?_
         refine vdnou rfl rfl rfl rfl rfl ?_
         refine vdnou rfl rfl rfl rfl rfl ?_
         refine vdnou rfl rfl rfl rfl rfl ?_
         refine vdnou rfl rfl rfl rfl rfl ?_
         refine vdnou rfl rfl rfl rfl rfl ?_
         refine vdnou rfl rfl rfl rfl rfl ?_
         refine vdnou rfl rfl rfl rfl rfl ?_
         refine vdnou rfl rfl rfl rfl rfl ?_
         refine NP ?_
         refine DT (vdend rfl ?_)
         refine vcondt rfl (KK2 (QA (vnil ?_)))
         refine vret (V1 (H) Tryz.func171 ?_)
         exact ⟨scene_no (fun hh => by have := okSgB_t (hh.2.2.2.2.2.2.2.1 x (List.mem_of_getElem? hx)); rw [this] at h79; exact absurd h79 (by decide)), rfl⟩
        ·
         refine WM ?_
         refine WW (vgtr rfl rfl) rfl ?_
         refine WM ?_
         refine vdsplitd (d := 82) rfl (fun h82 => ?_) (fun h82 => ?_)
         ·
          refine WF ?_
          refine WF ?_
          refine WL ?_
          refine WM ?_
          obtain ⟨x2, hx2⟩ := get_of_lt s.sg (i := (i - 1).toNat) (by omega)
          refine WW (vsub rfl rfl (by unfold InR; omega)) rfl ?_
          refine WW (visg (enc := clSg) rfl rfl (by omega) hx2) rfl ?_
          refine WW (vfaS (enc := clSg) rfl hx2) rfl ?_
          refine WW (vldSf (enc := clSg) rfl hx2 rfl) rfl ?_
          refine WF ?_
          refine WL ?_
          refine WW (vgtr rfl rfl) rfl ?_
          refine WT ?_
          refine DU (vdend rfl ?_)
          refine vcondd rfl (fun h95 => ?_) (fun h95 => ?_)
          ·
           refine KK2 (QA (vnil ?_))
           refine vret (V1 (H) Tryz.func171 ?_)
           exact ⟨scene_no (fun hh => by have := hh.2.2.2.2.2.2.2.2 (i - 1).toNat x2 x hx2 (by rw [show (i - 1).toNat + 1 = i.toNat by omega]; exact hx); omega), rfl⟩
          ·
           refine vskip (vinblock (vregion (QQ (vadd rfl rfl (by unfold InR; omega)) rfl ?_)))
           refine QM (vnil ?_)
           exact vback (IH (i + 1) ⟨⟨by omega, by omega⟩, lt_snoc (n := 0) hi0 hok (fun y hy => by rw [hx] at hy; cases hy; exact okSgB_i.1 (by simpa using h79)), lt_snoc (n := 0) hi0 hso (fun y z hy hz hp => by rw [hx] at hz; cases hz; first | (exfalso; omega) | (rw [show (i - 1).toNat = i.toNat - 1 by omega] at hx2; rw [hx2] at hy; cases hy; omega))⟩ (by show (_ : Int).toNat < (_ : Int).toNat; omega)) ⟨rfl, rfl, rfl, rfl, True.intro⟩ sb
         ·
          refine NP4 ?_
          refine NP4 ?_
          refine NP3 ?_
          refine WU ?_
          refine DU (vdend rfl ?_)
          refine vcondf rfl (vskip (vinblock (vregion (QQ (vadd rfl rfl (by unfold InR; omega)) rfl ?_))))
          refine QM (vnil ?_)
          exact vback (IH (i + 1) ⟨⟨by omega, by omega⟩, lt_snoc (n := 0) hi0 hok (fun y hy => by rw [hx] at hy; cases hy; exact okSgB_i.1 (by simpa using h79)), lt_snoc (n := 0) hi0 hso (fun y z hy hz hp => by rw [hx] at hz; cases hz; first | (exfalso; omega) | (rw [show (i - 1).toNat = i.toNat - 1 by omega] at hx2; rw [hx2] at hy; cases hy; omega))⟩ (by show (_ : Int).toNat < (_ : Int).toNat; omega)) ⟨rfl, rfl, rfl, rfl, True.intro⟩ sb
       ·
        refine vexit (k' := _) rfl ?_
        refine KK2 (QA (vnil ?_))
        refine vret (V1 (H) Tryz.func171 ?_)
        exact ⟨scene_yes (valid_fin (by omega) (fun j hj => hsm j (by omega)) (fun j hj => hok j (by omega)) (fun j hj => hso j (by omega))), rfl⟩
theorem c_CheckScene (h : SH) (s : Sc) (H : Heap) [hsc : ScO H h s] : VHas Tryz.prog 141 [vSc h s] (I (chkS s)) (H) (H) := by
 refine CV 7 Tryz.func141 ?_
 refine KK2 (BX fun b1 => ?_)
 refine QA (vnil (vseq (KK2 ?_)))
 refine QN ?_
 refine QB ?_
 refine QQ (vcq rfl rfl rfl (c_valid h s _)) rfl ?_
 refine QQ (vnot rfl) rfl (vnil ?_)
 refine vcond rfl (fun h6 => ?_) (fun h6 => ?_)
 ·
  refine KK2 (QA (vnil ?_))
  refine vret (V1 (H) Tryz.func141 ?_)
  exact ⟨oI (chkS_f (fun hh => by rw [okScB_t hh] at h6; exact absurd h6 (by decide))).symm, rfl⟩
 ·
  refine vskip (KK2 (QA (vnil ?_)))
  refine vret (V1 (H) Tryz.func141 ?_)
  exact ⟨oI (chkS_t (okScB_i.1 (by simpa using h6))).symm, rfl⟩
def bothE (w : Wn) (n : Int) : Int := if chkW w = 0 then n else 60
theorem bothE_w {w : Wn} {n : Int} (h : chkW w ≠ 0) : bothE w n = chkW w := by unfold bothE; rw [if_neg h]; unfold chkW at *; split <;> simp_all
theorem bothE_s {w : Wn} {n : Int} (h : chkW w = 0) : bothE w n = n := if_pos h
theorem c_both (w : Wn) (h : SH) (s : Sc) (H : Heap) [hsc : ScO H h s] : VHas Tryz.prog 103 [vWn w, vSc h s] (I (bothE w (chkS s))) (H) (H) := by
 refine CV 13 Tryz.func103 ?_
 refine KK2 (BX fun b1 => ?_)
 refine BX fun b2 => ?_
 refine QA (vnil (vseq (KK2 ?_)))
 refine QN ?_
 refine QQ (vcp rfl rfl rfl (c_CheckWatch w)) rfl ?_
 refine QA (KK3 ?_)
 refine QM ?_
 refine QG (vnil ?_)
 refine vcondd rfl (fun h9 => ?_) (fun h9 => ?_)
 ·
  refine KK2 (QM ?_)
  refine QA (vnil ?_)
  refine vret (V1 (H) Tryz.func103 ?_)
  exact ⟨oI (bothE_w h9).symm, rfl⟩
 ·
  refine vskip (KK2 (QN ?_))
  refine QQ (vcq rfl rfl rfl (c_CheckScene h s _)) rfl ?_
  refine QA (vnil ?_)
  refine vret (V1 (H) Tryz.func103 ?_)
  exact ⟨oI (bothE_s (Classical.not_not.1 h9)).symm, rfl⟩
theorem guardN_stop {w : Wn} {far ship : Int} : ∀ (n : Nat) (k : Int), ¬ w.zone < far - (k + 1) * (w.speed + ship) → guardN w far ship n k = k
  | 0, _, _ => rfl
  | n + 1, k, h => by simp only [guardN]; rw [if_neg h]
theorem guardN_go {w : Wn} {far ship : Int} {n : Nat} {k : Int} (h : w.zone < far - (k + 1) * (w.speed + ship)) : guardN w far ship (n + 1) k = guardN w far ship n (k + 1) := by simp only [guardN]; rw [if_pos h]
theorem guard_60 {w : Wn} {a b : Int} (h : chkW w ≠ 0) : guardE w a b = (0, chkW w) := by
  unfold guardE; rw [if_neg (fun hh => h (chkW_t hh))]; unfold chkW at *; split <;> simp_all
theorem guard_7 {w : Wn} {a b : Int} (h : ¬ chkW w ≠ 0) (h2 : ¬ ((0 ≤ a ∧ a ≤ 32768) ∧ (0 ≤ b ∧ b ≤ 1000))) : guardE w a b = (0, 7) := by
  unfold guardE; rw [if_pos (chkW_z.1 (Classical.not_not.1 h)), if_neg h2]
theorem guard_4 {w : Wn} {a b : Int} (h : ¬ chkW w ≠ 0) (h2 : (0 ≤ a ∧ a ≤ 32768) ∧ (0 ≤ b ∧ b ≤ 1000)) (h3 : a ≤ w.zone) : guardE w a b = (0, 4) := by
  unfold guardE; rw [if_pos (chkW_z.1 (Classical.not_not.1 h)), if_pos h2, if_pos h3]
theorem guard_0 {w : Wn} {a b : Int} (h : ¬ chkW w ≠ 0) (h2 : (0 ≤ a ∧ a ≤ 32768) ∧ (0 ≤ b ∧ b ≤ 1000)) (h3 : ¬ a ≤ w.zone) : guardE w a b = (guardN w a b 1000 0, 0) := by
  unfold guardE; rw [if_pos (chkW_z.1 (Classical.not_not.1 h)), if_pos h2, if_neg h3]
theorem c_Guard (w : Wn) (far ship : Int) : VPure Tryz.prog 42 [vWn w, I far, I ship] (tup [I (guardE w far ship).1, I (guardE w far ship).2]) := by
 intro H
 refine CV 46 Tryz.func42 ?_
 refine KK2 (BX fun b1 => ?_)
 refine QA ?_
 refine QA (vnil (vseq (KK2 ?_)))
 refine QN ?_
 refine QQ (vcp rfl rfl rfl (c_CheckWatch w)) rfl ?_
 refine QA (KK3 ?_)
 refine QM ?_
 refine QG (vnil ?_)
 refine vcondd rfl (fun h13 => ?_) (fun h13 => ?_)
 ·
  refine KK2 (QM ?_)
  refine QA ?_
  refine QA (vnil ?_)
  refine vret (vr2 (H' := H) Tryz.func42 rfl (.tmp rfl) (.tmp rfl) sb ?_)
  (rw [guard_60 h13]; exact ⟨rfl, rfl⟩)
 ·
  refine vskip (vseq (KK2 (QM ?_)))
  refine QQ (vcp rfl rfl rfl (c_watch_within _ _ _)) rfl ?_
  refine QQ (vnotd rfl) rfl ?_
  refine QM ?_
  refine vsplitd (d := 18) rfl (fun h18 => ?_) (fun h18 => ?_)
  ·
   refine NO3 ?_
   refine QT (vnil ?_)
   refine vcondt rfl (KK2 (QA ?_))
   refine QA (vnil ?_)
   refine vret (vr2 (H' := H) Tryz.func42 rfl (.tmp rfl) (.tmp rfl) sb ?_)
   (rw [guard_7 h13 (by omega)]; exact ⟨rfl, rfl⟩)
  ·
   refine YM ?_
   refine YY (vcp rfl rfl rfl (c_watch_within _ _ _)) rfl ?_
   refine YY (vnotd rfl) rfl ?_
   refine QU (vnil ?_)
   refine vcondd rfl (fun h22 => ?_) (fun h22 => ?_)
   ·
    refine KK2 (QA ?_)
    refine QA (vnil ?_)
    refine vret (vr2 (H' := H) Tryz.func42 rfl (.tmp rfl) (.tmp rfl) sb ?_)
    (rw [guard_7 h13 (by omega)]; exact ⟨rfl, rfl⟩)
   ·
    refine vskip (vseq (KK2 (QM ?_)))
    refine QF ?_
    refine QL ?_
    refine QQ (vleq rfl rfl) rfl (vnil ?_)
    refine vcondd rfl (fun h26 => ?_) (fun h26 => ?_)
    ·
     refine KK2 (QA ?_)
     refine QA (vnil ?_)
     refine vret (vr2 (H' := H) Tryz.func42 rfl (.tmp rfl) (.tmp rfl) sb ?_)
     (rw [guard_4 h13 (by omega) h26]; exact ⟨rfl, rfl⟩)
    ·
     have hw := chkW_z.1 (Classical.not_not.1 h13)
     unfold okW at hw
     refine vskip (KK2 (QA (vnil (vseq (vblock ?_)))))
     refine vwhile (σ := Int) (fun k => (1000 - k).toNat) (fun k => [(1, I far), (2, I ship), (3, ptr b1), (9, I k)]) (fun k => (b1, blk (clWn w) 78) :: H) (fun k => (0 ≤ k ∧ k ≤ 1000) ∧ guardN w far ship (1000 - k).toNat k = guardN w far ship 1000 0) 0 ⟨⟨by omega, by omega⟩, rfl⟩ ⟨rfl, rfl, rfl, rfl, True.intro⟩ sb ?_
     rintro k ⟨⟨hk0, hk1⟩, hg⟩ IH
     change VRun _ _ _ _ _ [(1, I far), (2, I ship), (3, ptr b1), (9, I k)] _ ((b1, blk (clWn w) 78) :: H) _
     refine vseq (KK2 (QM ?_))
     refine QS ?_
     refine QM ?_
     refine vsplitd (d := 29) rfl (fun h29 => ?_) (fun h29 => ?_)
     ·
      refine YM ?_
      refine YM ?_
      refine YY (vadd rfl rfl (by unfold InR; omega)) rfl ?_
      refine YF ?_
      refine YL ?_
      refine YM ?_
      refine YY (vadd rfl rfl (by unfold InR; omega)) rfl ?_
      refine YY (vmul rfl rfl (inR_mulG (by omega) (by omega))) rfl ?_
      refine YY (vsub rfl rfl (inR_subG (by omega) (by omega) (by omega))) rfl ?_
      refine YF ?_
      refine YL ?_
      refine YY (vgtr rfl rfl) rfl ?_
      refine QT (vnil ?_)
      refine vcondd rfl (fun h42 => ?_) (fun h42 => ?_)
      ·
       refine vskip (vblock (vregion (QM ?_)))
       refine QQ (vadd rfl rfl (by unfold InR; omega)) rfl ?_
       refine QA (vnil (vinblock ?_))
       exact vback (IH (k + 1) ⟨⟨by omega, by omega⟩, by rw [← hg, show (1000 - k).toNat = (1000 - (k + 1)).toNat + 1 by omega]; exact (guardN_go h42).symm⟩ (by show (_ : Int).toNat < (_ : Int).toNat; omega)) ⟨rfl, rfl, rfl, rfl, True.intro⟩ sb
      ·
       refine vexit (k' := _) rfl ?_
       refine KK2 (QM ?_)
       refine QA ?_
       refine QA (vnil ?_)
       refine vret (vr2 (H' := H) Tryz.func42 rfl (.tmp rfl) (.tmp rfl) sb ?_)
       (rw [guard_0 h13 (by omega) h26, ← hg]; first | (rw [guardN_stop _ _ h42]; exact ⟨rfl, rfl⟩) | (rw [show (1000 - k).toNat = 0 by omega]; exact ⟨rfl, rfl⟩))
     ·
      refine NO4 ?_
      refine NO4 ?_
      refine NO4 ?_
      refine QU (vnil ?_)
      refine vcondf rfl ?_
      refine vexit (k' := _) rfl ?_
      refine KK2 (QM ?_)
      refine QA ?_
      refine QA (vnil ?_)
      refine vret (vr2 (H' := H) Tryz.func42 rfl (.tmp rfl) (.tmp rfl) sb ?_)
      (rw [guard_0 h13 (by omega) h26, ← hg]; first | (rw [guardN_stop _ _ h42]; exact ⟨rfl, rfl⟩) | (rw [show (1000 - k).toNat = 0 by omega]; exact ⟨rfl, rfl⟩))
end Go.Proofs.YtoebpndlbldfcaaGreatDoor
namespace Go.Proofs.YtoebpndlbldfcaaGreatDoor
open Go
set_option maxRecDepth 100000
attribute [local irreducible] tightP hullP rootP farP rows endsOf
abbrev clCn (a : Rg) (n hf : Int) : List Value := [I a.x.lo, I a.x.hi, I a.y.lo, I a.y.hi, I a.s.lo, I a.s.hi, I a.d.lo, I a.d.hi, I n, I hf]
abbrev vCn (a : Rg) (n hf : Int) : Value := .agg (clCn a n hf).toArray
theorem h_oct0 (a r : Rg) (n hf : Int) (ha : a.sm 65536) (hn : 0 ≤ n ∧ n ≤ 65536) (hh : 0 ≤ hf ∧ hf ≤ 65536) (b : Nat) : VHas Tryz.prog 268 [vCn a n hf, ptr b] (tup []) ([(b, blk (clR r) 134)]) ([(b, blk (clR (⟨up r.x (a.x.lo + hf), up r.y a.y.lo, up r.s (a.s.lo + n), up r.d a.d.lo⟩ : Rg)) 134)]) := by
 unfold Rg.sm Bd.sm at ha
 refine CV 66 Tryz.func268 ?_
 refine KK2 (BX fun b1 => (vnil (vseq ?_)))
 refine vdraw1 (d := 1) rfl [(.q, 0), (.q, 1), (.q, 2), (.q, 3), (.q, 4), (.q, 5), (.q, 7), (.q, 8), (.q, 9), (.q, 10), (.q, 12), (.q, 13), (.q, 14), (.q, 15), (.q, 17), (.q, 18), (.q, 19), (.q, 20), (.n, 6), (.q, 11), (.n, 16), (.q, 21), (.q, 22), (.q, 23), (.q, 24), (.s, 25), (.q, 26), (.q, 27), (.q, 28), (.s, 29)] Tryz.mixed (by kernel_rfl) (allocOk_of _ (by kernel_rfl)) ?_
 refine DM ?_
 refine DM ?_
 refine DM ?_
 refine DC ?_
 refine DF ?_
 refine DF ?_
 refine DF ?_
 refine DF ?_
 refine DF ?_
 refine DL ?_
 refine DM ?_
 refine DC ?_
 refine DF ?_
 refine DF ?_
 refine DF ?_
 refine DF ?_
 refine DF ?_
 refine DL ?_
 refine vdn rfl (mone rfl) (vld1 rfl rfl) rfl rfl ?_
 refine DD (vmax2 rfl rfl) rfl ?_
 refine vdn rfl (mone rfl) (vld1 rfl rfl) rfl rfl ?_
 refine DD (vmax2 rfl rfl) rfl ?_
 refine DC ?_
 refine DF ?_
 refine DF ?_
 refine vds (mone rfl) (vst1 rfl rfl rfl rfl) rfl ?_
 refine DC ?_
 refine DF ?_
 refine DF ?_
 refine vds (mone rfl) (vst1 rfl rfl rfl rfl) rfl ?_
 refine vdend rfl ?_
 refine vdraw1 (d := 1) rfl [(.q, 0), (.q, 1), (.q, 2), (.q, 3), (.q, 4), (.q, 5), (.q, 7), (.q, 8), (.q, 9), (.q, 10), (.q, 11), (.q, 12), (.q, 13), (.q, 15), (.q, 16), (.q, 17), (.q, 18), (.q, 20), (.q, 21), (.q, 22), (.q, 23), (.q, 24), (.q, 25), (.q, 26), (.n, 6), (.q, 14), (.n, 19), (.q, 27), (.q, 28), (.q, 29), (.q, 30), (.s, 31), (.q, 32), (.q, 33), (.q, 34), (.s, 35)] Tryz.mixed (by kernel_rfl) (allocOk_of _ (by kernel_rfl)) ?_
 refine DM ?_
 refine DM ?_
 refine DM ?_
 refine DC ?_
 refine DF ?_
 refine DF ?_
 refine DF ?_
 refine DF ?_
 refine DF ?_
 refine DL ?_
 refine DF ?_
 refine DL ?_
 refine DD (vadd rfl rfl (by unfold InR; omega)) rfl ?_
 refine DM ?_
 refine DC ?_
 refine DF ?_
 refine DF ?_
 refine DF ?_
 refine DF ?_
 refine DF ?_
 refine DL ?_
 refine DF ?_
 refine DL ?_
 refine DD (vadd rfl rfl (by unfold InR; omega)) rfl ?_
 refine vdn rfl (mone rfl) (vld1 rfl rfl) rfl rfl ?_
 refine DD (vmax2 rfl rfl) rfl ?_
 refine vdn rfl (mone rfl) (vld1 rfl rfl) rfl rfl ?_
 refine DD (vmax2 rfl rfl) rfl ?_
 refine DC ?_
 refine DF ?_
 refine DF ?_
 refine vds (mone rfl) (vst1 rfl rfl rfl rfl) rfl ?_
 refine DC ?_
 refine DF ?_
 refine DF ?_
 refine vds (mone rfl) (vst1 rfl rfl rfl rfl) rfl ?_
 refine vdend rfl ?_
 refine vend (vr0 (H' := [(b, _)]) Tryz.func268 rfl  sb ?_)
 exact ⟨rfl, rfl⟩
theorem h_oct1 (a r : Rg) (n hf : Int) (ha : a.sm 65536) (hn : 0 ≤ n ∧ n ≤ 65536) (hh : 0 ≤ hf ∧ hf ≤ 65536) (b : Nat) : VHas Tryz.prog 270 [vCn a n hf, ptr b] (tup []) ([(b, blk (clR r) 134)]) ([(b, blk (clR (⟨up r.x a.x.lo, up r.y (a.y.lo + hf), up r.s (a.s.lo + n), dn r.d a.d.hi⟩ : Rg)) 134)]) := by
 unfold Rg.sm Bd.sm at ha
 refine CV 66 Tryz.func270 ?_
 refine KK2 (BX fun b1 => (vnil (vseq ?_)))
 refine vdraw1 (d := 1) rfl [(.q, 0), (.q, 1), (.q, 2), (.q, 3), (.q, 4), (.q, 5), (.q, 7), (.q, 8), (.q, 9), (.q, 10), (.q, 12), (.q, 13), (.q, 14), (.q, 15), (.q, 17), (.q, 18), (.q, 19), (.q, 20), (.n, 6), (.q, 11), (.n, 16), (.q, 21), (.q, 22), (.q, 23), (.q, 24), (.s, 25), (.q, 26), (.q, 27), (.q, 28), (.s, 29)] Tryz.mixed (by kernel_rfl) (allocOk_of _ (by kernel_rfl)) ?_
 refine DM ?_
 refine DM ?_
 refine DM ?_
 refine DC ?_
 refine DF ?_
 refine DF ?_
 refine DF ?_
 refine DF ?_
 refine DF ?_
 refine DL ?_
 refine DM ?_
 refine DC ?_
 refine DF ?_
 refine DF ?_
 refine DF ?_
 refine DF ?_
 refine DF ?_
 refine DL ?_
 refine vdn rfl (mone rfl) (vld1 rfl rfl) rfl rfl ?_
 refine DD (vmax2 rfl rfl) rfl ?_
 refine vdn rfl (mone rfl) (vld1 rfl rfl) rfl rfl ?_
 refine DD (vmin2 rfl rfl) rfl ?_
 refine DC ?_
 refine DF ?_
 refine DF ?_
 refine vds (mone rfl) (vst1 rfl rfl rfl rfl) rfl ?_
 refine DC ?_
 refine DF ?_
 refine DF ?_
 refine vds (mone rfl) (vst1 rfl rfl rfl rfl) rfl ?_
 refine vdend rfl ?_
 refine vdraw1 (d := 1) rfl [(.q, 0), (.q, 1), (.q, 2), (.q, 3), (.q, 4), (.q, 5), (.q, 7), (.q, 8), (.q, 9), (.q, 10), (.q, 11), (.q, 12), (.q, 13), (.q, 15), (.q, 16), (.q, 17), (.q, 18), (.q, 20), (.q, 21), (.q, 22), (.q, 23), (.q, 24), (.q, 25), (.q, 26), (.n, 6), (.q, 14), (.n, 19), (.q, 27), (.q, 28), (.q, 29), (.q, 30), (.s, 31), (.q, 32), (.q, 33), (.q, 34), (.s, 35)] Tryz.mixed (by kernel_rfl) (allocOk_of _ (by kernel_rfl)) ?_
 refine DM ?_
 refine DM ?_
 refine DM ?_
 refine DC ?_
 refine DF ?_
 refine DF ?_
 refine DF ?_
 refine DF ?_
 refine DF ?_
 refine DL ?_
 refine DF ?_
 refine DL ?_
 refine DD (vadd rfl rfl (by unfold InR; omega)) rfl ?_
 refine DM ?_
 refine DC ?_
 refine DF ?_
 refine DF ?_
 refine DF ?_
 refine DF ?_
 refine DF ?_
 refine DL ?_
 refine DF ?_
 refine DL ?_
 refine DD (vadd rfl rfl (by unfold InR; omega)) rfl ?_
 refine vdn rfl (mone rfl) (vld1 rfl rfl) rfl rfl ?_
 refine DD (vmax2 rfl rfl) rfl ?_
 refine vdn rfl (mone rfl) (vld1 rfl rfl) rfl rfl ?_
 refine DD (vmax2 rfl rfl) rfl ?_
 refine DC ?_
 refine DF ?_
 refine DF ?_
 refine vds (mone rfl) (vst1 rfl rfl rfl rfl) rfl ?_
 refine DC ?_
 refine DF ?_
 refine DF ?_
 refine vds (mone rfl) (vst1 rfl rfl rfl rfl) rfl ?_
 refine vdend rfl ?_
 refine vend (vr0 (H' := [(b, _)]) Tryz.func270 rfl  sb ?_)
 exact ⟨rfl, rfl⟩
theorem h_oct2 (a r : Rg) (n hf : Int) (ha : a.sm 65536) (hn : 0 ≤ n ∧ n ≤ 65536) (hh : 0 ≤ hf ∧ hf ≤ 65536) (b : Nat) : VHas Tryz.prog 271 [vCn a n hf, ptr b] (tup []) ([(b, blk (clR r) 134)]) ([(b, blk (clR (⟨dn r.x a.x.hi, up r.y (a.y.lo + hf), up r.s a.s.lo, dn r.d (a.d.hi - n)⟩ : Rg)) 134)]) := by
 unfold Rg.sm Bd.sm at ha
 refine CV 66 Tryz.func271 ?_
 refine KK2 (BX fun b1 => (vnil (vseq ?_)))
 refine vdraw1 (d := 1) rfl [(.q, 0), (.q, 1), (.q, 2), (.q, 3), (.q, 4), (.q, 5), (.q, 7), (.q, 8), (.q, 9), (.q, 10), (.q, 12), (.q, 13), (.q, 14), (.q, 15), (.q, 17), (.q, 18), (.q, 19), (.q, 20), (.n, 6), (.q, 11), (.n, 16), (.q, 21), (.q, 22), (.q, 23), (.q, 24), (.s, 25), (.q, 26), (.q, 27), (.q, 28), (.s, 29)] Tryz.mixed (by kernel_rfl) (allocOk_of _ (by kernel_rfl)) ?_
 refine DM ?_
 refine DM ?_
 refine DM ?_
 refine DC ?_
 refine DF ?_
 refine DF ?_
 refine DF ?_
 refine DF ?_
 refine DF ?_
 refine DL ?_
 refine DM ?_
 refine DC ?_
 refine DF ?_
 refine DF ?_
 refine DF ?_
 refine DF ?_
 refine DF ?_
 refine DL ?_
 refine vdn rfl (mone rfl) (vld1 rfl rfl) rfl rfl ?_
 refine DD (vmin2 rfl rfl) rfl ?_
 refine vdn rfl (mone rfl) (vld1 rfl rfl) rfl rfl ?_
 refine DD (vmax2 rfl rfl) rfl ?_
 refine DC ?_
 refine DF ?_
 refine DF ?_
 refine vds (mone rfl) (vst1 rfl rfl rfl rfl) rfl ?_
 refine DC ?_
 refine DF ?_
 refine DF ?_
 refine vds (mone rfl) (vst1 rfl rfl rfl rfl) rfl ?_
 refine vdend rfl ?_
 refine vdraw1 (d := 1) rfl [(.q, 0), (.q, 1), (.q, 2), (.q, 3), (.q, 4), (.q, 5), (.q, 7), (.q, 8), (.q, 9), (.q, 10), (.q, 11), (.q, 12), (.q, 13), (.q, 15), (.q, 16), (.q, 17), (.q, 18), (.q, 20), (.q, 21), (.q, 22), (.q, 23), (.q, 24), (.q, 25), (.q, 26), (.n, 6), (.q, 14), (.n, 19), (.q, 27), (.q, 28), (.q, 29), (.q, 30), (.s, 31), (.q, 32), (.q, 33), (.q, 34), (.s, 35)] Tryz.mixed (by kernel_rfl) (allocOk_of _ (by kernel_rfl)) ?_
 refine DM ?_
 refine DM ?_
 refine DM ?_
 refine DC ?_
 refine DF ?_
 refine DF ?_
 refine DF ?_
 refine DF ?_
 refine DF ?_
 refine DL ?_
 refine DF ?_
 refine DL ?_
 refine DD (vadd rfl rfl (by unfold InR; omega)) rfl ?_
 refine DM ?_
 refine DC ?_
 refine DF ?_
 refine DF ?_
 refine DF ?_
 refine DF ?_
 refine DF ?_
 refine DL ?_
 refine DF ?_
 refine DL ?_
 refine DD (vsub rfl rfl (by unfold InR; omega)) rfl ?_
 refine vdn rfl (mone rfl) (vld1 rfl rfl) rfl rfl ?_
 refine DD (vmax2 rfl rfl) rfl ?_
 refine vdn rfl (mone rfl) (vld1 rfl rfl) rfl rfl ?_
 refine DD (vmin2 rfl rfl) rfl ?_
 refine DC ?_
 refine DF ?_
 refine DF ?_
 refine vds (mone rfl) (vst1 rfl rfl rfl rfl) rfl ?_
 refine DC ?_
 refine DF ?_
 refine DF ?_
 refine vds (mone rfl) (vst1 rfl rfl rfl rfl) rfl ?_
 refine vdend rfl ?_
 refine vend (vr0 (H' := [(b, _)]) Tryz.func271 rfl  sb ?_)
 exact ⟨rfl, rfl⟩
theorem h_oct3 (a r : Rg) (n hf : Int) (ha : a.sm 65536) (hn : 0 ≤ n ∧ n ≤ 65536) (hh : 0 ≤ hf ∧ hf ≤ 65536) (b : Nat) : VHas Tryz.prog 272 [vCn a n hf, ptr b] (tup []) ([(b, blk (clR r) 134)]) ([(b, blk (clR (⟨dn r.x (a.x.hi - hf), up r.y a.y.lo, dn r.s a.s.hi, dn r.d (a.d.hi - n)⟩ : Rg)) 134)]) := by
 unfold Rg.sm Bd.sm at ha
 refine CV 66 Tryz.func272 ?_
 refine KK2 (BX fun b1 => (vnil (vseq ?_)))
 refine vdraw1 (d := 1) rfl [(.q, 0), (.q, 1), (.q, 2), (.q, 3), (.q, 4), (.q, 5), (.q, 7), (.q, 8), (.q, 9), (.q, 10), (.q, 12), (.q, 13), (.q, 14), (.q, 15), (.q, 17), (.q, 18), (.q, 19), (.q, 20), (.n, 6), (.q, 11), (.n, 16), (.q, 21), (.q, 22), (.q, 23), (.q, 24), (.s, 25), (.q, 26), (.q, 27), (.q, 28), (.s, 29)] Tryz.mixed (by kernel_rfl) (allocOk_of _ (by kernel_rfl)) ?_
 refine DM ?_
 refine DM ?_
 refine DM ?_
 refine DC ?_
 refine DF ?_
 refine DF ?_
 refine DF ?_
 refine DF ?_
 refine DF ?_
 refine DL ?_
 refine DM ?_
 refine DC ?_
 refine DF ?_
 refine DF ?_
 refine DF ?_
 refine DF ?_
 refine DF ?_
 refine DL ?_
 refine vdn rfl (mone rfl) (vld1 rfl rfl) rfl rfl ?_
 refine DD (vmax2 rfl rfl) rfl ?_
 refine vdn rfl (mone rfl) (vld1 rfl rfl) rfl rfl ?_
 refine DD (vmin2 rfl rfl) rfl ?_
 refine DC ?_
 refine DF ?_
 refine DF ?_
 refine vds (mone rfl) (vst1 rfl rfl rfl rfl) rfl ?_
 refine DC ?_
 refine DF ?_
 refine DF ?_
 refine vds (mone rfl) (vst1 rfl rfl rfl rfl) rfl ?_
 refine vdend rfl ?_
 refine vdraw1 (d := 1) rfl [(.q, 0), (.q, 1), (.q, 2), (.q, 3), (.q, 4), (.q, 5), (.q, 7), (.q, 8), (.q, 9), (.q, 10), (.q, 11), (.q, 12), (.q, 13), (.q, 15), (.q, 16), (.q, 17), (.q, 18), (.q, 20), (.q, 21), (.q, 22), (.q, 23), (.q, 24), (.q, 25), (.q, 26), (.n, 6), (.q, 14), (.n, 19), (.q, 27), (.q, 28), (.q, 29), (.q, 30), (.s, 31), (.q, 32), (.q, 33), (.q, 34), (.s, 35)] Tryz.mixed (by kernel_rfl) (allocOk_of _ (by kernel_rfl)) ?_
 refine DM ?_
 refine DM ?_
 refine DM ?_
 refine DC ?_
 refine DF ?_
 refine DF ?_
 refine DF ?_
 refine DF ?_
 refine DF ?_
 refine DL ?_
 refine DF ?_
 refine DL ?_
 refine DD (vsub rfl rfl (by unfold InR; omega)) rfl ?_
 refine DM ?_
 refine DC ?_
 refine DF ?_
 refine DF ?_
 refine DF ?_
 refine DF ?_
 refine DF ?_
 refine DL ?_
 refine DF ?_
 refine DL ?_
 refine DD (vsub rfl rfl (by unfold InR; omega)) rfl ?_
 refine vdn rfl (mone rfl) (vld1 rfl rfl) rfl rfl ?_
 refine DD (vmin2 rfl rfl) rfl ?_
 refine vdn rfl (mone rfl) (vld1 rfl rfl) rfl rfl ?_
 refine DD (vmin2 rfl rfl) rfl ?_
 refine DC ?_
 refine DF ?_
 refine DF ?_
 refine vds (mone rfl) (vst1 rfl rfl rfl rfl) rfl ?_
 refine DC ?_
 refine DF ?_
 refine DF ?_
 refine vds (mone rfl) (vst1 rfl rfl rfl rfl) rfl ?_
 refine vdend rfl ?_
 refine vend (vr0 (H' := [(b, _)]) Tryz.func272 rfl  sb ?_)
 exact ⟨rfl, rfl⟩
theorem h_oct4 (a r : Rg) (n hf : Int) (ha : a.sm 65536) (hn : 0 ≤ n ∧ n ≤ 65536) (hh : 0 ≤ hf ∧ hf ≤ 65536) (b : Nat) : VHas Tryz.prog 273 [vCn a n hf, ptr b] (tup []) ([(b, blk (clR r) 134)]) ([(b, blk (clR (⟨dn r.x (a.x.hi - hf), dn r.y a.y.hi, dn r.s (a.s.hi - n), dn r.d a.d.hi⟩ : Rg)) 134)]) := by
 unfold Rg.sm Bd.sm at ha
 refine CV 66 Tryz.func273 ?_
 refine KK2 (BX fun b1 => (vnil (vseq ?_)))
 refine vdraw1 (d := 1) rfl [(.q, 0), (.q, 1), (.q, 2), (.q, 3), (.q, 4), (.q, 5), (.q, 7), (.q, 8), (.q, 9), (.q, 10), (.q, 12), (.q, 13), (.q, 14), (.q, 15), (.q, 17), (.q, 18), (.q, 19), (.q, 20), (.n, 6), (.q, 11), (.n, 16), (.q, 21), (.q, 22), (.q, 23), (.q, 24), (.s, 25), (.q, 26), (.q, 27), (.q, 28), (.s, 29)] Tryz.mixed (by kernel_rfl) (allocOk_of _ (by kernel_rfl)) ?_
 refine DM ?_
 refine DM ?_
 refine DM ?_
 refine DC ?_
 refine DF ?_
 refine DF ?_
 refine DF ?_
 refine DF ?_
 refine DF ?_
 refine DL ?_
 refine DM ?_
 refine DC ?_
 refine DF ?_
 refine DF ?_
 refine DF ?_
 refine DF ?_
 refine DF ?_
 refine DL ?_
 refine vdn rfl (mone rfl) (vld1 rfl rfl) rfl rfl ?_
 refine DD (vmin2 rfl rfl) rfl ?_
 refine vdn rfl (mone rfl) (vld1 rfl rfl) rfl rfl ?_
 refine DD (vmin2 rfl rfl) rfl ?_
 refine DC ?_
 refine DF ?_
 refine DF ?_
 refine vds (mone rfl) (vst1 rfl rfl rfl rfl) rfl ?_
 refine DC ?_
 refine DF ?_
 refine DF ?_
 refine vds (mone rfl) (vst1 rfl rfl rfl rfl) rfl ?_
 refine vdend rfl ?_
 refine vdraw1 (d := 1) rfl [(.q, 0), (.q, 1), (.q, 2), (.q, 3), (.q, 4), (.q, 5), (.q, 7), (.q, 8), (.q, 9), (.q, 10), (.q, 11), (.q, 12), (.q, 13), (.q, 15), (.q, 16), (.q, 17), (.q, 18), (.q, 20), (.q, 21), (.q, 22), (.q, 23), (.q, 24), (.q, 25), (.q, 26), (.n, 6), (.q, 14), (.n, 19), (.q, 27), (.q, 28), (.q, 29), (.q, 30), (.s, 31), (.q, 32), (.q, 33), (.q, 34), (.s, 35)] Tryz.mixed (by kernel_rfl) (allocOk_of _ (by kernel_rfl)) ?_
 refine DM ?_
 refine DM ?_
 refine DM ?_
 refine DC ?_
 refine DF ?_
 refine DF ?_
 refine DF ?_
 refine DF ?_
 refine DF ?_
 refine DL ?_
 refine DF ?_
 refine DL ?_
 refine DD (vsub rfl rfl (by unfold InR; omega)) rfl ?_
 refine DM ?_
 refine DC ?_
 refine DF ?_
 refine DF ?_
 refine DF ?_
 refine DF ?_
 refine DF ?_
 refine DL ?_
 refine DF ?_
 refine DL ?_
 refine DD (vsub rfl rfl (by unfold InR; omega)) rfl ?_
 refine vdn rfl (mone rfl) (vld1 rfl rfl) rfl rfl ?_
 refine DD (vmin2 rfl rfl) rfl ?_
 refine vdn rfl (mone rfl) (vld1 rfl rfl) rfl rfl ?_
 refine DD (vmin2 rfl rfl) rfl ?_
 refine DC ?_
 refine DF ?_
 refine DF ?_
 refine vds (mone rfl) (vst1 rfl rfl rfl rfl) rfl ?_
 refine DC ?_
 refine DF ?_
 refine DF ?_
 refine vds (mone rfl) (vst1 rfl rfl rfl rfl) rfl ?_
 refine vdend rfl ?_
 refine vend (vr0 (H' := [(b, _)]) Tryz.func273 rfl  sb ?_)
 exact ⟨rfl, rfl⟩
theorem h_oct5 (a r : Rg) (n hf : Int) (ha : a.sm 65536) (hn : 0 ≤ n ∧ n ≤ 65536) (hh : 0 ≤ hf ∧ hf ≤ 65536) (b : Nat) : VHas Tryz.prog 274 [vCn a n hf, ptr b] (tup []) ([(b, blk (clR r) 134)]) ([(b, blk (clR (⟨dn r.x a.x.hi, dn r.y (a.y.hi - hf), dn r.s (a.s.hi - n), up r.d a.d.lo⟩ : Rg)) 134)]) := by
 unfold Rg.sm Bd.sm at ha
 refine CV 66 Tryz.func274 ?_
 refine KK2 (BX fun b1 => (vnil (vseq ?_)))
 refine vdraw1 (d := 1) rfl [(.q, 0), (.q, 1), (.q, 2), (.q, 3), (.q, 4), (.q, 5), (.q, 7), (.q, 8), (.q, 9), (.q, 10), (.q, 12), (.q, 13), (.q, 14), (.q, 15), (.q, 17), (.q, 18), (.q, 19), (.q, 20), (.n, 6), (.q, 11), (.n, 16), (.q, 21), (.q, 22), (.q, 23), (.q, 24), (.s, 25), (.q, 26), (.q, 27), (.q, 28), (.s, 29)] Tryz.mixed (by kernel_rfl) (allocOk_of _ (by kernel_rfl)) ?_
 refine DM ?_
 refine DM ?_
 refine DM ?_
 refine DC ?_
 refine DF ?_
 refine DF ?_
 refine DF ?_
 refine DF ?_
 refine DF ?_
 refine DL ?_
 refine DM ?_
 refine DC ?_
 refine DF ?_
 refine DF ?_
 refine DF ?_
 refine DF ?_
 refine DF ?_
 refine DL ?_
 refine vdn rfl (mone rfl) (vld1 rfl rfl) rfl rfl ?_
 refine DD (vmin2 rfl rfl) rfl ?_
 refine vdn rfl (mone rfl) (vld1 rfl rfl) rfl rfl ?_
 refine DD (vmax2 rfl rfl) rfl ?_
 refine DC ?_
 refine DF ?_
 refine DF ?_
 refine vds (mone rfl) (vst1 rfl rfl rfl rfl) rfl ?_
 refine DC ?_
 refine DF ?_
 refine DF ?_
 refine vds (mone rfl) (vst1 rfl rfl rfl rfl) rfl ?_
 refine vdend rfl ?_
 refine vdraw1 (d := 1) rfl [(.q, 0), (.q, 1), (.q, 2), (.q, 3), (.q, 4), (.q, 5), (.q, 7), (.q, 8), (.q, 9), (.q, 10), (.q, 11), (.q, 12), (.q, 13), (.q, 15), (.q, 16), (.q, 17), (.q, 18), (.q, 20), (.q, 21), (.q, 22), (.q, 23), (.q, 24), (.q, 25), (.q, 26), (.n, 6), (.q, 14), (.n, 19), (.q, 27), (.q, 28), (.q, 29), (.q, 30), (.s, 31), (.q, 32), (.q, 33), (.q, 34), (.s, 35)] Tryz.mixed (by kernel_rfl) (allocOk_of _ (by kernel_rfl)) ?_
 refine DM ?_
 refine DM ?_
 refine DM ?_
 refine DC ?_
 refine DF ?_
 refine DF ?_
 refine DF ?_
 refine DF ?_
 refine DF ?_
 refine DL ?_
 refine DF ?_
 refine DL ?_
 refine DD (vsub rfl rfl (by unfold InR; omega)) rfl ?_
 refine DM ?_
 refine DC ?_
 refine DF ?_
 refine DF ?_
 refine DF ?_
 refine DF ?_
 refine DF ?_
 refine DL ?_
 refine DF ?_
 refine DL ?_
 refine DD (vsub rfl rfl (by unfold InR; omega)) rfl ?_
 refine vdn rfl (mone rfl) (vld1 rfl rfl) rfl rfl ?_
 refine DD (vmin2 rfl rfl) rfl ?_
 refine vdn rfl (mone rfl) (vld1 rfl rfl) rfl rfl ?_
 refine DD (vmin2 rfl rfl) rfl ?_
 refine DC ?_
 refine DF ?_
 refine DF ?_
 refine vds (mone rfl) (vst1 rfl rfl rfl rfl) rfl ?_
 refine DC ?_
 refine DF ?_
 refine DF ?_
 refine vds (mone rfl) (vst1 rfl rfl rfl rfl) rfl ?_
 refine vdend rfl ?_
 refine vend (vr0 (H' := [(b, _)]) Tryz.func274 rfl  sb ?_)
 exact ⟨rfl, rfl⟩
theorem h_oct6 (a r : Rg) (n hf : Int) (ha : a.sm 65536) (hn : 0 ≤ n ∧ n ≤ 65536) (hh : 0 ≤ hf ∧ hf ≤ 65536) (b : Nat) : VHas Tryz.prog 275 [vCn a n hf, ptr b] (tup []) ([(b, blk (clR r) 134)]) ([(b, blk (clR (⟨up r.x a.x.lo, dn r.y (a.y.hi - hf), dn r.s a.s.hi, up r.d (a.d.lo + n)⟩ : Rg)) 134)]) := by
 unfold Rg.sm Bd.sm at ha
 refine CV 66 Tryz.func275 ?_
 refine KK2 (BX fun b1 => (vnil (vseq ?_)))
 refine vdraw1 (d := 1) rfl [(.q, 0), (.q, 1), (.q, 2), (.q, 3), (.q, 4), (.q, 5), (.q, 7), (.q, 8), (.q, 9), (.q, 10), (.q, 12), (.q, 13), (.q, 14), (.q, 15), (.q, 17), (.q, 18), (.q, 19), (.q, 20), (.n, 6), (.q, 11), (.n, 16), (.q, 21), (.q, 22), (.q, 23), (.q, 24), (.s, 25), (.q, 26), (.q, 27), (.q, 28), (.s, 29)] Tryz.mixed (by kernel_rfl) (allocOk_of _ (by kernel_rfl)) ?_
 refine DM ?_
 refine DM ?_
 refine DM ?_
 refine DC ?_
 refine DF ?_
 refine DF ?_
 refine DF ?_
 refine DF ?_
 refine DF ?_
 refine DL ?_
 refine DM ?_
 refine DC ?_
 refine DF ?_
 refine DF ?_
 refine DF ?_
 refine DF ?_
 refine DF ?_
 refine DL ?_
 refine vdn rfl (mone rfl) (vld1 rfl rfl) rfl rfl ?_
 refine DD (vmax2 rfl rfl) rfl ?_
 refine vdn rfl (mone rfl) (vld1 rfl rfl) rfl rfl ?_
 refine DD (vmin2 rfl rfl) rfl ?_
 refine DC ?_
 refine DF ?_
 refine DF ?_
 refine vds (mone rfl) (vst1 rfl rfl rfl rfl) rfl ?_
 refine DC ?_
 refine DF ?_
 refine DF ?_
 refine vds (mone rfl) (vst1 rfl rfl rfl rfl) rfl ?_
 refine vdend rfl ?_
 refine vdraw1 (d := 1) rfl [(.q, 0), (.q, 1), (.q, 2), (.q, 3), (.q, 4), (.q, 5), (.q, 7), (.q, 8), (.q, 9), (.q, 10), (.q, 11), (.q, 12), (.q, 13), (.q, 15), (.q, 16), (.q, 17), (.q, 18), (.q, 20), (.q, 21), (.q, 22), (.q, 23), (.q, 24), (.q, 25), (.q, 26), (.n, 6), (.q, 14), (.n, 19), (.q, 27), (.q, 28), (.q, 29), (.q, 30), (.s, 31), (.q, 32), (.q, 33), (.q, 34), (.s, 35)] Tryz.mixed (by kernel_rfl) (allocOk_of _ (by kernel_rfl)) ?_
 refine DM ?_
 refine DM ?_
 refine DM ?_
 refine DC ?_
 refine DF ?_
 refine DF ?_
 refine DF ?_
 refine DF ?_
 refine DF ?_
 refine DL ?_
 refine DF ?_
 refine DL ?_
 refine DD (vsub rfl rfl (by unfold InR; omega)) rfl ?_
 refine DM ?_
 refine DC ?_
 refine DF ?_
 refine DF ?_
 refine DF ?_
 refine DF ?_
 refine DF ?_
 refine DL ?_
 refine DF ?_
 refine DL ?_
 refine DD (vadd rfl rfl (by unfold InR; omega)) rfl ?_
 refine vdn rfl (mone rfl) (vld1 rfl rfl) rfl rfl ?_
 refine DD (vmin2 rfl rfl) rfl ?_
 refine vdn rfl (mone rfl) (vld1 rfl rfl) rfl rfl ?_
 refine DD (vmax2 rfl rfl) rfl ?_
 refine DC ?_
 refine DF ?_
 refine DF ?_
 refine vds (mone rfl) (vst1 rfl rfl rfl rfl) rfl ?_
 refine DC ?_
 refine DF ?_
 refine DF ?_
 refine vds (mone rfl) (vst1 rfl rfl rfl rfl) rfl ?_
 refine vdend rfl ?_
 refine vend (vr0 (H' := [(b, _)]) Tryz.func275 rfl  sb ?_)
 exact ⟨rfl, rfl⟩
theorem h_oct7 (a r : Rg) (n hf : Int) (ha : a.sm 65536) (hn : 0 ≤ n ∧ n ≤ 65536) (hh : 0 ≤ hf ∧ hf ≤ 65536) (b : Nat) : VHas Tryz.prog 276 [vCn a n hf, ptr b] (tup []) ([(b, blk (clR r) 134)]) ([(b, blk (clR (⟨up r.x (a.x.lo + hf), dn r.y a.y.hi, up r.s a.s.lo, up r.d (a.d.lo + n)⟩ : Rg)) 134)]) := by
 unfold Rg.sm Bd.sm at ha
 refine CV 66 Tryz.func276 ?_
 refine KK2 (BX fun b1 => (vnil (vseq ?_)))
 refine vdraw1 (d := 1) rfl [(.q, 0), (.q, 1), (.q, 2), (.q, 3), (.q, 4), (.q, 5), (.q, 7), (.q, 8), (.q, 9), (.q, 10), (.q, 12), (.q, 13), (.q, 14), (.q, 15), (.q, 17), (.q, 18), (.q, 19), (.q, 20), (.n, 6), (.q, 11), (.n, 16), (.q, 21), (.q, 22), (.q, 23), (.q, 24), (.s, 25), (.q, 26), (.q, 27), (.q, 28), (.s, 29)] Tryz.mixed (by kernel_rfl) (allocOk_of _ (by kernel_rfl)) ?_
 refine DM ?_
 refine DM ?_
 refine DM ?_
 refine DC ?_
 refine DF ?_
 refine DF ?_
 refine DF ?_
 refine DF ?_
 refine DF ?_
 refine DL ?_
 refine DM ?_
 refine DC ?_
 refine DF ?_
 refine DF ?_
 refine DF ?_
 refine DF ?_
 refine DF ?_
 refine DL ?_
 refine vdn rfl (mone rfl) (vld1 rfl rfl) rfl rfl ?_
 refine DD (vmin2 rfl rfl) rfl ?_
 refine vdn rfl (mone rfl) (vld1 rfl rfl) rfl rfl ?_
 refine DD (vmax2 rfl rfl) rfl ?_
 refine DC ?_
 refine DF ?_
 refine DF ?_
 refine vds (mone rfl) (vst1 rfl rfl rfl rfl) rfl ?_
 refine DC ?_
 refine DF ?_
 refine DF ?_
 refine vds (mone rfl) (vst1 rfl rfl rfl rfl) rfl ?_
 refine vdend rfl ?_
 refine vdraw1 (d := 1) rfl [(.q, 0), (.q, 1), (.q, 2), (.q, 3), (.q, 4), (.q, 5), (.q, 7), (.q, 8), (.q, 9), (.q, 10), (.q, 11), (.q, 12), (.q, 13), (.q, 15), (.q, 16), (.q, 17), (.q, 18), (.q, 20), (.q, 21), (.q, 22), (.q, 23), (.q, 24), (.q, 25), (.q, 26), (.n, 6), (.q, 14), (.n, 19), (.q, 27), (.q, 28), (.q, 29), (.q, 30), (.s, 31), (.q, 32), (.q, 33), (.q, 34), (.s, 35)] Tryz.mixed (by kernel_rfl) (allocOk_of _ (by kernel_rfl)) ?_
 refine DM ?_
 refine DM ?_
 refine DM ?_
 refine DC ?_
 refine DF ?_
 refine DF ?_
 refine DF ?_
 refine DF ?_
 refine DF ?_
 refine DL ?_
 refine DF ?_
 refine DL ?_
 refine DD (vadd rfl rfl (by unfold InR; omega)) rfl ?_
 refine DM ?_
 refine DC ?_
 refine DF ?_
 refine DF ?_
 refine DF ?_
 refine DF ?_
 refine DF ?_
 refine DL ?_
 refine DF ?_
 refine DL ?_
 refine DD (vadd rfl rfl (by unfold InR; omega)) rfl ?_
 refine vdn rfl (mone rfl) (vld1 rfl rfl) rfl rfl ?_
 refine DD (vmax2 rfl rfl) rfl ?_
 refine vdn rfl (mone rfl) (vld1 rfl rfl) rfl rfl ?_
 refine DD (vmax2 rfl rfl) rfl ?_
 refine DC ?_
 refine DF ?_
 refine DF ?_
 refine vds (mone rfl) (vst1 rfl rfl rfl rfl) rfl ?_
 refine DC ?_
 refine DF ?_
 refine DF ?_
 refine vds (mone rfl) (vst1 rfl rfl rfl rfl) rfl ?_
 refine vdend rfl ?_
 refine vend (vr0 (H' := [(b, _)]) Tryz.func276 rfl  sb ?_)
 exact ⟨rfl, rfl⟩
theorem c_TightG {z : Rg} (h : smallR z) : VPure Tryz.prog 119 [vR z] (tup [vR (tgR z), I 0]) := by
  obtain ⟨h1, _, _, h4⟩ := h
  obtain ⟨t, ht⟩ := Option.isSome_iff_exists.1 h4
  have e : tightE z = (tgR z, 0) := by unfold tightE tgR; rw [if_pos h1, ht]; rfl
  have := c_Tight z
  rw [e] at this; exact this
theorem c_ReachG {r : Rg} {n : Int} (h : Tgt1 r) (hn : 0 ≤ n ∧ n ≤ 32768) : VPure Tryz.prog 174 [vR r, I n] (tup [vR (reachR r n), I 0]) := by
  obtain ⟨w, _, h2, h3, _⟩ := reach_good h hn
  have := c_Reach r n
  rw [h2] at this; rw [h3]; exact this
theorem small_tgt {z : Rg} (h : smallR z) : Tgt1 (tgR z) := by
  obtain ⟨t, ht⟩ := Option.isSome_iff_exists.1 h.2.2.2
  unfold tgR; rw [ht]; exact Tgt1.of ht h.1
theorem up_fits {b : Bd} {n l z : Int} (h : b.fits l) (hz : (up b n).lo ≤ z ∧ z ≤ (up b n).hi) : (up b n).fits l := by unfold Bd.fits up at *; simp only at *; omega
theorem dn_fits {b : Bd} {n l z : Int} (h : b.fits l) (hz : (dn b n).lo ≤ z ∧ z ≤ (dn b n).hi) : (dn b n).fits l := by unfold Bd.fits dn at *; simp only at *; omega
theorem cone_ok {r a : Rg} {oc n : Int} (hr : r.ok) {p : Pt} (hp : inR (coneR r a oc n) p) : (coneR r a oc n).ok := by
  have key : ∀ c : Rg, coneR r a oc n = c → inR c p → c.ok := by
    intro c hc hp
    obtain ⟨k1, k2, k3, k4⟩ := hr
    unfold coneR at hc
    repeat' split at hc
    all_goals
      subst hc
      obtain ⟨g1, g2, g3, g4⟩ := hp
      refine ⟨?_, ?_, ?_, ?_⟩ <;> first | exact up_fits (by assumption) (by assumption) | exact dn_fits (by assumption) (by assumption) | assumption
  exact key _ rfl hp
theorem sight_cone {s : Sc} {x : Sg} {c : Rg} (hc : coneR (reachR (tgR (atR s.ship x.st.toNat)) x.fr) (tgR (atR s.ship x.st.toNat)) x.oc x.nr = c) (hsm : smallR (atR s.ship x.st.toNat)) (hf : 0 ≤ x.fr ∧ x.fr ≤ 256) : (tightE c).1 = (sightP s x).getD zR ∧ decide ((tightE c).2 = 0) = (sightP s x).isSome := by
  have hrc := reach_tgt (small_tgt hsm) (show 0 ≤ x.fr ∧ x.fr ≤ 32768 by omega)
  subst hc
  unfold sightP
  by_cases h : (coneR (reachR (tgR (atR s.ship x.st.toNat)) x.fr) (tgR (atR s.ship x.st.toNat)) x.oc x.nr).ok
  · unfold tightE
    rw [if_pos h]
    cases ht : tightP (coneR (reachR (tgR (atR s.ship x.st.toNat)) x.fr) (tgR (atR s.ship x.st.toNat)) x.oc x.nr) with
    | none => exact ⟨rfl, rfl⟩
    | some t => exact ⟨rfl, rfl⟩
  · have hn : tightP (coneR (reachR (tgR (atR s.ship x.st.toNat)) x.fr) (tgR (atR s.ship x.st.toNat)) x.oc x.nr) = none := by
      rw [tight_none]
      exact fun p hp => h (cone_ok hrc.ok hp)
    unfold tightE
    rw [if_neg h, hn]
    exact ⟨rfl, rfl⟩
theorem sq_bd {n : Int} (h : 0 ≤ n ∧ n ≤ 512) : 0 ≤ n * n ∧ n * n ≤ 262144 := by
  have := mul_bd (a := n) (b := n) (m := 512) (by omega) (by omega); omega
theorem half_step {n h : Int} (h0 : 0 ≤ h) (hl : ∀ j, 0 ≤ j → j < h → 2 * j * j < n * n) (hb : 2 * h * h < n * n) : ∀ j, 0 ≤ j → j < h + 1 → 2 * j * j < n * n := fun j hj hlt => by
  by_cases e : j = h
  · subst e; exact hb
  · exact hl j hj (by omega)
theorem half_bd {n h : Int} (hn : 0 ≤ n) (h0 : 0 ≤ h) (hl : ∀ j, 0 ≤ j → j < h → 2 * j * j < n * n) : h ≤ n := by
  rcases Int.lt_or_le n h with h1 | h1
  · have := hl n hn h1
    have h2 := sq_nn n
    rw [Int.mul_assoc] at this; omega
  · exact h1
theorem oI2 {a b : Value} {c d : Bool} (h1 : a = b) (h2 : c = d) : Out.val (tup [a, .bool c]) = Out.val (tup [b, .bool d]) := by rw [h1, h2]
theorem c_sighted (h : SH) (s : Sc) (H : Heap) [hsc : ScO H h s] [hgl : Glob H] (st : Int) (nm : ByteArray) (oc nr fr : Int) (hst : 0 ≤ st ∧ st < s.ship.length) (hsm : smallR (atR s.ship st.toNat)) (hnr : 0 ≤ nr ∧ nr ≤ fr ∧ fr ≤ 256) (hoc : oc = 0 ∨ oc = 1 ∨ oc = 2 ∨ oc = 3 ∨ oc = 4 ∨ oc = 5 ∨ oc = 6 ∨ oc = 7 ∨ oc = -1) : VHas Tryz.prog 209 [vSc h s, vSg ⟨st, nm, oc, nr, fr⟩] (tup [vR ((sightP s ⟨st, nm, oc, nr, fr⟩).getD zR), .bool (sightP s ⟨st, nm, oc, nr, fr⟩).isSome]) (H) (H) := by
 have hbd := hsc.bd
 have hsq := sq_bd (n := nr) (by omega)
 obtain ⟨z, hz⟩ := get_of_lt s.ship (i := st.toNat) (by omega)
 have hza := atR_of hz
 rw [hza] at hsm
 have htg := small_tgt hsm
 have hsmb := htg.ok.sm
 refine CV 64 Tryz.func209 ?_
 refine KK2 (BX fun b1 => ?_)
 refine BX fun b2 => ?_
 refine AL fun b3 => ?_
 refine QA (KK3 ?_)
 refine QF ?_
 refine QF ?_
 refine QL ?_
 refine QF ?_
 refine QL ?_
 refine QQ (visg (enc := clR) rfl rfl (by omega) hz) rfl ?_
 refine QQ (vldS (enc := clR) rfl hz) rfl ?_
 refine QQ (vcp rfl rfl rfl (c_TightG hsm)) rfl ?_
 refine QM ?_
 refine QX ?_
 refine QX ?_
 refine AL fun b4 => ?_
 refine SN ?_
 refine QA (KK3 ?_)
 refine QN ?_
 refine QF ?_
 refine QL ?_
 refine QQ (vcp rfl rfl rfl (c_ReachG htg (by (try simp only); omega))) rfl ?_
 refine QM ?_
 refine QX ?_
 refine QX ?_
 refine AL fun b5 => ?_
 refine SN ?_
 refine QA (vnil (vseq (KK2 ?_)))
 refine QF ?_
 refine QL ?_
 refine QG (vnil ?_)
 refine vcondd rfl (fun h33 => ?_) (fun h33 => ?_)
 ·
  refine KK2 (QA (vnil (vseq (vblock ?_))))
  refine vwhile (σ := Int) (fun hf => (nr + 1 - hf).toNat) (fun hf => [(2, ptr b1), (3, ptr b2), (4, ptr b3), (6, ptr b4), (8, ptr b5), (10, I hf)]) (fun hf => (b5, blk (clR (reachR (tgR z) fr)) 134) :: (b4, blk (clR (tgR z)) 134) :: (b3, blk (clR zR) 134) :: (b2, blk (clSg ⟨st, nm, oc, nr, fr⟩) 301) :: (b1, blk (clSc h s) 109) :: H) (fun hf => 0 ≤ hf ∧ ∀ j, 0 ≤ j → j < hf → 2 * j * j < nr * nr) 0 ⟨by omega, fun j h1 h2 => by omega⟩ ⟨rfl, rfl, rfl, rfl, rfl, rfl, True.intro⟩ sb ?_
  rintro hf ⟨hf0, hfl⟩ IH
  change VRun _ _ _ _ _ [(2, ptr b1), (3, ptr b2), (4, ptr b3), (6, ptr b4), (8, ptr b5), (10, I hf)] _ ((b5, blk (clR (reachR (tgR z) fr)) 134) :: (b4, blk (clR (tgR z)) 134) :: (b3, blk (clR zR) 134) :: (b2, blk (clSg ⟨st, nm, oc, nr, fr⟩) 301) :: (b1, blk (clSc h s) 109) :: H) _
  have hfb := half_bd hnr.1 hf0 hfl
  have hq := sq_bd (n := hf) (by omega)
  have hqq : 2 * hf * hf = 2 * (hf * hf) := Int.mul_assoc _ _ _
  refine vseq (KK2 (QM ?_))
  refine QQ (vmul rfl rfl (by unfold InR; (try simp only); omega)) rfl ?_
  refine QM ?_
  refine QQ (vmul rfl rfl (by unfold InR; (try simp only); omega)) rfl ?_
  refine QF ?_
  refine QL ?_
  refine QF ?_
  refine QL ?_
  refine QQ (vmul rfl rfl (by unfold InR; (try simp only); omega)) rfl ?_
  refine QS (vnil ?_)
  refine vcondd rfl (fun h43 => ?_) (fun h43 => ?_)
  ·
   refine vskip (vblock (vregion (QM ?_)))
   refine QQ (vadd rfl rfl (by unfold InR; (try simp only); omega)) rfl ?_
   refine QA (vnil (vinblock ?_))
   exact vback (IH (hf + 1) ⟨by omega, half_step hf0 hfl h43⟩ (by show (_ : Int).toNat < (_ : Int).toNat; omega)) ⟨rfl, rfl, rfl, rfl, rfl, rfl, True.intro⟩ sb
  ·
   have hfe := halfP_eq hnr.1 hf0 (Int.not_lt.1 h43) hfl
   subst hfe
   refine vexit (k' := _) rfl ?_
   refine DR [(.q, 0), (.q, 1), (.q, 2), (.q, 3), (.q, 4), (.q, 5), (.q, 6), (.q, 7), (.q, 8), (.w, 9)] Tryz.mixed ?_
   refine DF ?_
   refine DL ?_
   rcases hoc with rfl | rfl | rfl | rfl | rfl | rfl | rfl | rfl | rfl
   ·
    refine DD (via rfl rfl (by (try simp only); omega)) rfl ?_
    refine DD (vglO rfl rfl) rfl ?_
    refine DN ?_
    refine DF ?_
    refine DL ?_
    refine DM ?_
    refine DB ?_
    refine vdw rfl (mone rfl) (vch rfl rfl rfl ((by first | exact (h_oct0 _ _ _ _ hsmb (by (try simp only); omega) (by omega) b5).at1 | exact (h_oct1 _ _ _ _ hsmb (by (try simp only); omega) (by omega) b5).at1 | exact (h_oct2 _ _ _ _ hsmb (by (try simp only); omega) (by omega) b5).at1 | exact (h_oct3 _ _ _ _ hsmb (by (try simp only); omega) (by omega) b5).at1 | exact (h_oct4 _ _ _ _ hsmb (by (try simp only); omega) (by omega) b5).at1 | exact (h_oct5 _ _ _ _ hsmb (by (try simp only); omega) (by omega) b5).at1 | exact (h_oct6 _ _ _ _ hsmb (by (try simp only); omega) (by omega) b5).at1 | exact (h_oct7 _ _ _ _ hsmb (by (try simp only); omega) (by omega) b5).at1))) rfl rfl ?_
    rintro _ _ ⟨rfl, rfl⟩
    refine vdend rfl (KK2 (QN ?_))
    refine QQ (vcp rfl rfl rfl (c_Tight _)) rfl ?_
    refine QM ?_
    refine QX ?_
    refine QX ?_
    refine AL fun b6 => ?_
    refine SN ?_
    refine QA (KK3 ?_)
    refine QN ?_
    refine QM ?_
    refine QE ?_
    refine SN ?_
    refine QA (vnil ?_)
    refine vret (vr2 (H' := H) Tryz.func209 rfl (.celln rfl rfl) (.tmp rfl) sb ?_)
    (have hh := sight_cone (s := s) (x := ⟨st, nm, 0, nr, fr⟩) rfl (by rw [hza]; exact hsm) (by (try simp only); omega); simp only [hza] at hh; exact ⟨oI2 (congrArg vR hh.1) hh.2, rfl⟩)
   ·
    refine DD (via rfl rfl (by (try simp only); omega)) rfl ?_
    refine DD (vglO rfl rfl) rfl ?_
    refine DN ?_
    refine DF ?_
    refine DL ?_
    refine DM ?_
    refine DB ?_
    refine vdw rfl (mone rfl) (vch rfl rfl rfl ((by first | exact (h_oct0 _ _ _ _ hsmb (by (try simp only); omega) (by omega) b5).at1 | exact (h_oct1 _ _ _ _ hsmb (by (try simp only); omega) (by omega) b5).at1 | exact (h_oct2 _ _ _ _ hsmb (by (try simp only); omega) (by omega) b5).at1 | exact (h_oct3 _ _ _ _ hsmb (by (try simp only); omega) (by omega) b5).at1 | exact (h_oct4 _ _ _ _ hsmb (by (try simp only); omega) (by omega) b5).at1 | exact (h_oct5 _ _ _ _ hsmb (by (try simp only); omega) (by omega) b5).at1 | exact (h_oct6 _ _ _ _ hsmb (by (try simp only); omega) (by omega) b5).at1 | exact (h_oct7 _ _ _ _ hsmb (by (try simp only); omega) (by omega) b5).at1))) rfl rfl ?_
    rintro _ _ ⟨rfl, rfl⟩
    refine vdend rfl (KK2 (QN ?_))
    refine QQ (vcp rfl rfl rfl (c_Tight _)) rfl ?_
    refine QM ?_
    refine QX ?_
    refine QX ?_
    refine AL fun b7 => ?_
    refine SN ?_
    refine QA (KK3 ?_)
    refine QN ?_
    refine QM ?_
    refine QE ?_
    refine SN ?_
    refine QA (vnil ?_)
    refine vret (vr2 (H' := H) Tryz.func209 rfl (.celln rfl rfl) (.tmp rfl) sb ?_)
    (have hh := sight_cone (s := s) (x := ⟨st, nm, 1, nr, fr⟩) rfl (by rw [hza]; exact hsm) (by (try simp only); omega); simp only [hza] at hh; exact ⟨oI2 (congrArg vR hh.1) hh.2, rfl⟩)
   ·
    refine DD (via rfl rfl (by (try simp only); omega)) rfl ?_
    refine DD (vglO rfl rfl) rfl ?_
    refine DN ?_
    refine DF ?_
    refine DL ?_
    refine DM ?_
    refine DB ?_
    refine vdw rfl (mone rfl) (vch rfl rfl rfl ((by first | exact (h_oct0 _ _ _ _ hsmb (by (try simp only); omega) (by omega) b5).at1 | exact (h_oct1 _ _ _ _ hsmb (by (try simp only); omega) (by omega) b5).at1 | exact (h_oct2 _ _ _ _ hsmb (by (try simp only); omega) (by omega) b5).at1 | exact (h_oct3 _ _ _ _ hsmb (by (try simp only); omega) (by omega) b5).at1 | exact (h_oct4 _ _ _ _ hsmb (by (try simp only); omega) (by omega) b5).at1 | exact (h_oct5 _ _ _ _ hsmb (by (try simp only); omega) (by omega) b5).at1 | exact (h_oct6 _ _ _ _ hsmb (by (try simp only); omega) (by omega) b5).at1 | exact (h_oct7 _ _ _ _ hsmb (by (try simp only); omega) (by omega) b5).at1))) rfl rfl ?_
    rintro _ _ ⟨rfl, rfl⟩
    refine vdend rfl (KK2 (QN ?_))
    refine QQ (vcp rfl rfl rfl (c_Tight _)) rfl ?_
    refine QM ?_
    refine QX ?_
    refine QX ?_
    refine AL fun b8 => ?_
    refine SN ?_
    refine QA (KK3 ?_)
    refine QN ?_
    refine QM ?_
    refine QE ?_
    refine SN ?_
    refine QA (vnil ?_)
    refine vret (vr2 (H' := H) Tryz.func209 rfl (.celln rfl rfl) (.tmp rfl) sb ?_)
    (have hh := sight_cone (s := s) (x := ⟨st, nm, 2, nr, fr⟩) rfl (by rw [hza]; exact hsm) (by (try simp only); omega); simp only [hza] at hh; exact ⟨oI2 (congrArg vR hh.1) hh.2, rfl⟩)
   ·
    refine DD (via rfl rfl (by (try simp only); omega)) rfl ?_
    refine DD (vglO rfl rfl) rfl ?_
    refine DN ?_
    refine DF ?_
    refine DL ?_
    refine DM ?_
    refine DB ?_
    refine vdw rfl (mone rfl) (vch rfl rfl rfl ((by first | exact (h_oct0 _ _ _ _ hsmb (by (try simp only); omega) (by omega) b5).at1 | exact (h_oct1 _ _ _ _ hsmb (by (try simp only); omega) (by omega) b5).at1 | exact (h_oct2 _ _ _ _ hsmb (by (try simp only); omega) (by omega) b5).at1 | exact (h_oct3 _ _ _ _ hsmb (by (try simp only); omega) (by omega) b5).at1 | exact (h_oct4 _ _ _ _ hsmb (by (try simp only); omega) (by omega) b5).at1 | exact (h_oct5 _ _ _ _ hsmb (by (try simp only); omega) (by omega) b5).at1 | exact (h_oct6 _ _ _ _ hsmb (by (try simp only); omega) (by omega) b5).at1 | exact (h_oct7 _ _ _ _ hsmb (by (try simp only); omega) (by omega) b5).at1))) rfl rfl ?_
    rintro _ _ ⟨rfl, rfl⟩
    refine vdend rfl (KK2 (QN ?_))
    refine QQ (vcp rfl rfl rfl (c_Tight _)) rfl ?_
    refine QM ?_
    refine QX ?_
    refine QX ?_
    refine AL fun b9 => ?_
    refine SN ?_
    refine QA (KK3 ?_)
    refine QN ?_
    refine QM ?_
    refine QE ?_
    refine SN ?_
    refine QA (vnil ?_)
    refine vret (vr2 (H' := H) Tryz.func209 rfl (.celln rfl rfl) (.tmp rfl) sb ?_)
    (have hh := sight_cone (s := s) (x := ⟨st, nm, 3, nr, fr⟩) rfl (by rw [hza]; exact hsm) (by (try simp only); omega); simp only [hza] at hh; exact ⟨oI2 (congrArg vR hh.1) hh.2, rfl⟩)
   ·
    refine DD (via rfl rfl (by (try simp only); omega)) rfl ?_
    refine DD (vglO rfl rfl) rfl ?_
    refine DN ?_
    refine DF ?_
    refine DL ?_
    refine DM ?_
    refine DB ?_
    refine vdw rfl (mone rfl) (vch rfl rfl rfl ((by first | exact (h_oct0 _ _ _ _ hsmb (by (try simp only); omega) (by omega) b5).at1 | exact (h_oct1 _ _ _ _ hsmb (by (try simp only); omega) (by omega) b5).at1 | exact (h_oct2 _ _ _ _ hsmb (by (try simp only); omega) (by omega) b5).at1 | exact (h_oct3 _ _ _ _ hsmb (by (try simp only); omega) (by omega) b5).at1 | exact (h_oct4 _ _ _ _ hsmb (by (try simp only); omega) (by omega) b5).at1 | exact (h_oct5 _ _ _ _ hsmb (by (try simp only); omega) (by omega) b5).at1 | exact (h_oct6 _ _ _ _ hsmb (by (try simp only); omega) (by omega) b5).at1 | exact (h_oct7 _ _ _ _ hsmb (by (try simp only); omega) (by omega) b5).at1))) rfl rfl ?_
    rintro _ _ ⟨rfl, rfl⟩
    refine vdend rfl (KK2 (QN ?_))
    refine QQ (vcp rfl rfl rfl (c_Tight _)) rfl ?_
    refine QM ?_
    refine QX ?_
    refine QX ?_
    refine AL fun b10 => ?_
    refine SN ?_
    refine QA (KK3 ?_)
    refine QN ?_
    refine QM ?_
    refine QE ?_
    refine SN ?_
    refine QA (vnil ?_)
    refine vret (vr2 (H' := H) Tryz.func209 rfl (.celln rfl rfl) (.tmp rfl) sb ?_)
    (have hh := sight_cone (s := s) (x := ⟨st, nm, 4, nr, fr⟩) rfl (by rw [hza]; exact hsm) (by (try simp only); omega); simp only [hza] at hh; exact ⟨oI2 (congrArg vR hh.1) hh.2, rfl⟩)
   ·
    refine DD (via rfl rfl (by (try simp only); omega)) rfl ?_
    refine DD (vglO rfl rfl) rfl ?_
    refine DN ?_
    refine DF ?_
    refine DL ?_
    refine DM ?_
    refine DB ?_
    refine vdw rfl (mone rfl) (vch rfl rfl rfl ((by first | exact (h_oct0 _ _ _ _ hsmb (by (try simp only); omega) (by omega) b5).at1 | exact (h_oct1 _ _ _ _ hsmb (by (try simp only); omega) (by omega) b5).at1 | exact (h_oct2 _ _ _ _ hsmb (by (try simp only); omega) (by omega) b5).at1 | exact (h_oct3 _ _ _ _ hsmb (by (try simp only); omega) (by omega) b5).at1 | exact (h_oct4 _ _ _ _ hsmb (by (try simp only); omega) (by omega) b5).at1 | exact (h_oct5 _ _ _ _ hsmb (by (try simp only); omega) (by omega) b5).at1 | exact (h_oct6 _ _ _ _ hsmb (by (try simp only); omega) (by omega) b5).at1 | exact (h_oct7 _ _ _ _ hsmb (by (try simp only); omega) (by omega) b5).at1))) rfl rfl ?_
    rintro _ _ ⟨rfl, rfl⟩
    refine vdend rfl (KK2 (QN ?_))
    refine QQ (vcp rfl rfl rfl (c_Tight _)) rfl ?_
    refine QM ?_
    refine QX ?_
    refine QX ?_
    refine AL fun b11 => ?_
    refine SN ?_
    refine QA (KK3 ?_)
    refine QN ?_
    refine QM ?_
    refine QE ?_
    refine SN ?_
    refine QA (vnil ?_)
    refine vret (vr2 (H' := H) Tryz.func209 rfl (.celln rfl rfl) (.tmp rfl) sb ?_)
    (have hh := sight_cone (s := s) (x := ⟨st, nm, 5, nr, fr⟩) rfl (by rw [hza]; exact hsm) (by (try simp only); omega); simp only [hza] at hh; exact ⟨oI2 (congrArg vR hh.1) hh.2, rfl⟩)
   ·
    refine DD (via rfl rfl (by (try simp only); omega)) rfl ?_
    refine DD (vglO rfl rfl) rfl ?_
    refine DN ?_
    refine DF ?_
    refine DL ?_
    refine DM ?_
    refine DB ?_
    refine vdw rfl (mone rfl) (vch rfl rfl rfl ((by first | exact (h_oct0 _ _ _ _ hsmb (by (try simp only); omega) (by omega) b5).at1 | exact (h_oct1 _ _ _ _ hsmb (by (try simp only); omega) (by omega) b5).at1 | exact (h_oct2 _ _ _ _ hsmb (by (try simp only); omega) (by omega) b5).at1 | exact (h_oct3 _ _ _ _ hsmb (by (try simp only); omega) (by omega) b5).at1 | exact (h_oct4 _ _ _ _ hsmb (by (try simp only); omega) (by omega) b5).at1 | exact (h_oct5 _ _ _ _ hsmb (by (try simp only); omega) (by omega) b5).at1 | exact (h_oct6 _ _ _ _ hsmb (by (try simp only); omega) (by omega) b5).at1 | exact (h_oct7 _ _ _ _ hsmb (by (try simp only); omega) (by omega) b5).at1))) rfl rfl ?_
    rintro _ _ ⟨rfl, rfl⟩
    refine vdend rfl (KK2 (QN ?_))
    refine QQ (vcp rfl rfl rfl (c_Tight _)) rfl ?_
    refine QM ?_
    refine QX ?_
    refine QX ?_
    refine AL fun b12 => ?_
    refine SN ?_
    refine QA (KK3 ?_)
    refine QN ?_
    refine QM ?_
    refine QE ?_
    refine SN ?_
    refine QA (vnil ?_)
    refine vret (vr2 (H' := H) Tryz.func209 rfl (.celln rfl rfl) (.tmp rfl) sb ?_)
    (have hh := sight_cone (s := s) (x := ⟨st, nm, 6, nr, fr⟩) rfl (by rw [hza]; exact hsm) (by (try simp only); omega); simp only [hza] at hh; exact ⟨oI2 (congrArg vR hh.1) hh.2, rfl⟩)
   ·
    refine DD (via rfl rfl (by (try simp only); omega)) rfl ?_
    refine DD (vglO rfl rfl) rfl ?_
    refine DN ?_
    refine DF ?_
    refine DL ?_
    refine DM ?_
    refine DB ?_
    refine vdw rfl (mone rfl) (vch rfl rfl rfl ((by first | exact (h_oct0 _ _ _ _ hsmb (by (try simp only); omega) (by omega) b5).at1 | exact (h_oct1 _ _ _ _ hsmb (by (try simp only); omega) (by omega) b5).at1 | exact (h_oct2 _ _ _ _ hsmb (by (try simp only); omega) (by omega) b5).at1 | exact (h_oct3 _ _ _ _ hsmb (by (try simp only); omega) (by omega) b5).at1 | exact (h_oct4 _ _ _ _ hsmb (by (try simp only); omega) (by omega) b5).at1 | exact (h_oct5 _ _ _ _ hsmb (by (try simp only); omega) (by omega) b5).at1 | exact (h_oct6 _ _ _ _ hsmb (by (try simp only); omega) (by omega) b5).at1 | exact (h_oct7 _ _ _ _ hsmb (by (try simp only); omega) (by omega) b5).at1))) rfl rfl ?_
    rintro _ _ ⟨rfl, rfl⟩
    refine vdend rfl (KK2 (QN ?_))
    refine QQ (vcp rfl rfl rfl (c_Tight _)) rfl ?_
    refine QM ?_
    refine QX ?_
    refine QX ?_
    refine AL fun b13 => ?_
    refine SN ?_
    refine QA (KK3 ?_)
    refine QN ?_
    refine QM ?_
    refine QE ?_
    refine SN ?_
    refine QA (vnil ?_)
    refine vret (vr2 (H' := H) Tryz.func209 rfl (.celln rfl rfl) (.tmp rfl) sb ?_)
    (have hh := sight_cone (s := s) (x := ⟨st, nm, 7, nr, fr⟩) rfl (by rw [hza]; exact hsm) (by (try simp only); omega); simp only [hza] at hh; exact ⟨oI2 (congrArg vR hh.1) hh.2, rfl⟩)
   ·
    exact absurd rfl h33
 ·
  refine vskip (KK2 (QN ?_))
  refine QQ (vcp rfl rfl rfl (c_Tight _)) rfl ?_
  refine QM ?_
  refine QX ?_
  refine QX ?_
  refine AL fun b14 => ?_
  refine SN ?_
  refine QA (KK3 ?_)
  refine QN ?_
  refine QM ?_
  refine QE ?_
  refine SN ?_
  refine QA (vnil ?_)
  refine vret (vr2 (H' := H) Tryz.func209 rfl (.celln rfl rfl) (.tmp rfl) sb ?_)
  (have e := Classical.not_not.1 h33; subst e; have hh := sight_cone (s := s) (x := ⟨st, nm, (-1), nr, fr⟩) rfl (by rw [hza]; exact hsm) (by (try simp only); omega); simp only [hza] at hh; exact ⟨oI2 (congrArg vR hh.1) hh.2, rfl⟩)
end Go.Proofs.YtoebpndlbldfcaaGreatDoor
namespace Go.Proofs.YtoebpndlbldfcaaGreatDoor
open Go
set_option maxRecDepth 100000
attribute [local irreducible] tightP hullP rootP farP rows endsOf
theorem okSc.sight {s : Sc} (h : okSc s) {i : Nat} {x : Sg} (hx : s.sg[i]? = some x) : (0 ≤ x.st ∧ x.st < s.ship.length) ∧ smallR (atR s.ship x.st.toNat) ∧ (0 ≤ x.nr ∧ x.nr ≤ x.fr ∧ x.fr ≤ 256) ∧ (x.oc = 0 ∨ x.oc = 1 ∨ x.oc = 2 ∨ x.oc = 3 ∨ x.oc = 4 ∨ x.oc = 5 ∨ x.oc = 6 ∨ x.oc = 7 ∨ x.oc = -1) := by
  obtain ⟨h1, h2, h3, h4, h5, h6, h7, h8, h9⟩ := h
  obtain ⟨g1, g2, g3, g4⟩ := h8 x (List.mem_of_getElem? hx)
  exact ⟨g1, h6 _ (atR_mem (by omega)), g3, by omega⟩
structure LH where
  sh : SH
  da : Option Addr
  dc : Nat
abbrev clLg (L : LH) (g : Lg) : List Value := [.slice L.sh.a1 g.s.ship.length L.sh.c1, .slice L.sh.a2 g.s.src.length L.sh.c2, .slice L.sh.a3 g.s.eyes.length L.sh.c3, .slice L.sh.a4 g.s.ears.length L.sh.c4, .slice L.sh.a5 g.s.sg.length L.sh.c5, I g.w.zone, I g.w.speed, I g.w.hold, I g.w.pre, I g.w.delay, I g.w.soft, I g.w.pause, .slice L.da g.d.length L.dc]
abbrev vLg (L : LH) (g : Lg) : Value := .agg (clLg L g).toArray
class LgO (H : Heap) (L : LH) (g : Lg) : Prop where
  sc : ScO H L.sh g.s
  d : SlO H L.da 1 encB g.d
  cap : g.d.length ≤ L.dc
  w : okW g.w
  s : okSc g.s
  len : g.d.length = g.s.ship.length
theorem LgO.sub {H H' : Heap} {L : LH} {g : Lg} (hs : LgO H L g) (hm : ∀ e ∈ H, e ∈ H') : LgO H' L g := ⟨hs.sc.sub hm, hs.d.sub hm, hs.cap, hs.w, hs.s, hs.len⟩
instance (priority := low) LgO.tail {x : Nat × Obj} {H : Heap} {L : LH} {g : Lg} [hs : LgO H L g] : LgO (x :: H) L g := hs.sub fun e he => List.mem_cons_of_mem _ he
instance LgO.i1 {H : Heap} {L : LH} {g : Lg} [hs : LgO H L g] : ScO H L.sh g.s := hs.sc
instance LgO.i2 {H : Heap} {L : LH} {g : Lg} [hs : LgO H L g] : SlO H L.da 1 encB g.d := hs.d
theorem LgO.facts {H : Heap} {L : LH} {g : Lg} (hs : LgO H L g) : ((1 ≤ (g.s.ship.length : Int) ∧ (g.s.ship.length : Int) ≤ 64) ∧ g.s.src.length = g.s.ship.length ∧ g.s.eyes.length = g.s.ship.length ∧ g.s.ears.length = g.s.ship.length ∧ g.d.length = g.s.ship.length) ∧ okW g.w ∧ g.s.eyes.length ≤ L.sh.c3 ∧ g.s.ears.length ≤ L.sh.c4 ∧ g.d.length ≤ L.dc := by
  obtain ⟨h1, h2, h3, h4, _⟩ := hs.s
  exact ⟨⟨by omega, h2, h3, h4, hs.len⟩, hs.w, hs.sc.cap.1, hs.sc.cap.2, hs.cap⟩
theorem bAt_of {l : List Bool} {i : Int} {z : Bool} (h : l[i.toNat]? = some z) : bAt l i = z := by unfold bAt; rw [h]; rfl
theorem part_any (l : List Bool) (b : Bool) {lo hi : Int} (h0 : 0 ≤ lo) (h1 : lo ≤ hi) (h2 : hi ≤ l.length) : ((l.drop lo.toNat).take (hi - lo).toNat).any (fun z => b == z) = true ↔ ∃ j : Nat, (j : Int) < hi - lo ∧ bAt l (lo + j) = b := by
  rw [List.any_eq_true]
  constructor
  · rintro ⟨z, hz, he⟩
    obtain ⟨j, hj⟩ := List.getElem?_of_mem hz
    rw [List.getElem?_take] at hj
    split at hj
    · rw [List.getElem?_drop] at hj
      refine ⟨j, by omega, ?_⟩
      rw [bAt_of (z := z) (by rw [show (lo + (j : Int)).toNat = lo.toNat + j by omega]; exact hj)]
      exact (by simpa using he : b = z).symm
    · cases hj
  · rintro ⟨j, hj, he⟩
    obtain ⟨z, hz⟩ := get_of_lt l (i := (lo + j).toNat) (by omega)
    refine ⟨z, List.mem_of_getElem? (i := j) ?_, by rw [bAt_of hz] at he; simp [he]⟩
    rw [List.getElem?_take, if_pos (by omega), List.getElem?_drop, show lo.toNat + j = (lo + j).toNat by omega]; exact hz
theorem part_all {l : List Bool} {lo hi : Int} (h0 : 0 ≤ lo) (h1 : lo ≤ hi) (h2 : hi ≤ l.length) : (!((l.drop lo.toNat).take (hi - lo).toNat).any (fun z => false == z)) = allTr l lo hi := by
  have h := part_any l false h0 h1 h2
  rw [Bool.eq_iff_iff, Bool.not_eq_true']
  constructor
  · intro e
    unfold allTr
    rw [List.all_eq_true]
    intro j hj
    have hj := List.mem_range.1 hj
    cases hb : bAt l (lo + j) with
    | true => rfl
    | false => rw [h.2 ⟨j, by omega, hb⟩] at e; cases e
  · intro e
    unfold allTr at e
    rw [List.all_eq_true] at e
    cases ha : ((l.drop lo.toNat).take (hi - lo).toNat).any (fun z => false == z) with
    | false => rfl
    | true =>
      obtain ⟨j, h3, h4⟩ := h.1 ha
      have := e j (List.mem_range.2 (by omega))
      rw [h4] at this; cases this
theorem part_tr {l : List Bool} {lo hi : Int} (h0 : 0 ≤ lo) (h1 : lo ≤ hi) (h2 : hi ≤ l.length) : ((l.drop lo.toNat).take (hi - lo).toNat).any (fun z => true == z) = anyTr l lo hi := by
  rw [Bool.eq_iff_iff, part_any l true h0 h1 h2, anyTr_iff]
theorem any_take_snoc {l : List Bool} {b z : Bool} {i : Nat} (hz : l[i]? = some z) : (l.take (i + 1)).any (fun z => b == z) = ((l.take i).any (fun z => b == z) || (b == z)) := by
  rw [take_succ_of hz, List.any_append]; simp
theorem g_IndexB (l : List Bool) (b : Bool) (oa : Option Addr) (n c : Nat) (hn : l.length = n) (hmax : n ≤ 9223372036854775807) (H : Heap) [SlO H oa 1 encB l] : VCall Tryz.prog 144 [sli oa n c, .bool b].toArray H (fun o H' => ∃ r, o = .val (I r) ∧ (0 ≤ r ↔ l.any (fun z => b == z) = true) ∧ H' = H) := by
 refine CV 19 Tryz.func144 ?_
 refine KK2 (QA (vnil (vseq (KK2 ?_))))
 refine QM ?_
 refine QQ (vlen rfl) rfl ?_
 refine QM (vnil (vblock ?_))
 refine vwhile (σ := Int) (fun i => (n - i).toNat) (fun i => [(0, sli oa n c), (1, .bool b), (7, I n), (8, I i)]) (fun i => H) (fun i => (0 ≤ i ∧ i ≤ n) ∧ (l.take i.toNat).any (fun z => b == z) = false) 0 ⟨⟨by omega, by omega⟩, rfl⟩ ⟨rfl, rfl, rfl, rfl, True.intro⟩ sb ?_
 rintro i ⟨⟨hi0, hin⟩, hno⟩ IH
 change VRun _ _ _ _ _ [(0, sli oa n c), (1, .bool b), (7, I n), (8, I i)] _ (H) _
 refine KK2 (QS (vnil (vseq ?_)))
 refine vcondd rfl (fun h9 => ?_) (fun h9 => ?_)
 ·
  obtain ⟨z, hz⟩ := get_of_lt l (i := i.toNat) (by omega)
  refine vskip (vseq (vblock (KK2 (QM ?_))))
  refine QA (KK3 ?_)
  refine QM ?_
  refine QM ?_
  refine QM ?_
  refine QQ (visg (enc := encB) rfl rfl (by omega) hz) rfl ?_
  refine QQ (vldS1 (enc := encB) rfl hz rfl) rfl ?_
  refine QQ (veqb (by kernel_rfl) rfl rfl) rfl (vnil ?_)
  refine vcond rfl (fun h16 => ?_) (fun h16 => ?_)
  ·
   refine KK2 (QM ?_)
   refine QA (vnil ?_)
   refine vret (V1 (H) Tryz.func144 ?_)
   first | exact ⟨_, rfl, ⟨fun _ => List.any_eq_true.2 ⟨z, List.mem_of_getElem? hz, h16⟩, fun _ => hi0⟩, rfl⟩ | exact ⟨-1, rfl, ⟨fun h => absurd h (by omega), fun h => by
      rw [show i.toNat = l.length by omega, List.take_length] at hno
      rw [hno] at h; cases h⟩, rfl⟩
  ·
   refine vskip (vinblock (vregion (QQ (vadd rfl rfl (by unfold InR; omega)) rfl ?_)))
   refine QM (vnil ?_)
   exact vback (IH (i + 1) ⟨⟨by omega, by omega⟩, by rw [show (i + 1).toNat = i.toNat + 1 by omega, any_take_snoc hz, hno, h16]; rfl⟩ (by show (_ : Int).toNat < (_ : Int).toNat; omega)) ⟨rfl, rfl, rfl, rfl, True.intro⟩ sb
 ·
  refine vexit (k' := _) rfl ?_
  refine KK2 (QA (vnil ?_))
  refine vret (V1 (H) Tryz.func144 ?_)
  first | exact ⟨_, rfl, ⟨fun _ => List.any_eq_true.2 ⟨z, List.mem_of_getElem? hz, h16⟩, fun _ => hi0⟩, rfl⟩ | exact ⟨-1, rfl, ⟨fun h => absurd h (by omega), fun h => by
     rw [show i.toNat = l.length by omega, List.take_length] at hno
     rw [hno] at h; cases h⟩, rfl⟩
theorem q_ContainsB (l : List Bool) (b : Bool) (oa : Option Addr) (n c : Nat) (hn : l.length = n) (hmax : n ≤ 9223372036854775807) (H : Heap) [SlO H oa 1 encB l] : VHas Tryz.prog 106 [sli oa n c, .bool b] (.bool (l.any (fun z => b == z))) H H := by
 refine CV 9 Tryz.func106 ?_
 refine KK2 (QA (KK3 ?_))
 refine QM ?_
 refine QM ?_
 refine vone rfl (vxg (vcg (R := fun v H' => ∃ r, v = I r ∧ (0 ≤ r ↔ l.any (fun z => b == z) = true) ∧ H' = H) rfl rfl rfl (g_IndexB l b oa n c hn hmax _) (fun _ _ ⟨r, h1, h2, h3⟩ => ⟨_, h1, r, rfl, h2, h3⟩)) rfl rfl ?_)
 rintro _ _ ⟨r, rfl, hr, rfl⟩
 refine QQ (vgeq rfl rfl) rfl ?_
 refine QA (vnil ?_)
 refine vret (V1 (_) Tryz.func106 ?_)
 exact ⟨oV (by congr 1; rw [Bool.eq_iff_iff, decide_eq_true_iff]; exact hr), rfl⟩
theorem c_full (L : LH) (g : Lg) (hw : okW g.w) : VPure Tryz.prog 60 [vLg L g] (I (g.w.soft + 1)) := by
 unfold okW at hw
 intro H
 refine CV 7 Tryz.func60 ?_
 refine KK2 (BX fun b1 => ?_)
 refine QA (KK3 ?_)
 refine QF ?_
 refine QF ?_
 refine QL ?_
 refine QQ (vadd rfl rfl (by unfold InR; omega)) rfl ?_
 refine QA (vnil ?_)
 refine vret (V1 (H) Tryz.func60 ?_)
 exact ⟨rfl, rfl⟩
theorem c_watched (L : LH) (g : Lg) (H : Heap) [hlg : LgO H L g] (t : Int) (ht : 0 ≤ t ∧ t < g.s.ship.length) : VHas Tryz.prog 76 [vLg L g, I t] (.bool (lookB g t)) (H) (H) := by
 obtain ⟨hlen, hokw, hcap⟩ := hlg.facts
 unfold okW at hokw
 obtain ⟨z, hz⟩ := get_of_lt g.s.eyes (i := t.toNat) (by omega)
 obtain ⟨z2, hz2⟩ := get_of_lt g.s.ears (i := t.toNat) (by omega)
 refine CV 21 Tryz.func76 ?_
 refine KK2 (BX fun b1 => ?_)
 refine QA (KK3 ?_)
 refine QF ?_
 refine QF ?_
 refine QF ?_
 refine QL ?_
 refine QM ?_
 refine QQ (visg (enc := encB) rfl rfl (by omega) hz) rfl ?_
 refine QQ (vldS1 (enc := encB) rfl hz rfl) rfl ?_
 refine QM ?_
 refine vsplit (d := 12) rfl (fun h12 => ?_) (fun h12 => ?_)
 ·
  refine NO4 ?_
  refine NO3 ?_
  refine QT ?_
  refine QA (vnil ?_)
  refine vret (V1 (H) Tryz.func76 ?_)
  exact ⟨oV (by unfold lookB; rw [bAt_of hz, bAt_of hz2, h12]; rfl), rfl⟩
 ·
  refine YF ?_
  refine YF ?_
  refine YF ?_
  refine YL ?_
  refine YM ?_
  refine YY (visg (enc := encB) rfl rfl (by omega) hz2) rfl ?_
  refine YY (vldS1 (enc := encB) rfl hz2 rfl) rfl ?_
  refine QU ?_
  refine QA (vnil ?_)
  refine vret (V1 (H) Tryz.func76 ?_)
  exact ⟨oV (by unfold lookB; rw [bAt_of hz, bAt_of hz2, h12]; rfl), rfl⟩
theorem c_always (L : LH) (g : Lg) (hw : okW g.w) (l : List Bool) (oa : Option Addr) (c : Nat) (hc : l.length ≤ c) (H : Heap) [hsl : SlO H oa 1 encB l] (t : Int) (ht : g.w.pre ≤ t ∧ t ≤ l.length) (hl : l.length ≤ 64) : VHas Tryz.prog 105 [vLg L g, .slice oa l.length c, I t] (.bool (allTr l (t - g.w.pre) t)) (H) (H) := by
 unfold okW at hw
 refine CV 17 Tryz.func105 ?_
 refine KK2 (BX fun b1 => ?_)
 refine QA (KK3 ?_)
 refine QM ?_
 refine QM ?_
 refine QF ?_
 refine QF ?_
 refine QL ?_
 refine QQ (vsub rfl rfl (by unfold InR; omega)) rfl ?_
 refine QM ?_
 refine QQ (vslc rfl rfl rfl (by omega) (by omega) (by omega)) rfl ?_
 refine QQ (vcq rfl rfl rfl ((haveI := hsl.part (c := c) (l := (t - g.w.pre).toNat) (m := t.toNat) (by omega); q_ContainsB ((l.drop (t - g.w.pre).toNat).take (t.toNat - (t - g.w.pre).toNat)) false _ _ _ (by rw [List.length_take, List.length_drop]; omega) (by omega) _))) rfl ?_
 refine QQ (vnot rfl) rfl ?_
 refine QA (vnil ?_)
 refine vret (V1 (H) Tryz.func105 ?_)
 exact ⟨oV (by congr 1; rw [← part_all (by omega) (by omega) (by omega), show t.toNat - (t - g.w.pre).toNat = (t - (t - g.w.pre)).toNat by omega]), rfl⟩
end Go.Proofs.YtoebpndlbldfcaaGreatDoor
