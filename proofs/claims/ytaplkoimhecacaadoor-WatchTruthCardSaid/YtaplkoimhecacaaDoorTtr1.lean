/-
  What the base lacks. Walks of the laws' helpers: Rest, Pick, square, swum. What those on the ship see, in plain Lean. Walks of the laws' own small functions: full, led. The walk of WatchNearer. What single scenes come to, in plain Lean. What those on the ship see, as a function, and what it keeps, in plain Lean. What is seen is true: the theorem of the layer, in plain Lean. Walks of the helpers of what is seen: around, octant, swum and square with wrapped numbers, Has. The walk of seen. The walk of WatchGuarded.
-/
import Derived.Test.YtaplkoimhecacaaDoorTu01
import Derived.Test.YtaplkoimhecacaaDoorTu02
import Derived.Test.YtaplkoimhecacaaDoorTu03
import Derived.Test.YtaplkoimhecacaaDoorTu04
import Derived.Test.YtaplkoimhecacaaDoorTu05
import Derived.Test.YtaplkoimhecacaaDoorTu06
import Derived.Test.YtaplkoimhecacaaDoorTu07
import Derived.Test.YtaplkoimhecacaaDoorTu08
import Derived.Test.YtaplkoimhecacaaDoorTu09
import Derived.Test.YtaplkoimhecacaaDoorTu10
import Derived.Test.YtaplkoimhecacaaDoorTu11
import Derived.Test.YtaplkoimhecacaaDoorTu12
import Derived.Test.YtaplkoimhecacaaDoorTu13
import Derived.Test.YtaplkoimhecacaaDoorTu14
import Derived.Test.YtaplkoimhecacaaDoorTu15
import Derived.Test.YtaplkoimhecacaaDoorTu16
import Derived.Test.YtaplkoimhecacaaDoorTu17
import Derived.Test.YtaplkoimhecacaaDoorTu18
import Derived.Test.YtaplkoimhecacaaDoorTu19
import Derived.Test.YtaplkoimhecacaaDoorTu20
namespace Go.Proofs.YtaplkoimhecacaaDoor
open Go
set_option maxRecDepth 100000
section
open Go

variable {P : Program} {f : FuncId} {ro : Option Nat} {N : Nat} {k : List Item} {E : Env} {D : List Deferred} {H : Heap} {Q : Out → Heap → Prop}
variable {ops : Array Oper} {l : List Oper}

variable {d : Nat} {x y : Operand} {a b : Int} {T T' ty : TypeId} {pos : String} {af : Array Edge} {g : Option (Nat × Bool)}

theorem vaddw (hx : ev E x = some (.int .i64 a)) (hy : ev E y = some (.int .i64 b)) :
    OQ P N E D H ⟨some d, .binOp .add T x y T', ty, pos, af, g⟩ (.int .i64 (IntKind.i64.wrap (a + b))) :=
  ov (by simp) (fun t w hA _ => by simp [execOp, ev_eval hA hx, ev_eval hA hy, binOp, eqGuard, Op.intArith])
theorem vsubw (hx : ev E x = some (.int .i64 a)) (hy : ev E y = some (.int .i64 b)) :
    OQ P N E D H ⟨some d, .binOp .sub T x y T', ty, pos, af, g⟩ (.int .i64 (IntKind.i64.wrap (a - b))) :=
  ov (by simp) (fun t w hA _ => by simp [execOp, ev_eval hA hx, ev_eval hA hy, binOp, eqGuard, Op.intArith])
theorem vmulw (hx : ev E x = some (.int .i64 a)) (hy : ev E y = some (.int .i64 b)) :
    OQ P N E D H ⟨some d, .binOp .mul T x y T', ty, pos, af, g⟩ (.int .i64 (IntKind.i64.wrap (a * b))) :=
  ov (by simp) (fun t w hA _ => by simp [execOp, ev_eval hA hx, ev_eval hA hy, binOp, eqGuard, Op.intArith])
theorem vrem (hx : ev E x = some (.int .i64 a)) (hy : ev E y = some (.int .i64 b)) (hb : b ≠ 0) :
    OQ P N E D H ⟨some d, .binOp .rem T x y T', ty, pos, af, g⟩ (.int .i64 (a.tmod b)) :=
  ov (by simp) (fun t w hA _ => by simp [execOp, ev_eval hA hx, ev_eval hA hy, binOp, eqGuard, Op.intDiv, hb])
end
section
open Go

variable {P : Program} {f : FuncId} {ro : Option Nat} {N : Nat} {k : List Item} {E : Env} {D : List Deferred} {H : Heap} {Q : Out → Heap → Prop}
variable {ops : Array Oper} {l : List Oper}
variable {d : Nat} {x y : Operand} {T ty : TypeId} {pos : String} {af : Array Edge} {g : Option (Nat × Bool)}

theorem veqs {cx cy : List Value} {xs ys : List Int} {n : Nat} {T' : TypeId} [hT : TEq P T n] (hx : ev E x = some (.agg cx.toArray)) (hy : ev E y = some (.agg cy.toArray)) (hix : intsOf cx = some xs) (hiy : intsOf cy = some ys)
    (hlx : Nat.beq xs.length n = true) (hly : Nat.beq ys.length n = true) :
    OQ P N E D H ⟨some d, .binOp .eql T x y T', ty, pos, af, g⟩ (.bool (decide (xs = ys))) :=
  ov (by simp) (fun t w hA hE => by
    have h1 := hT.grd .eql x y cx.toArray cy.toArray w
    have h2 := hT.eq xs ys w (Nat.eq_of_beq_eq_true hlx) (Nat.eq_of_beq_eq_true hly)
    rw [← intsOf_eq _ _ hix, ← intsOf_eq _ _ hiy] at h2
    simp only [execOp, ev_eval hA hx, ev_eval hA hy, Sem.run_bind, h1, Result.andThen, run_eql_struct, h2, Sem.run_pure])
end
section
open Go

variable {P : Program} {f : FuncId} {ro : Option Nat} {N : Nat} {k : List Item} {D : List Deferred} {Q : Out → Heap → Prop} {ops : Array Oper}

variable {E : Env} {G H : Heap} {l : List (Kd × Oper)}

/-- An operation that adds blocks. -/
theorem vdgl {o : Oper} {d : Nat} {R : Value → Heap → Prop} {M : Heap} (hM : appHO G H = some M) (hm : Met ops N E o) (h : OG P N E D M o (fun v H' => ∃ B, H' = B ++ M ∧ R v B)) (ho : o.dst = some d) (hN : Nat.blt d N = true) (hL : ∀ v B, R v B → VD P f ro N ops l k ((d, v) :: E) D (B ++ G) H Q) :
    VD P f ro N ops ((.g, o) :: l) k E D G H Q := by
  intro t hA
  have hM := appHO_eq _ _ _ hM
  subst hM
  refine ⟨hm t hA, (h.st hA).mono fun v H' hR => ?_⟩
  obtain ⟨B, rfl, hR⟩ := hR
  refine ⟨B, rfl, fun _ => hL v B hR _ ?_⟩
  have := agree_pu hA (D := D) (o := o.dst) (fun d' hd' => by rw [ho] at hd'; cases hd'; exact Nat.le_of_ble_eq_true hN) v
  rwa [ho] at this ⊢
end
section

def chkP (p : Pt) : Int := if p.ok then 0 else 10
end
section
open Go

variable {P : Program} {f : FuncId} {ro : Option Nat} {N : Nat} {k : List Item} {E : Env} {D : List Deferred} {H : Heap} {Q : Out → Heap → Prop}

variable {ops : Array Oper} {l : List Oper}
variable {d : Nat} {x y : Operand} {T ty : TypeId} {pos : String} {af : Array Edge} {g : Option (Nat × Bool)}

variable {lp : Nat} {rec : Loop} {I' : Heap → Prop} {Ix : Code → Heap → Prop} {H' : Heap}
theorem vremp {a b : Int} {T' : TypeId} (hx : ev E x = some (.int .i64 a)) (hy : ev E y = some (.int .i64 b)) (ha : 0 ≤ a) (hb : 0 < b) :
    OQ P N E D H ⟨some d, .binOp .rem T x y T', ty, pos, af, g⟩ (.int .i64 (a % b)) := by
  have e : a.tmod b = a % b := Int.tmod_eq_emod_of_nonneg ha
  rw [← e]
  exact vrem hx hy (by omega)

end
section

theorem chkP_zero {p : Pt} : chkP p = 0 ↔ p.ok := by unfold chkP; split <;> simp_all
theorem chkP_nz {p : Pt} : chkP p ≠ 0 ↔ ¬ p.ok := by rw [← chkP_zero]
theorem chkP_no {p : Pt} (h : ¬ p.ok) : chkP p = 10 := if_neg h
end
section
open Go

variable {P : Program} {f : FuncId} {ro : Option Nat} {N : Nat} {k : List Item} {E : Env} {D : List Deferred} {H : Heap} {Q : Out → Heap → Prop}
variable {ops : Array Oper} {l : List Oper}
variable {d : Nat} {x y : Operand} {T ty : TypeId} {pos : String} {af : Array Edge} {g : Option (Nat × Bool)}

theorem split_at {α : Type} {l : List α} {i : Nat} {z : α} (h : l[i]? = some z) : ∃ post, l = l.take i ++ z :: post := by
  refine ⟨l.drop (i + 1), ?_⟩
  have hlt := (List.getElem?_eq_some_iff.1 h).1
  have hge := (List.getElem?_eq_some_iff.1 h).2
  rw [← hge, ← List.drop_eq_getElem_cons hlt, List.take_append_drop]

end
section

def rootE (n : Int) : Int × Int := if 0 ≤ n ∧ n ≤ 1099511627776 then (rootP n, 0) else (0, 7)

end
section

def hasE (r : Rg) (p : Pt) : Bool × Int := if r.ok then (if p.ok then (decide (inR r p), 0) else (false, 10)) else (false, 11)
theorem has_in {r : Rg} {p : Pt} (h : r.ok) (hp : inR r p) : hasE r p = (true, 0) := by unfold hasE; rw [if_pos h, if_pos (ok_inR h hp), decide_eq_true hp]

end
section

theorem tmod_emod {n m : Int} (hm : 0 < m) : (if n.tmod m < 0 then n.tmod m + m else n.tmod m) = n % m := by
  rcases Int.le_total 0 n with h0 | h0
  · have h1 := Int.tmod_nonneg m h0
    rw [if_neg (by omega), Int.tmod_eq_emod_of_nonneg h0]
  · have h1 : 0 ≤ (-n).tmod m := Int.tmod_nonneg m (by omega)
    have h2 : (-n).tmod m < m := Int.tmod_lt_of_pos _ hm
    rw [Int.neg_tmod] at h1 h2
    have h3 := Int.mul_tdiv_add_tmod n m
    have h4 := Int.mul_ediv_add_emod n m
    have h5 := Int.emod_nonneg n (show m ≠ 0 by omega)
    have h6 := Int.emod_lt_of_pos n hm
    have e : m * (n / m - n.tdiv m) = n.tmod m - n % m := by rw [Int.mul_sub]; omega
    generalize n / m - n.tdiv m = k at e
    split
    · rename_i hneg
      have : k = -1 := by
        rcases Int.lt_trichotomy k (-1) with h | h | h
        · have := Int.mul_le_mul_of_nonneg_left (show k ≤ -2 by omega) (show 0 ≤ m by omega); omega
        · exact h
        · have := Int.mul_le_mul_of_nonneg_left (show 0 ≤ k by omega) (show 0 ≤ m by omega); omega
      subst this; omega
    · have : k = 0 := by
        rcases Int.lt_trichotomy k 0 with h | h | h
        · have := Int.mul_le_mul_of_nonneg_left (show k ≤ -1 by omega) (show 0 ≤ m by omega); omega
        · exact h
        · have := Int.mul_le_mul_of_nonneg_left (show 1 ≤ k by omega) (show 0 ≤ m by omega); omega
      subst this; omega

end
section
open Go
/-- **What is known holds.** -/
theorem Live.track {w : Wn} {s : Sc} {nm : ByteArray} {n : Nat} {o q : Nat → Pt} (hw : 0 ≤ w.speed ∧ w.speed ≤ 32) (hs : okShips s) (h : Live w s nm n o q) {t : Nat} (ht : t ≤ n) : okT w s nm t = true ∧ (0 < t → inK (knAt w s nm t) (q (t - 1))) := by
  obtain ⟨k, h1, h2, _⟩ := h.kst hw hs ht
  unfold okT knAt
  rw [h1]
  exact ⟨rfl, h2⟩
end
section
open Go
/-- The search backwards for a whole soft start. -/
def ledN (w : Wn) (ms : List Int) (k : Nat) : Nat → Int → Int → Bool
  | 0, _, _ => false
  | i + 1, want, silent =>
    if mdAt ms i = 0 ∧ want = w.soft + 1 ∧ silent < w.pause ∧ i < k then ledN w ms k i want (silent + 1)
    else if mdAt ms i = w.soft + 1 ∧ want = w.soft + 1 then ledN w ms k i want 0
    else if mdAt ms i = w.soft ∧ want = w.soft + 1 ∧ silent = 0 then (if w.soft = 1 then true else ledN w ms k i (w.soft - 1) silent)
    else if mdAt ms i = want ∧ want ≤ w.soft then (if want = 1 then true else ledN w ms k i (want - 1) silent)
    else false
end
section
open Go
open Go.ChangeShapes Go.WideShapes Go.ChangeAt Go.RowKit

variable {HH : Type} (enc : TypeId × Value → HH) (P : Program) (W : World)

variable {enc P W}
theorem allH_emb (W : World) : Emb (allH W) W := by
  refine ⟨?_, fun e he => ?_⟩
  · have : (allH W).map Prod.fst = List.range W.heap.size := by
      unfold allH
      rw [List.map_map]
      have : (Prod.fst ∘ fun p : Obj × Nat => (p.2, p.1)) = Prod.snd := rfl
      rw [this, List.zipIdx_map_snd, List.range_eq_range']
      simp
    rw [this]; exact List.nodup_range
  · exact allH_mem.1 he

/-- A contract at all blocks, in the library's form. -/
theorem calls_of {P : Program} {k : FuncId} {args : Array Value} {W : World} {v : Value} (h : VCall P k args (allH W) (fun o H' => o = .val v ∧ ∃ B, H' = B ++ allH W)) :
    Calls P k args W (fun e w' => e = .returned v ∧ Below W.heap.size W w') := by
  intro cs
  obtain ⟨o, w', m', H', ⟨rfl, B, rfl⟩, hF, hs, _, fr', rfl, h1, h2⟩ := h W cs (allH_emb W)
  refine ⟨.returned v, w', fr', ⟨rfl, hF.os, hF.tape, hF.output, hF.size, fun i hi => ?_⟩, hs, h1, h2⟩
  have hg : W.heap[i]? = some W.heap[i] := Array.getElem?_eq_getElem hi
  rw [hg]
  exact hF.emb.at_ (i, W.heap[i]) (List.mem_append_right _ (allH_mem.2 hg))

end
section
open Go
theorem sq_flip (a b : Int) : (a - b) * (a - b) = (b - a) * (b - a) := by grind
/-- So far away they are behind so many steps. -/
def gInv (far S t : Int) (p q : Pt) : Prop := 0 ≤ far - t * S ∧ (far - t * S) * (far - t * S) < d2 p q
def pickP (l : List Int) (i : Int) : Int := (l[(restP i l.length).toNat]?).getD 0
def swumX (speed : Int) (bits : List Int) (a : Int) : Int := restP (pickP bits a) (2 * speed + 1) - speed
def swumH (speed x : Int) : Int := (rootE (speed * speed - x * x)).1
def swumY (h : Int) (bits : List Int) (a : Int) : Int := restP (pickP bits (a + 1)) (2 * h + 1) - h
def swumP (p : Pt) (speed : Int) (bits : List Int) (a : Int) : Pt := ⟨p.x + swumX speed bits a, p.y + swumY (swumH speed (swumX speed bits a)) bits a⟩
theorem swumX_bd {speed : Int} (h : 0 ≤ speed) (bits : List Int) (a : Int) : -speed ≤ swumX speed bits a ∧ swumX speed bits a ≤ speed := by
  have := rest_bd (n := pickP bits a) (m := 2 * speed + 1) (by omega)
  unfold swumX; omega
theorem sq_abs {y h : Int} (h1 : -h ≤ y ∧ y ≤ h) : y * y ≤ h * h := by
  rcases Int.le_total 0 y with g | g
  · exact Int.mul_le_mul h1.2 h1.2 g (by omega)
  · have := Int.mul_le_mul (show -y ≤ h by omega) (show -y ≤ h by omega) (show 0 ≤ -y by omega) (by omega)
    rwa [Int.neg_mul_neg] at this
theorem swumH_bd {speed x : Int} (hs : 0 ≤ speed ∧ speed ≤ 1048576) (hx : -speed ≤ x ∧ x ≤ speed) : 0 ≤ swumH speed x ∧ swumH speed x ≤ speed ∧ x * x + swumH speed x * swumH speed x ≤ speed * speed := by
  have h1 := sq_abs hx
  have h2 := (mul_bd hs hs).2
  have h3 := sq_nn x
  have hr := rootP_is (n := speed * speed - x * x) (by omega)
  have e : swumH speed x = rootP (speed * speed - x * x) := by unfold swumH rootE; rw [if_pos (by omega)]
  rw [e]
  unfold IsRt at hr
  obtain ⟨r1, r2, r3⟩ := hr
  refine ⟨r1, ?_, by omega⟩
  exact (abs_of_sq hs.1 (by omega)).2
theorem swumY_bd {h : Int} (hh : 0 ≤ h) (bits : List Int) (a : Int) : -h ≤ swumY h bits a ∧ swumY h bits a ≤ h := by
  have := rest_bd (n := pickP bits (a + 1)) (m := 2 * h + 1) (by omega)
  unfold swumY; omega
theorem swum_bd {p : Pt} {speed : Int} {bits : List Int} {a : Int} (hs : 0 ≤ speed ∧ speed ≤ 1048576) : d2 p (swumP p speed bits a) ≤ speed * speed ∧ (p.x - speed ≤ (swumP p speed bits a).x ∧ (swumP p speed bits a).x ≤ p.x + speed) ∧ p.y - speed ≤ (swumP p speed bits a).y ∧ (swumP p speed bits a).y ≤ p.y + speed := by
  have h1 := swumX_bd hs.1 bits a
  obtain ⟨h2, h3, h4⟩ := swumH_bd hs h1
  have h5 := swumY_bd h2 bits a
  have h6 := sq_abs h5
  unfold swumP d2
  simp only
  rw [show p.x + swumX speed bits a - p.x = swumX speed bits a by omega, show p.y + swumY (swumH speed (swumX speed bits a)) bits a - p.y = swumY (swumH speed (swumX speed bits a)) bits a by omega]
  refine ⟨by omega, by omega, by omega⟩
end
section
open Go
instance tZe9 : TZe Tryd.prog 9 [.string ByteArray.empty] := mkTZe (z := .string ByteArray.empty) (by kernel_rfl) rfl
instance tSc34 : TSc Tryd.prog 34 := mkTSc (by kernel_rfl) (by kernel_rfl)
instance tAv68 : TAv Tryd.prog 68 true 2 1 := mkTAv (b := false) (by kernel_rfl) (by simp)
instance tBd68 : TBd Tryd.prog 68 [.int .i64 0, .int .i64 0] (fun i => some (i * 1, 1)) := mkTBda (n := 2) (b := false) (z := .agg #[.int .i64 0, .int .i64 0]) (by kernel_rfl) rfl (by kernel_rfl)
instance tSc69 : TSc Tryd.prog 69 := mkTSc (by kernel_rfl) (by kernel_rfl)
instance tZe69 : TZe Tryd.prog 69 [.slice Option.none 0 0] := mkTZe (z := .slice Option.none 0 0) (by kernel_rfl) rfl
instance tSl69 : TSl Tryd.prog 69 73 2 := mkTSl (by kernel_rfl) (by kernel_rfl)
instance tAg71 : TAg Tryd.prog 71 4 := mkTAg (by kernel_rfl) (by kernel_rfl)
instance tFl71_0 : TFl Tryd.prog 71 0 0 := mkTFl (by kernel_rfl)
instance tFl71_1 : TFl Tryd.prog 71 1 1 := mkTFl (by kernel_rfl)
instance tFl71_2 : TFl Tryd.prog 71 2 2 := mkTFl (by kernel_rfl)
instance tFl71_3 : TFl Tryd.prog 71 3 3 := mkTFl (by kernel_rfl)
instance tSl81 : TSl Tryd.prog 81 69 1 := mkTSl (by kernel_rfl) (by kernel_rfl)
instance tSl84 : TSl Tryd.prog 84 9 1 := mkTSl (by kernel_rfl) (by kernel_rfl)
instance tEq137 : TEq Tryd.prog 137 8 := mkTEq (by kernel_rfl) (by kernel_rfl) (by kernel_rfl)
instance tFn25 : TFn Tryd.prog 25 := mkTFn Tryd.func25 (by kernel_rfl) rfl
instance tFn35 : TFn Tryd.prog 35 := mkTFn Tryd.func35 (by kernel_rfl) rfl
instance tFn36 : TFn Tryd.prog 36 := mkTFn Tryd.func36 (by kernel_rfl) rfl
instance tFn37 : TFn Tryd.prog 37 := mkTFn Tryd.func37 (by kernel_rfl) rfl
instance tFn40 : TFn Tryd.prog 40 := mkTFn Tryd.func40 (by kernel_rfl) rfl
instance tFn41 : TFn Tryd.prog 41 := mkTFn Tryd.func41 (by kernel_rfl) rfl
instance tFn79 : TFn Tryd.prog 79 := mkTFn Tryd.func79 (by kernel_rfl) rfl
instance tFn80 : TFn Tryd.prog 80 := mkTFn Tryd.func80 (by kernel_rfl) rfl
instance tFn84 : TFn Tryd.prog 84 := mkTFn Tryd.func84 (by kernel_rfl) rfl
instance tFn85 : TFn Tryd.prog 85 := mkTFn Tryd.func85 (by kernel_rfl) rfl
instance tFn116 : TFn Tryd.prog 116 := mkTFn Tryd.func116 (by kernel_rfl) rfl
instance tFn126 : TFn Tryd.prog 126 := mkTFn Tryd.func126 (by kernel_rfl) rfl
instance tFn127 : TFn Tryd.prog 127 := mkTFn Tryd.func127 (by kernel_rfl) rfl
instance tFn128 : TFn Tryd.prog 128 := mkTFn Tryd.func128 (by kernel_rfl) rfl
instance tFn129 : TFn Tryd.prog 129 := mkTFn Tryd.func129 (by kernel_rfl) rfl
end
section
open Go
set_option maxRecDepth 100000
/-- paravane/region.CheckPoint -/
theorem c_region_CheckPoint (p : Pt) : VPure Tryd.prog 35 [vP p] (I (chkP p)) := by
 intro H
 refine vcall_of_vrun Tryd.func35 rfl (N := 18) rfl rfl ?_
 refine vseq ?_
 refine vregion ?_
 refine vone rfl (vxa (vbox rfl rfl) rfl rfl (fun b1 => ?_))
 refine vone rfl (vxq (vas rfl) rfl rfl ?_)
 refine vnil ?_
 refine vseq ?_
 refine vseq ?_
 refine vregion ?_
 refine vone rfl (vxq (vfa rfl) rfl rfl ?_)
 refine vone rfl (vxq (vld1 rfl rfl) rfl rfl ?_)
 refine vone rfl (vxq (vfa rfl) rfl rfl ?_)
 refine vone rfl (vxq (vld1 rfl rfl) rfl rfl ?_)
 refine vone rfl (vxq (vbd rfl rfl) rfl rfl ?_)
 refine vone rfl (vxq (vmv rfl) rfl rfl ?_)
 refine vnil ?_
 refine vblock ?_
 refine vloop1 ?_
 refine vseq ?_
 refine vregion ?_
 refine vone rfl (vxq (vlss rfl rfl) rfl rfl ?_)
 refine vnil ?_
 refine vseq ?_
 refine vcondt rfl ?_
 refine vskip ?_
 refine vseq ?_
 refine vblock ?_
 refine vseq ?_
 refine vregion ?_
 refine vone rfl (vxq (vixa1 rfl rfl (by omega) rfl) rfl rfl ?_)
 refine vone rfl (vxq (vas rfl) rfl rfl ?_)
 refine vnil ?_
 refine vseq ?_
 refine vregion ?_
 refine vone rfl (vxq (vmv rfl) rfl rfl ?_)
 refine vone rfl (vxq (vcp rfl rfl rfl (c_region_limit_into _ _ (by omega))) rfl rfl ?_)
 refine vone rfl (vxq (vmv rfl) rfl rfl ?_)
 refine vone rfl (vxq (vneq rfl rfl) rfl rfl ?_)
 refine vnil ?_
 refine vcondd rfl (fun h16 => ?_) (fun h16 => ?_)
 ·
  refine vseq ?_
  refine vregion ?_
  refine vone rfl (vxq (vas rfl) rfl rfl ?_)
  refine vnil ?_
  refine vret (vr1 (H' := H) Tryd.func35 rfl (.tmp rfl) (by repeat first | exact .refl _ | refine .cons_cons _ ?_ | refine .cons _ ?_ | exact sl0 _ | refine slA ?_) ?_)
  first | exact ⟨oI (chkP_no (by unfold Pt.ok; omega)).symm, rfl⟩ | exact ⟨oI (chkP_zero.2 (by unfold Pt.ok; omega)).symm, rfl⟩
 ·
  refine vskip ?_
  refine vinblock ?_
  refine vregion ?_
  refine vone rfl (vxq (vadd rfl rfl (by unfold InR; omega)) rfl rfl ?_)
  refine vone rfl (vxq (vmv rfl) rfl rfl ?_)
  refine vnil ?_
  refine vinloop1 ?_
  refine vseq ?_
  refine vregion ?_
  refine vone rfl (vxq (vlss rfl rfl) rfl rfl ?_)
  refine vnil ?_
  refine vseq ?_
  refine vcondt rfl ?_
  refine vskip ?_
  refine vseq ?_
  refine vblock ?_
  refine vseq ?_
  refine vregion ?_
  refine vone rfl (vxq (vixa1 rfl rfl (by omega) rfl) rfl rfl ?_)
  refine vone rfl (vxq (vas rfl) rfl rfl ?_)
  refine vnil ?_
  refine vseq ?_
  refine vregion ?_
  refine vone rfl (vxq (vmv rfl) rfl rfl ?_)
  refine vone rfl (vxq (vcp rfl rfl rfl (c_region_limit_into _ _ (by omega))) rfl rfl ?_)
  refine vone rfl (vxq (vmv rfl) rfl rfl ?_)
  refine vone rfl (vxq (vneq rfl rfl) rfl rfl ?_)
  refine vnil ?_
  refine vcondd rfl (fun h16 => ?_) (fun h16 => ?_)
  ·
   refine vseq ?_
   refine vregion ?_
   refine vone rfl (vxq (vas rfl) rfl rfl ?_)
   refine vnil ?_
   refine vret (vr1 (H' := H) Tryd.func35 rfl (.tmp rfl) (by repeat first | exact .refl _ | refine .cons_cons _ ?_ | refine .cons _ ?_ | exact sl0 _ | refine slA ?_) ?_)
   first | exact ⟨oI (chkP_no (by unfold Pt.ok; omega)).symm, rfl⟩ | exact ⟨oI (chkP_zero.2 (by unfold Pt.ok; omega)).symm, rfl⟩
  ·
   refine vskip ?_
   refine vinblock ?_
   refine vregion ?_
   refine vone rfl (vxq (vadd rfl rfl (by unfold InR; omega)) rfl rfl ?_)
   refine vone rfl (vxq (vmv rfl) rfl rfl ?_)
   refine vnil ?_
   refine vinloop1 ?_
   refine vseq ?_
   refine vregion ?_
   refine vone rfl (vxq (vlss rfl rfl) rfl rfl ?_)
   refine vnil ?_
   refine vseq ?_
   refine vcondf rfl ?_
   refine vexit (k' := _) rfl ?_
   refine vseq ?_
   refine vregion ?_
   refine vone rfl (vxq (vas rfl) rfl rfl ?_)
   refine vnil ?_
   refine vret (vr1 (H' := H) Tryd.func35 rfl (.tmp rfl) (by repeat first | exact .refl _ | refine .cons_cons _ ?_ | refine .cons _ ?_ | exact sl0 _ | refine slA ?_) ?_)
   first | exact ⟨oI (chkP_no (by unfold Pt.ok; omega)).symm, rfl⟩ | exact ⟨oI (chkP_zero.2 (by unfold Pt.ok; omega)).symm, rfl⟩

end
section
open Go
set_option maxRecDepth 100000

/-- slices.IndexFunc[[]paravane/api.Point,paravane/api.Point] -/
theorem g_IndexFunc (g : Nat) [TFn Tryd.prog g] (p : Pt → Bool) (hg : ∀ z, VPure Tryd.prog g [vP z] (.bool (p z))) (l : List Pt) (oa : Option Addr) (n c : Nat) (hn : l.length = n) (hmax : n ≤ 9223372036854775807) (H : Heap) [SlO H oa 2 encP l] : VCall Tryd.prog 129 [sli oa n c, fnv g].toArray H (fun o H' => ∃ r, o = .val (I r) ∧ (0 ≤ r ↔ l.any p = true) ∧ H' = H) := by
 refine vcall_of_vrun Tryd.func129 rfl (N := 19) rfl rfl ?_
 refine vseq ?_
 refine vregion ?_
 refine vone rfl (vxq (vas rfl) rfl rfl ?_)
 refine vnil ?_
 refine vseq ?_
 refine vseq ?_
 refine vregion ?_
 refine vone rfl (vxq (vmv rfl) rfl rfl ?_)
 refine vone rfl (vxq (vlen rfl) rfl rfl ?_)
 refine vone rfl (vxq (vmv rfl) rfl rfl ?_)
 refine vnil ?_
 refine vblock ?_
 refine vwhile (σ := Int) (fun i => (n - i).toNat) (fun i => [(0, sli oa n c), (1, fnv g), (7, I n), (8, I i)]) (fun i => H) (fun i => (0 ≤ i ∧ i ≤ n) ∧ ∀ (j : Nat) (z : Pt), l[j]? = some z → (j : Int) < i → p z = false) 0 ⟨⟨by omega, by omega⟩, fun j z _ h => absurd h (by omega)⟩ ⟨rfl, rfl, rfl, rfl, True.intro⟩ (by repeat first | exact .refl _ | refine .cons_cons _ ?_ | refine .cons _ ?_ | exact sl0 _ | refine slA ?_) ?_
 rintro i ⟨⟨hi0, hin⟩, hno⟩ IH
 change VRun _ _ _ _ _ [(0, sli oa n c), (1, fnv g), (7, I n), (8, I i)] _ (H) _
 refine vseq ?_
 refine vregion ?_
 refine vone rfl (vxq (vlss rfl rfl) rfl rfl ?_)
 refine vnil ?_
 refine vseq ?_
 refine vcondd rfl (fun h9 => ?_) (fun h9 => ?_)
 ·
  refine vskip ?_
  refine vseq ?_
  refine vblock ?_
  refine vseq ?_
  refine vregion ?_
  refine vone rfl (vxq (vmv rfl) rfl rfl ?_)
  obtain ⟨z, hz⟩ := get_of_lt l (i := i.toNat) (by omega)
  refine vone rfl (vxq (vas rfl) rfl rfl ?_)
  refine vnil ?_
  refine vseq ?_
  refine vregion ?_
  refine vone rfl (vxq (vmv rfl) rfl rfl ?_)
  refine vone rfl (vxq (vmv rfl) rfl rfl ?_)
  refine vone rfl (vxq (vmv rfl) rfl rfl ?_)
  refine vone rfl (vxq (visg (enc := encP) rfl rfl (by omega) hz) rfl rfl ?_)
  refine vone rfl (vxq (vldS (enc := encP) rfl hz) rfl rfl ?_)
  refine vone rfl (vxq (vcp rfl rfl rfl (hg z)) rfl rfl ?_)
  refine vnil ?_
  refine vcond rfl (fun h16 => ?_) (fun h16 => ?_)
  ·
   refine vseq ?_
   refine vregion ?_
   refine vone rfl (vxq (vmv rfl) rfl rfl ?_)
   refine vone rfl (vxq (vas rfl) rfl rfl ?_)
   refine vnil ?_
   refine vret (vr1 (H' := H) Tryd.func129 rfl (.tmp rfl) (by repeat first | exact .refl _ | refine .cons_cons _ ?_ | refine .cons _ ?_ | exact sl0 _ | refine slA ?_) ?_)
   first | exact ⟨_, rfl, ⟨fun _ => List.any_eq_true.2 ⟨z, List.mem_of_getElem? hz, h16⟩, fun _ => hi0⟩, rfl⟩ | exact ⟨-1, rfl, ⟨fun h => absurd h (by omega), fun h => by
      obtain ⟨z, hz, hp⟩ := List.any_eq_true.1 h
      obtain ⟨j, hj⟩ := List.getElem?_of_mem hz
      have hlt := (List.getElem?_eq_some_iff.1 hj).1
      rw [hno j z hj (by omega)] at hp; cases hp⟩, rfl⟩
  ·
   refine vskip ?_
   refine vinblock ?_
   refine vregion ?_
   refine vone rfl (vxq (vadd rfl rfl (by unfold InR; omega)) rfl rfl ?_)
   refine vone rfl (vxq (vmv rfl) rfl rfl ?_)
   refine vnil ?_
   exact vback (IH (i + 1) ⟨⟨by omega, by omega⟩, fun j z' hj hlt => by
        by_cases e : (j : Int) = i
        ·
         have : j = i.toNat := by omega
         subst this; rw [hz] at hj; cases hj; exact h16
        · exact hno j z' hj (by omega)⟩ (by show (_ : Int).toNat < (_ : Int).toNat; omega)) ⟨rfl, rfl, rfl, rfl, True.intro⟩ (by repeat first | exact .refl _ | refine .cons_cons _ ?_ | refine .cons _ ?_ | exact sl0 _ | refine slA ?_)
 ·
  refine vexit (k' := _) rfl ?_
  refine vseq ?_
  refine vregion ?_
  refine vone rfl (vxq (vas rfl) rfl rfl ?_)
  refine vnil ?_
  refine vret (vr1 (H' := H) Tryd.func129 rfl (.tmp rfl) (by repeat first | exact .refl _ | refine .cons_cons _ ?_ | refine .cons _ ?_ | exact sl0 _ | refine slA ?_) ?_)
  first | exact ⟨_, rfl, ⟨fun _ => List.any_eq_true.2 ⟨z, List.mem_of_getElem? hz, h16⟩, fun _ => hi0⟩, rfl⟩ | exact ⟨-1, rfl, ⟨fun h => absurd h (by omega), fun h => by
     obtain ⟨z, hz, hp⟩ := List.any_eq_true.1 h
     obtain ⟨j, hj⟩ := List.getElem?_of_mem hz
     have hlt := (List.getElem?_eq_some_iff.1 hj).1
     rw [hno j z hj (by omega)] at hp; cases hp⟩, rfl⟩
/-- slices.ContainsFunc[[]paravane/api.Point,paravane/api.Point] -/
theorem q_ContainsFunc (g : Nat) [TFn Tryd.prog g] (p : Pt → Bool) (hg : ∀ z, VPure Tryd.prog g [vP z] (.bool (p z))) (l : List Pt) (oa : Option Addr) (n c : Nat) (hn : l.length = n) (hmax : n ≤ 9223372036854775807) (H : Heap) [SlO H oa 2 encP l] : VHas Tryd.prog 126 [sli oa n c, fnv g] (.bool (l.any p)) H H := by
 refine vcall_of_vrun Tryd.func126 rfl (N := 9) rfl rfl ?_
 refine vseq ?_
 refine vregion ?_
 refine vone rfl (vxq (vas rfl) rfl rfl ?_)
 refine vnil ?_
 refine vseq ?_
 refine vregion ?_
 refine vone rfl (vxq (vmv rfl) rfl rfl ?_)
 refine vone rfl (vxq (vmv rfl) rfl rfl ?_)
 refine vone rfl (vxg (vcg (R := fun v H' => ∃ r, v = I r ∧ (0 ≤ r ↔ l.any p = true) ∧ H' = H) rfl rfl rfl (g_IndexFunc g p hg l oa n c hn hmax _) (fun _ _ ⟨r, h1, h2, h3⟩ => ⟨_, h1, r, rfl, h2, h3⟩)) rfl rfl ?_)
 rintro _ _ ⟨r, rfl, hr, rfl⟩
 refine vone rfl (vxq (vgeq rfl rfl) rfl rfl ?_)
 refine vone rfl (vxq (vas rfl) rfl rfl ?_)
 refine vnil ?_
 refine vret (vr1 (H' := _) Tryd.func126 rfl (.tmp rfl) (by repeat first | exact .refl _ | refine .cons_cons _ ?_ | refine .cons _ ?_ | exact sl0 _ | refine slA ?_) ?_)
 exact ⟨oV (by congr 1; rw [Bool.eq_iff_iff, decide_eq_true_iff]; exact hr), rfl⟩
/-- paravane/region.Of$1 -/
theorem c_Of1 (p : Pt) : VPure Tryd.prog 127 [vP p] (.bool (!decide p.ok)) := by
 intro H
 refine vcall_of_vrun Tryd.func127 rfl (N := 6) rfl rfl ?_
 refine vseq ?_
 refine vregion ?_
 refine vone rfl (vxa (vbox rfl rfl) rfl rfl (fun b1 => ?_))
 refine vone rfl (vxq (vas rfl) rfl rfl ?_)
 refine vnil ?_
 refine vseq ?_
 refine vregion ?_
 refine vone rfl (vxq (vldn rfl rfl) rfl rfl ?_)
 refine vone rfl (vxq (vcp rfl rfl rfl (c_region_CheckPoint ⟨_, _⟩)) rfl rfl ?_)
 refine vone rfl (vxq (vneq rfl rfl) rfl rfl ?_)
 refine vone rfl (vxq (vas rfl) rfl rfl ?_)
 refine vnil ?_
 refine vret (vr1 (H' := H) Tryd.func127 rfl (.tmp rfl) (by repeat first | exact .refl _ | refine .cons_cons _ ?_ | refine .cons _ ?_ | exact sl0 _ | refine slA ?_) ?_)
 exact ⟨oV (by congr 1; rw [← decide_not]; exact decide_eq_decide.2 (by show chkP p ≠ 0 ↔ _; exact chkP_nz)), rfl⟩
/-- paravane/region.Of$2 -/
theorem it_Of2 (l : List Pt) (oa : Option Addr) (n c : Nat) (hn : l.length = n) (hmax : n ≤ 9223372036854775807) (H : Heap) [SlO H oa 2 encP l] (b : Nat) : VIt Tryd.prog 128 [ptr b] (fun p => [vP p]) l ((b, blk [sli oa n c] 69) :: H) := by
 intro yf ya yc J Jx Hc0 hJ0 hy
 change VCall _ _ _ ((b, blk [sli oa n c] 69) :: (H ++ Hc0)) _
 refine vcall_of_vrun Tryd.func128 rfl (N := 16) rfl rfl ?_
 refine vseq ?_
 refine vregion ?_
 refine vone rfl (vxq (vld1 rfl rfl) rfl rfl ?_)
 refine vone rfl (vxq (vlen rfl) rfl rfl ?_)
 refine vone rfl (vxq (vmv rfl) rfl rfl ?_)
 refine vnil ?_
 refine vblock ?_
 refine vwhile (σ := Int × Heap) (fun ⟨i, Hc⟩ => (n - i).toNat) (fun ⟨i, Hc⟩ => [(0, .func yf ya yc), (5, sli oa n c), (6, I n), (7, I i)]) (fun ⟨i, Hc⟩ => (b, blk [sli oa n c] 69) :: (H ++ Hc)) (fun ⟨i, Hc⟩ => (0 ≤ i ∧ i ≤ n) ∧ J (l.take i.toNat) Hc) (0, Hc0) ⟨⟨by omega, by omega⟩, hJ0⟩ ⟨rfl, rfl, rfl, rfl, True.intro⟩ (by repeat first | exact .refl _ | refine .cons_cons _ ?_ | refine .cons _ ?_ | exact sl0 _ | refine slA ?_) ?_
 rintro ⟨i, Hc⟩ ⟨⟨hi0, hin⟩, hJ⟩ IH
 change VRun _ _ _ _ _ [(0, .func yf ya yc), (5, sli oa n c), (6, I n), (7, I i)] _ ((b, blk [sli oa n c] 69) :: (H ++ Hc)) _
 refine vseq ?_
 refine vregion ?_
 refine vone rfl (vxq (vlss rfl rfl) rfl rfl ?_)
 skip
 refine vnil ?_
 refine vseq ?_
 refine vcondd rfl (fun h8 => ?_) (fun h8 => ?_)
 ·
  obtain ⟨z, hz⟩ := get_of_lt l (i := i.toNat) (by omega)
  obtain ⟨post, hps⟩ := split_at hz
  refine vskip ?_
  refine vseq ?_
  refine vblock ?_
  refine vseq ?_
  refine vregion ?_
  refine vone rfl (vxq (visg (enc := encP) rfl rfl (by omega) hz) rfl rfl ?_)
  refine vone rfl (vxq (vldS (enc := encP) rfl hz) rfl rfl ?_)
  refine vone rfl (vxa valloc rfl rfl (fun b1 => ?_))
  refine vone rfl (vxs (vstn rfl rfl rfl rfl rfl) rfl ?_)
  refine vnil ?_
  refine vseq ?_
  refine vregion ?_
  refine vone rfl (vxq (vmv rfl) rfl rfl ?_)
  refine vone rfl (vxq (vldn rfl rfl) rfl rfl ?_)
  refine vone rfl (vxg (vcy rfl rfl (VY.l2 (hy _ z _ hps _ hJ))) rfl rfl ?_)
  rintro _ _ ⟨bb, rfl, Hc, rfl, hJ⟩
  rcases bb with _ | _
  ·
   refine vone rfl (vxq (vnot rfl) rfl rfl ?_)
   refine vnil ?_
   refine vcondt rfl ?_
   refine vret (vr0 (H' := (b, blk [sli oa n c] 69) :: (H ++ Hc)) Tryd.func128 rfl  (by repeat first | exact .refl _ | refine .cons_cons _ ?_ | refine .cons _ ?_ | exact sl0 _ | refine slA ?_) ?_)
   first | exact ⟨rfl, Hc, rfl, .inl (by rw [show i.toNat = l.length by omega, List.take_length] at hJ; exact hJ)⟩ | exact ⟨rfl, Hc, rfl, .inr hJ⟩
  ·
   refine vone rfl (vxq (vnot rfl) rfl rfl ?_)
   refine vnil ?_
   refine vcondf rfl ?_
   refine vskip ?_
   refine vinblock ?_
   refine vregion ?_
   refine vone rfl (vxq (vadd rfl rfl (by unfold InR; omega)) rfl rfl ?_)
   refine vone rfl (vxq (vmv rfl) rfl rfl ?_)
   refine vnil ?_
   exact vback (IH (i + 1, Hc) ⟨⟨by omega, by omega⟩, by rw [show (i + 1).toNat = i.toNat + 1 by omega, take_succ_of hz]; exact hJ⟩ (by show (_ : Int).toNat < (_ : Int).toNat; omega)) ⟨rfl, rfl, rfl, rfl, True.intro⟩ (by repeat first | exact .refl _ | refine .cons_cons _ ?_ | refine .cons _ ?_ | exact sl0 _ | refine slA ?_)
 ·
  refine vexit (k' := _) rfl ?_
  refine vend (vr0 (H' := (b, blk [sli oa n c] 69) :: (H ++ Hc)) Tryd.func128 rfl  (by repeat first | exact .refl _ | refine .cons_cons _ ?_ | refine .cons _ ?_ | exact sl0 _ | refine slA ?_) ?_)
  first | exact ⟨rfl, Hc, rfl, .inl (by rw [show i.toNat = l.length by omega, List.take_length] at hJ; exact hJ)⟩ | exact ⟨rfl, Hc, rfl, .inr hJ⟩

def ofE (l : List Pt) : RE := if l = [] then (zR, 4) else if 256 < l.length then (zR, 3) else if l.any (fun p => !decide p.ok) = true then (zR, 10) else ((hullP l).getD zR, 0)
theorem ok_all {l : List Pt} (h : ¬ l.any (fun p => !decide p.ok) = true) : ∀ p ∈ l, p.ok := by
  intro p hp
  simp only [List.any_eq_true, not_exists, not_and, Bool.not_eq_true', Bool.not_eq_true, decide_eq_false_iff_not, Classical.not_not] at h
  exact h p hp

/-- paravane/region.Of -/
theorem q_Of (l : List Pt) (oa : Option Addr) (n c : Nat) (hn : l.length = n) (hmax : n ≤ 9223372036854775807) (H : Heap) [SlO H oa 2 encP l] : VHas Tryd.prog 116 [sli oa n c] (tup [vR (ofE l).1, I (ofE l).2]) H H := by
 refine vcall_of_vrun Tryd.func116 rfl (N := 28) rfl rfl ?_
 refine vseq ?_
 refine vregion ?_
 refine vone rfl (vxa (vbox rfl rfl) rfl rfl (fun b1 => ?_))
 refine vone rfl (vxa valloc rfl rfl (fun b2 => ?_))
 refine vone rfl (vxq (vas rfl) rfl rfl ?_)
 refine vnil ?_
 refine vseq ?_
 refine vblock ?_
 refine vseq ?_
 refine vregion ?_
 refine vone rfl (vxq (vld1 rfl rfl) rfl rfl ?_)
 refine vone rfl (vxq (vlen rfl) rfl rfl ?_)
 refine vone rfl (vxq (veql rfl rfl) rfl rfl ?_)
 refine vone rfl (vxq (vas rfl) rfl rfl ?_)
 refine vnil ?_
 refine vcondd rfl (fun h6 => ?_) (fun h6 => ?_)
 ·
  refine vseq ?_
  refine vregion ?_
  refine vone rfl (vxq (vbd rfl rfl) rfl rfl ?_)
  refine vone rfl (vxs (vstn rfl rfl rfl rfl rfl) rfl ?_)
  refine vone rfl (vxq (vas rfl) rfl rfl ?_)
  refine vnil ?_
  refine vret (vr2 (H' := H) Tryd.func116 rfl (.celln rfl rfl) (.tmp rfl) (by repeat first | exact .refl _ | refine .cons_cons _ ?_ | refine .cons _ ?_ | exact sl0 _ | refine slA ?_) ?_)
  first | (rw [show ofE l = (zR, 4) from if_pos (List.eq_nil_of_length_eq_zero (by omega))]; exact ⟨rfl, rfl⟩) | (have hne : l ≠ [] := fun e => h6 (by subst e; simp at hn; omega); first | (rw [show ofE l = (zR, 3) by unfold ofE; rw [if_neg hne, if_pos (by omega)]]; exact ⟨rfl, rfl⟩) | (rw [show ofE l = (zR, 10) by unfold ofE; rw [if_neg hne, if_neg (by omega), if_pos h16]]; exact ⟨rfl, rfl⟩) | (rw [show ofE l = ((hullP l).getD zR, 0) by unfold ofE; rw [if_neg hne, if_neg (by omega), if_neg (by rw [h16]; decide)]]; exact ⟨rfl, rfl⟩))
 ·
  refine vseq ?_
  refine vregion ?_
  refine vone rfl (vxq (vld1 rfl rfl) rfl rfl ?_)
  refine vone rfl (vxq (vlen rfl) rfl rfl ?_)
  refine vone rfl (vxq (vgtr rfl rfl) rfl rfl ?_)
  refine vone rfl (vxq (vas rfl) rfl rfl ?_)
  refine vnil ?_
  refine vcondd rfl (fun h11 => ?_) (fun h11 => ?_)
  ·
   refine vseq ?_
   refine vregion ?_
   refine vone rfl (vxq (vbd rfl rfl) rfl rfl ?_)
   refine vone rfl (vxs (vstn rfl rfl rfl rfl rfl) rfl ?_)
   refine vone rfl (vxq (vas rfl) rfl rfl ?_)
   refine vnil ?_
   refine vret (vr2 (H' := H) Tryd.func116 rfl (.celln rfl rfl) (.tmp rfl) (by repeat first | exact .refl _ | refine .cons_cons _ ?_ | refine .cons _ ?_ | exact sl0 _ | refine slA ?_) ?_)
   first | (rw [show ofE l = (zR, 4) from if_pos (List.eq_nil_of_length_eq_zero (by omega))]; exact ⟨rfl, rfl⟩) | (have hne : l ≠ [] := fun e => h6 (by subst e; simp at hn; omega); first | (rw [show ofE l = (zR, 3) by unfold ofE; rw [if_neg hne, if_pos (by omega)]]; exact ⟨rfl, rfl⟩) | (rw [show ofE l = (zR, 10) by unfold ofE; rw [if_neg hne, if_neg (by omega), if_pos h16]]; exact ⟨rfl, rfl⟩) | (rw [show ofE l = ((hullP l).getD zR, 0) by unfold ofE; rw [if_neg hne, if_neg (by omega), if_neg (by rw [h16]; decide)]]; exact ⟨rfl, rfl⟩))
  ·
   refine vseq ?_
   refine vregion ?_
   refine vone rfl (vxq (vld1 rfl rfl) rfl rfl ?_)
   refine vone rfl (vxq (vcq rfl rfl rfl (q_ContainsFunc 127 (fun p => !decide p.ok) c_Of1 l oa n c hn hmax _)) rfl rfl ?_)
   refine vone rfl (vxq (vas rfl) rfl rfl ?_)
   refine vnil ?_
   refine vcond rfl (fun h16 => ?_) (fun h16 => ?_)
   ·
    refine vseq ?_
    refine vregion ?_
    refine vone rfl (vxq (vbd rfl rfl) rfl rfl ?_)
    refine vone rfl (vxs (vstn rfl rfl rfl rfl rfl) rfl ?_)
    refine vone rfl (vxq (vas rfl) rfl rfl ?_)
    refine vnil ?_
    refine vret (vr2 (H' := H) Tryd.func116 rfl (.celln rfl rfl) (.tmp rfl) (by repeat first | exact .refl _ | refine .cons_cons _ ?_ | refine .cons _ ?_ | exact sl0 _ | refine slA ?_) ?_)
    first | (rw [show ofE l = (zR, 4) from if_pos (List.eq_nil_of_length_eq_zero (by omega))]; exact ⟨rfl, rfl⟩) | (have hne : l ≠ [] := fun e => h6 (by subst e; simp at hn; omega); first | (rw [show ofE l = (zR, 3) by unfold ofE; rw [if_neg hne, if_pos (by omega)]]; exact ⟨rfl, rfl⟩) | (rw [show ofE l = (zR, 10) by unfold ofE; rw [if_neg hne, if_neg (by omega), if_pos h16]]; exact ⟨rfl, rfl⟩) | (rw [show ofE l = ((hullP l).getD zR, 0) by unfold ofE; rw [if_neg hne, if_neg (by omega), if_neg (by rw [h16]; decide)]]; exact ⟨rfl, rfl⟩))
   ·
    refine vskip ?_
    refine vinblock ?_
    refine vseq ?_
    refine vregion ?_
    refine vone rfl (vxq (vmf rfl) rfl rfl ?_)
    refine vone rfl (vxg (vbs rfl rfl rfl rfl rfl rfl) rfl rfl ?_)
    rintro _ _ ⟨b3, rfl, rfl⟩
    refine vone rfl (vxq (vcq rfl rfl rfl ((h_hull1 (it_Of2 l oa n c hn hmax H b1) (fun p hp => (ok_all (by rw [h16]; decide) p hp).sm.mono (by decide)) b3).keepSub (by repeat first | exact .refl _ | refine .cons_cons _ ?_ | refine .cons _ ?_ | exact sl0 _ | refine slA ?_))) rfl rfl ?_)
    refine vone rfl (vxq (vmv rfl) rfl rfl ?_)
    refine vone rfl (vxq (vex rfl rfl) rfl rfl ?_)
    refine vone rfl (vxq (vex rfl rfl) rfl rfl ?_)
    refine vone rfl (vxa valloc rfl rfl (fun b4 => ?_))
    refine vone rfl (vxs (vstn rfl rfl rfl rfl rfl) rfl ?_)
    refine vone rfl (vxq (vas rfl) rfl rfl ?_)
    refine vnil ?_
    refine vseq ?_
    refine vregion ?_
    refine vone rfl (vxq (vldn rfl rfl) rfl rfl ?_)
    refine vone rfl (vxq (vcp rfl rfl rfl (c_region_four_region _ _ _ _ _ _ _ _)) rfl rfl ?_)
    refine vone rfl (vxs (vstn rfl rfl rfl rfl rfl) rfl ?_)
    refine vone rfl (vxq (vas rfl) rfl rfl ?_)
    refine vnil ?_
    refine vret (vr2 (H' := H) Tryd.func116 rfl (.celln rfl rfl) (.tmp rfl) (by repeat first | exact .refl _ | refine .cons_cons _ ?_ | refine .cons _ ?_ | exact sl0 _ | refine slA ?_) ?_)
    first | (rw [show ofE l = (zR, 4) from if_pos (List.eq_nil_of_length_eq_zero (by omega))]; exact ⟨rfl, rfl⟩) | (have hne : l ≠ [] := fun e => h6 (by subst e; simp at hn; omega); first | (rw [show ofE l = (zR, 3) by unfold ofE; rw [if_neg hne, if_pos (by omega)]]; exact ⟨rfl, rfl⟩) | (rw [show ofE l = (zR, 10) by unfold ofE; rw [if_neg hne, if_neg (by omega), if_pos h16]]; exact ⟨rfl, rfl⟩) | (rw [show ofE l = ((hullP l).getD zR, 0) by unfold ofE; rw [if_neg hne, if_neg (by omega), if_neg (by rw [h16]; decide)]]; exact ⟨rfl, rfl⟩))
end
section
open Go
set_option maxRecDepth 100000

/-- paravane/region.Root -/
theorem c_Root (n : Int) : VPure Tryd.prog 80 [I n] (tup [I (rootE n).1, I (rootE n).2]) := by
 intro H
 refine vcall_of_vrun Tryd.func80 rfl (N := 9) rfl rfl ?_
 refine vseq ?_
 refine vregion ?_
 refine vone rfl (vxq (vas rfl) rfl rfl ?_)
 refine vone rfl (vxq (vas rfl) rfl rfl ?_)
 refine vnil ?_
 refine vseq ?_
 refine vseq ?_
 refine vregion ?_
 refine vone rfl (vxq (vmv rfl) rfl rfl ?_)
 refine vone rfl (vxq (vcp rfl rfl rfl (c_region_within _ _ _)) rfl rfl ?_)
 refine vone rfl (vxq (vnotd rfl) rfl rfl ?_)
 refine vnil ?_
 refine vcondd rfl (fun h6 => ?_) (fun h6 => ?_)
 ·
  refine vseq ?_
  refine vregion ?_
  refine vone rfl (vxq (vas rfl) rfl rfl ?_)
  refine vone rfl (vxq (vas rfl) rfl rfl ?_)
  refine vnil ?_
  refine vret (vr2 (H' := H) Tryd.func80 rfl (.tmp rfl) (.tmp rfl) (by repeat first | exact .refl _ | refine .cons_cons _ ?_ | refine .cons _ ?_ | exact sl0 _ | refine slA ?_) ?_)
  first | (rw [show rootE n = (0, 7) from if_neg (by omega)]; exact ⟨rfl, rfl⟩) | (rw [show rootE n = (rootP n, 0) from if_pos (by omega)]; exact ⟨rfl, rfl⟩)
 ·
  refine vskip ?_
  refine vseq ?_
  refine vregion ?_
  refine vone rfl (vxq (vmv rfl) rfl rfl ?_)
  refine vone rfl (vxq (vcp rfl rfl rfl (c_root n (by omega))) rfl rfl ?_)
  refine vone rfl (vxq (vas rfl) rfl rfl ?_)
  refine vone rfl (vxq (vas rfl) rfl rfl ?_)
  refine vnil ?_
  refine vret (vr2 (H' := H) Tryd.func80 rfl (.tmp rfl) (.tmp rfl) (by repeat first | exact .refl _ | refine .cons_cons _ ?_ | refine .cons _ ?_ | exact sl0 _ | refine slA ?_) ?_)
  first | (rw [show rootE n = (0, 7) from if_neg (by omega)]; exact ⟨rfl, rfl⟩) | (rw [show rootE n = (rootP n, 0) from if_pos (by omega)]; exact ⟨rfl, rfl⟩)
end
section
open Go
set_option maxRecDepth 100000

attribute [local irreducible] tightP hullP rootP farP rows endsOf pickL sqL sqP twoE
theorem h_firstRP (a : Rg) (p : Pt) (bs : Nat) : VHas Tryd.prog 67 [.slice (some ⟨bs, 0, Option.none⟩) 2 2] (I (fst2 (chkR a) (chkP p))) [(bs, blk [I (chkR a), I (chkP p)] 24)] [(bs, blk [I (chkR a), I (chkP p)] 24)] := h_first2 (chkR a) (chkP p) bs
end
end Go.Proofs.YtaplkoimhecacaaDoor
namespace Go.Proofs.YtaplkoimhecacaaDoor
open Go
set_option maxRecDepth 100000

attribute [local irreducible] tightP hullP rootP farP rows endsOf
theorem rest_lt {n m : Int} (h : m < 1) : restP n m = 0 := if_pos h
theorem rest_neg {n m : Int} (h : ¬ m < 1) (h2 : n.tmod m < 0) : restP n m = n.tmod m + m := by
  have := tmod_emod (n := n) (m := m) (by omega)
  rw [if_pos h2] at this
  unfold restP; rw [if_neg h, this]
theorem rest_nn {n m : Int} (h : ¬ m < 1) (h2 : ¬ n.tmod m < 0) : restP n m = n.tmod m := by
  have := tmod_emod (n := n) (m := m) (by omega)
  rw [if_neg h2] at this
  unfold restP; rw [if_neg h, this]
theorem tmod_bd {n m : Int} (h : ¬ m < 1) : -m < n.tmod m ∧ n.tmod m < m := by
  refine ⟨?_, Int.tmod_lt_of_pos _ (by omega)⟩
  have := Int.tmod_lt_of_pos (-n) (show 0 < m by omega)
  rw [Int.neg_tmod] at this; omega
/-- paravane/paravaneref00.Rest -/
theorem c_Rest (n m : Int) (hn : InR n) (hm : InR m) : VPure Tryd.prog 25 [I n, I m] (I (restP n m)) := by
 unfold InR at hn hm
 intro H
 refine vcall_of_vrun Tryd.func25 rfl (N := 16) rfl rfl ?_
 refine vseq ?_
 refine vregion ?_
 refine vone rfl (vxq (vas rfl) rfl rfl ?_)
 refine vnil ?_
 refine vseq ?_
 refine vseq ?_
 refine vregion ?_
 refine vone rfl (vxq (vmv rfl) rfl rfl ?_)
 refine vone rfl (vxq (vlss rfl rfl) rfl rfl ?_)
 refine vnil ?_
 refine vcondd rfl (fun h6 => ?_) (fun h6 => ?_)
 ·
  refine vseq ?_
  refine vregion ?_
  refine vone rfl (vxq (vas rfl) rfl rfl ?_)
  refine vnil ?_
  refine vret (vr1 (H' := H) Tryd.func25 rfl (.tmp rfl) sb ?_)
  first | (rw [rest_lt h6]; exact ⟨rfl, rfl⟩) | (rw [rest_neg h6 h11]; exact ⟨rfl, rfl⟩) | (rw [rest_nn h6 h11]; exact ⟨rfl, rfl⟩)
 ·
  have hb := tmod_bd (n := n) h6
  refine vskip ?_
  refine vseq ?_
  refine vregion ?_
  refine vone rfl (vxq (vmv rfl) rfl rfl ?_)
  refine vone rfl (vxq (vmv rfl) rfl rfl ?_)
  refine vone rfl (vxq (vrem rfl rfl (by omega)) rfl rfl ?_)
  refine vone rfl (vxq (vas rfl) rfl rfl ?_)
  refine vnil ?_
  refine vseq ?_
  refine vseq ?_
  refine vregion ?_
  refine vone rfl (vxq (vmv rfl) rfl rfl ?_)
  refine vone rfl (vxq (vlss rfl rfl) rfl rfl ?_)
  refine vnil ?_
  refine vcondd rfl (fun h11 => ?_) (fun h11 => ?_)
  ·
   refine vregion ?_
   refine vone rfl (vxq (vmv rfl) rfl rfl ?_)
   refine vone rfl (vxq (vmv rfl) rfl rfl ?_)
   refine vone rfl (vxq (vadd rfl rfl (by unfold InR; omega)) rfl rfl ?_)
   refine vone rfl (vxq (vas rfl) rfl rfl ?_)
   refine vnil ?_
   refine vseq ?_
   refine vregion ?_
   refine vone rfl (vxq (vmv rfl) rfl rfl ?_)
   refine vone rfl (vxq (vas rfl) rfl rfl ?_)
   refine vnil ?_
   refine vret (vr1 (H' := H) Tryd.func25 rfl (.tmp rfl) sb ?_)
   first | (rw [rest_lt h6]; exact ⟨rfl, rfl⟩) | (rw [rest_neg h6 h11]; exact ⟨rfl, rfl⟩) | (rw [rest_nn h6 h11]; exact ⟨rfl, rfl⟩)
  ·
   refine vskip ?_
   refine vseq ?_
   refine vregion ?_
   refine vone rfl (vxq (vmv rfl) rfl rfl ?_)
   refine vone rfl (vxq (vas rfl) rfl rfl ?_)
   refine vnil ?_
   refine vret (vr1 (H' := H) Tryd.func25 rfl (.tmp rfl) sb ?_)
   first | (rw [rest_lt h6]; exact ⟨rfl, rfl⟩) | (rw [rest_neg h6 h11]; exact ⟨rfl, rfl⟩) | (rw [rest_nn h6 h11]; exact ⟨rfl, rfl⟩)

theorem pick_nil {l : List Int} (i : Int) (h : (l.length : Int) = 0) : pickP l i = 0 := by
  have : l = [] := List.length_eq_zero_iff.1 (by omega)
  subst this; rfl
theorem pick_at {l : List Int} {i : Int} (h : ¬ (l.length : Int) = 0) : ∃ z, l[(restP i l.length).toNat]? = some z ∧ pickP l i = z ∧ 0 ≤ restP i l.length ∧ restP i l.length < l.length := by
  have hr := rest_bd (n := i) (m := (l.length : Int)) (by omega)
  obtain ⟨z, hz⟩ := get_of_lt l (i := (restP i l.length).toNat) (by omega)
  exact ⟨z, hz, by unfold pickP; rw [hz]; rfl, by omega, by omega⟩
theorem pick_in {l : List Int} {i : Int} (h : ∀ n ∈ l, InR n) : InR (pickP l i) := by
  unfold pickP
  cases hz : l[(restP i l.length).toNat]? with
  | none => exact ⟨by decide, by decide⟩
  | some z => exact h z (List.mem_of_getElem? hz)

/-- paravane/paravaneref00.Pick -/
theorem c_Pick (l : List Int) (oa : Option Addr) (c : Nat) (H : Heap) [hl : SlO H oa 1 encI l] (hn : l.length ≤ 9223372036854775807) (i : Int) (hi : InR i) : VHas Tryd.prog 79 [.slice oa l.length c, I i] (I (pickP l i)) (H) (H) := by
 refine vcall_of_vrun Tryd.func79 rfl (N := 15) rfl rfl ?_
 refine vseq ?_
 refine vregion ?_
 refine vone rfl (vxq (vas rfl) rfl rfl ?_)
 refine vnil ?_
 refine vseq ?_
 refine vseq ?_
 refine vregion ?_
 refine vone rfl (vxq (vmv rfl) rfl rfl ?_)
 refine vone rfl (vxq (vlen rfl) rfl rfl ?_)
 refine vone rfl (vxq (veql rfl rfl) rfl rfl ?_)
 refine vnil ?_
 refine vcondd rfl (fun h7 => ?_) (fun h7 => ?_)
 ·
  refine vseq ?_
  refine vregion ?_
  refine vone rfl (vxq (vas rfl) rfl rfl ?_)
  refine vnil ?_
  refine vret (vr1 (H' := H) Tryd.func79 rfl (.tmp rfl) sb ?_)
  first | (rw [pick_nil i h7]; exact ⟨rfl, rfl⟩) | (rw [hp]; exact ⟨rfl, rfl⟩)
 ·
  obtain ⟨z, hz, hp, hr0, hr1⟩ := pick_at (i := i) h7
  refine vskip ?_
  refine vseq ?_
  refine vregion ?_
  refine vone rfl (vxq (vmv rfl) rfl rfl ?_)
  refine vone rfl (vxq (vmv rfl) rfl rfl ?_)
  refine vone rfl (vxq (vmv rfl) rfl rfl ?_)
  refine vone rfl (vxq (vlen rfl) rfl rfl ?_)
  refine vone rfl (vxq (vcp rfl rfl rfl (c_Rest i _ hi (by unfold InR; omega))) rfl rfl ?_)
  refine vone rfl (vxq (visg (enc := encI) rfl rfl (by omega) hz) rfl rfl ?_)
  refine vone rfl (vxq (vldS1 (enc := encI) rfl hz rfl) rfl rfl ?_)
  refine vone rfl (vxq (vas rfl) rfl rfl ?_)
  refine vnil ?_
  refine vret (vr1 (H' := H) Tryd.func79 rfl (.tmp rfl) sb ?_)
  first | (rw [pick_nil i h7]; exact ⟨rfl, rfl⟩) | (rw [hp]; exact ⟨rfl, rfl⟩)

def bdP (p : Pt) : Prop := (-200000 ≤ p.x ∧ p.x ≤ 200000) ∧ -200000 ≤ p.y ∧ p.y ≤ 200000
theorem sqd_bd {a b : Int} (ha : -200000 ≤ a ∧ a ≤ 200000) (hb : -200000 ≤ b ∧ b ≤ 200000) : 0 ≤ (b - a) * (b - a) ∧ (b - a) * (b - a) ≤ 160000000000 :=
  ⟨sq_nn _, sq_abs (h := 400000) (by omega)⟩

/-- paravane/paravanelaw06.square -/
theorem c_sqr (p q : Pt) (hp : bdP p) (hq : bdP q) : VPure Tryd.prog 36 [vP p, vP q] (I (d2 p q)) := by
 unfold bdP at hp hq
 have hx := sqd_bd hp.1 hq.1
 have hy := sqd_bd hp.2 hq.2
 intro H
 refine vcall_of_vrun Tryd.func36 rfl (N := 24) rfl rfl ?_
 refine vseq ?_
 refine vregion ?_
 refine vone rfl (vxa (vbox rfl rfl) rfl rfl (fun b1 => ?_))
 refine vone rfl (vxa (vbox rfl rfl) rfl rfl (fun b2 => ?_))
 refine vone rfl (vxq (vas rfl) rfl rfl ?_)
 refine vnil ?_
 refine vseq ?_
 refine vdraw0 [(.q, 0), (.q, 1), (.q, 2), (.q, 3), (.q, 4), (.q, 5), (.q, 6), (.q, 7), (.q, 8), (.q, 9), (.q, 10), (.q, 11)] Tryd.mixed (by kernel_rfl) (by kernel_rfl) ?_
 refine vdq (mone rfl) (vfa rfl) rfl rfl ?_
 refine vdq (mone rfl) (vld1 rfl rfl) rfl rfl ?_
 refine vdq (mone rfl) (vfa rfl) rfl rfl ?_
 refine vdq (mone rfl) (vld1 rfl rfl) rfl rfl ?_
 refine vdq (mone rfl) (vsub rfl rfl (by unfold InR; omega)) rfl rfl ?_
 refine vdq (mone rfl) (vfa rfl) rfl rfl ?_
 refine vdq (mone rfl) (vld1 rfl rfl) rfl rfl ?_
 refine vdq (mone rfl) (vfa rfl) rfl rfl ?_
 refine vdq (mone rfl) (vld1 rfl rfl) rfl rfl ?_
 refine vdq (mone rfl) (vsub rfl rfl (by unfold InR; omega)) rfl rfl ?_
 refine vdq (mone rfl) (vas rfl) rfl rfl ?_
 refine vdq (mone rfl) (vas rfl) rfl rfl ?_
 refine vdend rfl ?_
 refine vseq ?_
 refine vregion ?_
 refine vone rfl (vxq (vmv rfl) rfl rfl ?_)
 refine vone rfl (vxq (vmv rfl) rfl rfl ?_)
 refine vone rfl (vxq (vmul rfl rfl (by unfold InR; omega)) rfl rfl ?_)
 refine vone rfl (vxq (vmv rfl) rfl rfl ?_)
 refine vone rfl (vxq (vmv rfl) rfl rfl ?_)
 refine vone rfl (vxq (vmul rfl rfl (by unfold InR; omega)) rfl rfl ?_)
 refine vone rfl (vxq (vadd rfl rfl (by unfold InR; omega)) rfl rfl ?_)
 refine vone rfl (vxq (vas rfl) rfl rfl ?_)
 refine vnil ?_
 refine vret (vr1 (H' := H) Tryd.func36 rfl (.tmp rfl) sb ?_)
 exact ⟨rfl, rfl⟩
end Go.Proofs.YtaplkoimhecacaaDoor
namespace Go.Proofs.YtaplkoimhecacaaDoor
open Go
set_option maxRecDepth 100000

/-! ### A region around a place -/
def aroundR (o : Pt) (n : Int) : Rg := ⟨⟨o.x - n, o.x + n⟩, ⟨o.y - n, o.y + n⟩, ⟨o.x + o.y - n, o.x + o.y + n⟩, ⟨o.x - o.y - n, o.x - o.y + n⟩⟩
def aroundL (o : Pt) (n : Int) : List Pt := [⟨o.x - n, o.y⟩, ⟨o.x + n, o.y⟩, ⟨o.x, o.y - n⟩, ⟨o.x, o.y + n⟩]
theorem hull4 {o : Pt} {n : Int} (hn : 0 ≤ n) : hullP (aroundL o n) = some (aroundR o n) := by
  unfold hullP aroundL aroundR
  simp only [List.foldl, addP, Option.getD, ofP, Rg.map2, Bd.span, Option.some.injEq, Rg.mk.injEq, Bd.mk.injEq]
  omega
def ptB (o : Pt) : Prop := (-20100 ≤ o.x ∧ o.x ≤ 20100) ∧ -20100 ≤ o.y ∧ o.y ≤ 20100
theorem of4 {o : Pt} {n : Int} (hn : 0 ≤ n ∧ n ≤ 3) (ho : ptB o) : ofE (aroundL o n) = (aroundR o n, 0) := by
  unfold ptB at ho
  unfold ofE
  rw [if_neg (by unfold aroundL; simp), if_neg (by unfold aroundL; simp), if_neg, hull4 hn.1]
  · rfl
  · intro h
    obtain ⟨p, hp, hq⟩ := List.any_eq_true.1 h
    have hok : p.ok := by
      unfold aroundL at hp
      simp only [List.mem_cons, List.not_mem_nil, or_false] at hp
      unfold Pt.ok
      rcases hp with rfl | rfl | rfl | rfl <;> simp only <;> omega
    rw [decide_eq_true hok] at hq; cases hq
theorem around_in {o : Pt} {n : Int} (hn : 0 ≤ n) : inR (aroundR o n) o := by unfold inR aroundR; simp only; omega
theorem around_small {o : Pt} {n : Int} (hn : 0 ≤ n ∧ n ≤ 3) (ho : ptB o) : smallR (aroundR o n) := by
  unfold ptB at ho
  obtain ⟨t, ht⟩ := tight_some (around_in (o := o) hn.1)
  refine ⟨?_, ?_, ?_, by rw [ht]; rfl⟩
  · unfold Rg.ok Bd.fits aroundR; simp only; omega
  · unfold aroundR; simp only; omega
  · unfold aroundR; simp only; omega
/-! ### Wrapped numbers -/
abbrev wr (n : Int) : Int := IntKind.i64.wrap n
theorem wr_in (n : Int) : InR (wr n) := by
  unfold InR wr
  simp [IntKind.wrap, IntKind.min, IntKind.max, IntKind.signed, IntKind.bits]
  omega
def swX (speed : Int) (bits : List Int) (a : Int) : Int := wr (restP (pickP bits a) (wr (wr (2 * speed) + 1)) - speed)
def swH (speed x : Int) : Int := (rootE (wr (wr (speed * speed) - wr (x * x)))).1
def swY (h : Int) (bits : List Int) (a : Int) : Int := wr (restP (pickP bits (a + 1)) (wr (wr (2 * h) + 1)) - h)
def swW (p : Pt) (speed : Int) (bits : List Int) (a : Int) : Pt := ⟨wr (p.x + swX speed bits a), wr (p.y + swY (swH speed (swX speed bits a)) bits a)⟩
theorem wr_id {n : Int} (h : InR n) : wr n = n := wrap_id h
theorem swW_eq {p : Pt} {speed : Int} {bits : List Int} {a : Int} (hs : 0 ≤ speed ∧ speed ≤ 1000) (hp : bdP p) : swW p speed bits a = swumP p speed bits a := by
  unfold bdP at hp
  have e1 : wr (wr (2 * speed) + 1) = 2 * speed + 1 := by rw [wr_id (n := 2 * speed) (by unfold InR; omega), wr_id (by unfold InR; omega)]
  have hx := swumX_bd hs.1 bits a
  have e2 : swX speed bits a = swumX speed bits a := by unfold swX; rw [e1]; exact wr_id (by unfold InR; unfold swumX at hx; omega)
  obtain ⟨hh0, hh1, hh2⟩ := swumH_bd (x := swumX speed bits a) (by omega : 0 ≤ speed ∧ speed ≤ 1048576) hx
  have hss := (mul_bd hs hs)
  have hxx := sq_abs hx
  have hxn := sq_nn (swumX speed bits a)
  have e3 : swH speed (swumX speed bits a) = swumH speed (swumX speed bits a) := by
    unfold swH swumH
    rw [wr_id (n := speed * speed) (by unfold InR; omega), wr_id (n := swumX speed bits a * swumX speed bits a) (by unfold InR; omega), wr_id (by unfold InR; omega)]
  have hy := swumY_bd hh0 bits a
  have e4 : swY (swumH speed (swumX speed bits a)) bits a = swumY (swumH speed (swumX speed bits a)) bits a := by
    unfold swY
    rw [wr_id (n := 2 * swumH speed (swumX speed bits a)) (by unfold InR; omega), wr_id (n := 2 * swumH speed (swumX speed bits a) + 1) (by unfold InR; omega)]
    exact wr_id (n := restP (pickP bits (a + 1)) (2 * swumH speed (swumX speed bits a) + 1) - swumH speed (swumX speed bits a)) (by unfold InR; unfold swumY at hy; omega)
  unfold swW swumP
  rw [e2, e3, e4, wr_id (by unfold InR; omega), wr_id (by unfold InR; omega)]
def sqW (p q : Pt) : Int := wr (wr (wr (q.x - p.x) * wr (q.x - p.x)) + wr (wr (q.y - p.y) * wr (q.y - p.y)))
theorem sqW_eq {p q : Pt} (hp : bdP p) (hq : bdP q) : sqW p q = d2 p q := by
  unfold bdP at hp hq
  have hx := sqd_bd hp.1 hq.1
  have hy := sqd_bd hp.2 hq.2
  unfold sqW d2
  rw [wr_id (n := q.x - p.x) (by unfold InR; omega), wr_id (n := q.y - p.y) (by unfold InR; omega), wr_id (n := (q.x - p.x) * (q.x - p.x)) (by unfold InR; omega), wr_id (n := (q.y - p.y) * (q.y - p.y)) (by unfold InR; omega), wr_id (by unfold InR; omega)]
/-- The first octant into which a way leads. -/
def octW (x y : Int) : Int := if y ≥ 0 ∧ IntKind.i64.wrap (x - y) ≥ 0 then 0 else if x ≥ 0 ∧ IntKind.i64.wrap (x - y) ≤ 0 then 1 else if x ≤ 0 ∧ IntKind.i64.wrap (x + y) ≥ 0 then 2 else if y ≥ 0 ∧ IntKind.i64.wrap (x + y) ≤ 0 then 3 else if y ≤ 0 ∧ IntKind.i64.wrap (x - y) ≤ 0 then 4 else if x ≤ 0 ∧ IntKind.i64.wrap (x - y) ≥ 0 then 5 else if x ≥ 0 ∧ IntKind.i64.wrap (x + y) ≤ 0 then 6 else 7
theorem octW_bd (x y : Int) : 0 ≤ octW x y ∧ octW x y ≤ 7 := by
  unfold octW
  repeat' split
  all_goals omega
theorem octW_ok {x y : Int} (hx : -1000000 ≤ x ∧ x ≤ 1000000) (hy : -1000000 ≤ y ∧ y ≤ 1000000) : octT (octW x y) x y := by
  have e1 : IntKind.i64.wrap (x - y) = x - y := wr_id (by unfold InR; omega)
  have e2 : IntKind.i64.wrap (x + y) = x + y := wr_id (by unfold InR; omega)
  unfold octW octT
  rw [e1, e2]
  repeat' split
  all_goals omega

end Go.Proofs.YtaplkoimhecacaaDoor
namespace Go.Proofs.YtaplkoimhecacaaDoor
open Go
set_option maxRecDepth 100000

attribute [local irreducible] tightP hullP rootP farP rows endsOf
section
variable {P : Program} {f : FuncId} {ro : Option Nat} {N : Nat} {k k' : List Item} {E E' : Env} {D : List Deferred} {H H' : Heap} {Q : Out → Heap → Prop}
/-- Where ways through a text meet again. -/
theorem vjoin {C : Prop} (h2 : (C → VRun P f ro N k' E' D H' Q) → VRun P f ro N k E D H Q) (h1 : C → VRun P f ro N k' E' D H' Q) : VRun P f ro N k E D H Q := h2 h1
end
/-- What the search backwards keeps. -/
structure LdI (w : Wn) (ms : List Int) (k zk : Int) (i want silent : Int) : Prop where
  ib : -1 ≤ i ∧ i ≤ k
  wtb : -1 ≤ want ∧ want ≤ w.soft + 1
  slb : 0 ≤ silent ∧ silent ≤ w.pause
  eb : ledN w ms k.toNat (i + 1).toNat want silent = ledN w ms k.toNat (k.toNat + 1) zk 0
end Go.Proofs.YtaplkoimhecacaaDoor
namespace Go.Proofs.YtaplkoimhecacaaDoor
open Go
set_option maxRecDepth 100000

attribute [local irreducible] tightP hullP rootP farP rows endsOf restP meetE
theorem SlO.tk {α : Type} {H : Heap} {oa : Option Addr} {esz : Nat} {enc : α → List Value} {xs : List α} (h : SlO H oa esz enc xs) (n : Nat) : SlO H oa esz enc (xs.take n) := by
  refine ⟨fun i x hx => ?_⟩
  rw [List.getElem?_take] at hx
  split at hx
  · exact h.el i x hx
  · cases hx
section
variable {P : Program} {N : Nat} {E : Env} {D : List Deferred} {H : Heap} {d : Nat} {x y : Operand} {T ty : TypeId} {pos : String} {af : Array Edge} {g : Option (Nat × Bool)}
end
section
end
end Go.Proofs.YtaplkoimhecacaaDoor
namespace Go.Proofs.YtaplkoimhecacaaDoor
open Go
set_option maxRecDepth 100000

def bobB : ByteArray := ByteArray.mk #[98, 111, 98]
theorem name_bob : nameP bobB := by
  refine ⟨by decide, fun j hj => ?_⟩
  have hj : j < 3 := hj
  have : j = 0 ∨ j = 1 ∨ j = 2 := by omega
  rcases this with rfl | rfl | rfl <;> exact .inl (by unfold letP; decide)
end Go.Proofs.YtaplkoimhecacaaDoor
namespace Go.Proofs.YtaplkoimhecacaaDoor
open Go
set_option maxRecDepth 100000

def calB : ByteArray := ByteArray.mk #[99, 97, 108]
def nmL : List ByteArray := [annB, bobB, calB]
def nmI (i : Nat) : ByteArray := (nmL[i]?).getD annB
structure STt where
  ship : List Rg
  src : List Rg
  eyes : List Bool
  ears : List Bool
  sg : List Sg
  guns : List Pt
  all : List (List Pt)
  an : List Pt
def STt.sc (S : STt) : Sc := ⟨S.ship, S.src, S.eyes, S.ears, S.sg⟩
def newP (w : Wn) (lb : List Int) (t i : Nat) (p : Pt) : Pt := if t = 0 then p else swW p w.speed lb (7 * t + 3 * i)
def seeS (lb : List Int) (wd : Int) (t i : Nat) (o p : Pt) (n : Nat) : Option Sg :=
  if (rootE (sqW o p)).2 ≠ 0 ∨ (rootE (sqW o p)).1 > 250 ∨ restP (pickP lb (5 * t + i)) 3 > 0 ∨ n = 32 then none
  else some ⟨t, nmI i, if restP (pickP lb (t + i)) 2 = 0 ∧ (t : Int) % 2 = 0 then -1 else octW (wr (p.x - o.x)) (wr (p.y - o.y)), max 0 ((rootE (sqW o p)).1 - restP wd 5), (rootE (sqW o p)).1 + 1 + restP wd 5⟩
def inB (p : Pt) : Prop := (-25000 ≤ p.x ∧ p.x ≤ 25000) ∧ -25000 ≤ p.y ∧ p.y ≤ 25000
instance (p : Pt) : Decidable (inB p) := by unfold inB; exact inferInstance
def ok20 (p : Pt) : Prop := (-20000 ≤ p.x ∧ p.x ≤ 20000) ∧ -20000 ≤ p.y ∧ p.y ≤ 20000
instance (p : Pt) : Decidable (ok20 p) := by unfold ok20; exact inferInstance
def innF (w : Wn) (lb : List Int) (wd : Int) (t : Nat) (o : Pt) (an : List Pt) (sg : List Sg) : Nat → Option (List Pt × List Sg)
  | 0 => some ([], sg)
  | i + 1 => match innF w lb wd t o an sg i with
    | none => none
    | some (now, sg') => match an[i]? with
      | none => none
      | some p => if inB p then some (now ++ [newP w lb t i p], sg' ++ (seeS lb wd t i o (newP w lb t i p) sg'.length).toList) else none
def outF (w : Wn) (ls la : List Pt) (lb : List Int) (wd : Int) : Nat → Option STt
  | 0 => some ⟨[], [], [], [], [], [], [], la⟩
  | t + 1 => match outF w ls la lb wd t with
    | none => none
    | some S => match ls[t]? with
      | none => none
      | some o => if ok20 o then match innF w lb wd t o S.an S.sg S.an.length with
          | none => none
          | some (now, sg') => some ⟨S.ship ++ [aroundR o (restP wd 4)], S.src ++ [aroundR ⟨o.x - 10, o.y⟩ (restP wd 3)], S.eyes ++ [true], S.ears ++ [decide ((t : Int) % 2 = 0)], sg', S.guns ++ [⟨o.x - 10, o.y⟩], S.all ++ [now], now⟩
        else none
theorem opt_len {α : Type} (o : Option α) : o.toList.length ≤ 1 := by cases o <;> simp
theorem innF_len {w : Wn} {lb : List Int} {wd : Int} {t : Nat} {o : Pt} {an : List Pt} {sg : List Sg} (h32 : sg.length ≤ 32) : ∀ {i : Nat} {now : List Pt} {sg' : List Sg}, innF w lb wd t o an sg i = some (now, sg') → now.length = i ∧ i ≤ an.length ∧ sg'.length ≤ 32
  | 0, now, sg', h => by cases h; exact ⟨rfl, by omega, h32⟩
  | i + 1, now, sg', h => by
    simp only [innF] at h
    cases h1 : innF w lb wd t o an sg i with
    | none => rw [h1] at h; cases h
    | some q =>
      obtain ⟨n0, s0⟩ := q
      obtain ⟨a1, a2, a3⟩ := innF_len h32 h1
      rw [h1] at h
      cases h2 : an[i]? with
      | none => rw [h2] at h; cases h
      | some p =>
        rw [h2] at h
        simp only at h
        split at h
        · cases h
          refine ⟨by simp [a1], by have := (List.getElem?_eq_some_iff.1 h2).1; omega, ?_⟩
          rw [List.length_append]
          have hl := opt_len (seeS lb wd t i o (newP w lb t i p) s0.length)
          by_cases e : s0.length = 32
          · have : seeS lb wd t i o (newP w lb t i p) s0.length = none := if_pos (.inr (.inr (.inr e)))
            rw [this]; simpa using a3
          · omega
        · cases h
/-- What the steps of the inner loop keep. -/
structure InnI (w : Wn) (lb : List Int) (wd : Int) (t : Nat) (o : Pt) (an : List Pt) (sg : List Sg) (i : Nat) (now : List Pt) (sg' : List Sg) : Prop where
  len : now.length = i
  at_ : ∀ (k : Nat) q, now[k]? = some q → ∃ p, an[k]? = some p ∧ inB p ∧ q = newP w lb t k p
  new : ∃ l, sg' = sg ++ l ∧ ∀ x ∈ l, ∃ (k : Nat) (p : Pt) (n : Nat), now[k]? = some p ∧ seeS lb wd t k o p n = some x
theorem innF_spec {w : Wn} {lb : List Int} {wd : Int} {t : Nat} {o : Pt} {an : List Pt} {sg : List Sg} (h32 : sg.length ≤ 32) : ∀ {i : Nat} {now : List Pt} {sg' : List Sg}, innF w lb wd t o an sg i = some (now, sg') → InnI w lb wd t o an sg i now sg'
  | 0, now, sg', h => by cases h; exact ⟨rfl, fun k q hk => by simp at hk, [], by simp, fun x hx => by cases hx⟩
  | i + 1, now, sg', h => by
    have hlen := (innF_len h32 h).1
    simp only [innF] at h
    cases h1 : innF w lb wd t o an sg i with
    | none => rw [h1] at h; cases h
    | some q =>
      obtain ⟨n0, s0⟩ := q
      obtain ⟨b1, b2, l, b3, b4⟩ := innF_spec h32 h1
      rw [h1] at h
      cases h2 : an[i]? with
      | none => rw [h2] at h; cases h
      | some p =>
        rw [h2] at h
        simp only at h
        split at h
        · rename_i hin
          cases h
          refine ⟨hlen, fun k q hk => ?_, l ++ (seeS lb wd t i o (newP w lb t i p) s0.length).toList, by rw [b3, List.append_assoc], fun x hx => ?_⟩
          · by_cases hkl : k < n0.length
            · rw [List.getElem?_append_left hkl] at hk; exact b2 k q hk
            · have hlt := (List.getElem?_eq_some_iff.1 hk).1
              rw [List.length_append, List.length_singleton] at hlt
              have e : k = n0.length := by omega
              subst e
              rw [List.getElem?_append_right (Nat.le_refl _)] at hk
              simp at hk
              subst hk
              rw [b1]
              exact ⟨p, h2, hin, rfl⟩
          · rcases List.mem_append.1 hx with hx | hx
            · obtain ⟨k, p', n, c1, c2⟩ := b4 x hx
              exact ⟨k, p', n, by rw [List.getElem?_append_left (List.getElem?_eq_some_iff.1 c1).1]; exact c1, c2⟩
            · rw [Option.mem_toList] at hx
              exact ⟨i, newP w lb t i p, s0.length, by rw [List.getElem?_append_right (by omega)]; simp [b1], hx⟩
        · cases h
/-- What a sighting says. -/
structure SgT (t k : Nat) (o p : Pt) (x : Sg) : Prop where
  st : x.st = t
  nm : x.nm = nmI k
  tr : bdP o → bdP p → trueS x o p ∧ x.nr ≤ x.fr
  oc : (0 ≤ x.oc ∧ x.oc ≤ 7) ∨ (x.oc = -1 ∧ (t : Int) % 2 = 0)
theorem seeS_t {lb : List Int} {wd : Int} {t k n : Nat} {o p : Pt} {x : Sg} (h : seeS lb wd t k o p n = some x) : SgT t k o p x := by
  unfold seeS at h
  split at h
  · cases h
  rename_i hc
  simp only [Option.some.injEq] at h
  subst h
  refine ⟨rfl, rfl, fun ho hp => ?_, ?_⟩
  · rw [sqW_eq ho hp] at *
    have hr : 0 ≤ d2 o p ∧ d2 o p ≤ 1099511627776 := by
      by_cases hq : 0 ≤ d2 o p ∧ d2 o p ≤ 1099511627776
      · exact hq
      · exact absurd (.inl (by unfold rootE; rw [if_neg hq]; decide)) hc
    have e : (rootE (d2 o p)).1 = rootP (d2 o p) := by unfold rootE; rw [if_pos hr]
    have h250 : ¬ (rootE (d2 o p)).1 > 250 := fun e => hc (.inr (.inl e))
    rw [e] at *
    have hi := rootP_is hr.1
    unfold IsRt at hi
    obtain ⟨i1, i2, i3⟩ := hi
    have hk := rest_bd (n := wd) (m := 5) (by omega)
    have hs : rootP (d2 o p) * rootP (d2 o p) + 2 * rootP (d2 o p) + 1 = (rootP (d2 o p) + 1) * (rootP (d2 o p) + 1) := by grind
    have n1 : max 0 (rootP (d2 o p) - restP wd 5) * max 0 (rootP (d2 o p) - restP wd 5) ≤ rootP (d2 o p) * rootP (d2 o p) := Int.mul_le_mul (by omega) (by omega) (by omega) (by omega)
    have n2 : (rootP (d2 o p) + 1) * (rootP (d2 o p) + 1) ≤ (rootP (d2 o p) + 1 + restP wd 5) * (rootP (d2 o p) + 1 + restP wd 5) := Int.mul_le_mul (by omega) (by omega) (by omega) (by omega)
    unfold bdP at ho hp
    refine ⟨⟨⟨?_, ?_⟩, ⟨?_, ?_, ?_⟩, ?_⟩, ?_⟩
    · show 0 ≤ max 0 _; omega
    · show max 0 _ * max 0 _ ≤ _; omega
    · show 0 ≤ _ + 1 + _; omega
    · show _ + 1 + _ ≤ (256 : Int); omega
    · show _ ≤ (_ + 1 + _) * (_ + 1 + _); omega
    · dsimp only
      split
      · exact .inr rfl
      · left
        rw [wr_id (n := p.x - o.x) (by unfold InR; omega), wr_id (n := p.y - o.y) (by unfold InR; omega)]
        exact octW_ok (by omega) (by omega)
    · show max 0 _ ≤ _ + 1 + _; omega
  · dsimp only
    split
    · rename_i hq; exact .inr ⟨rfl, hq.2⟩
    · exact .inl (octW_bd _ _)

end Go.Proofs.YtaplkoimhecacaaDoor
namespace Go.Proofs.YtaplkoimhecacaaDoor
open Go
set_option maxRecDepth 100000

/-- What the steps keep, whatever the numbers. -/
structure OutL (ls la : List Pt) (wd : Int) (t : Nat) (S : STt) : Prop where
  l1 : S.ship.length = t
  l2 : S.src.length = t
  l3 : S.eyes.length = t
  l4 : S.ears.length = t
  l5 : S.guns.length = t
  l6 : S.all.length = t
  l7 : S.an.length = la.length
  l8 : S.sg.length ≤ 32
  at_ : ∀ j, j < t → ∃ o, ls[j]? = some o ∧ ok20 o ∧ S.ship[j]? = some (aroundR o (restP wd 4)) ∧ S.src[j]? = some (aroundR ⟨o.x - 10, o.y⟩ (restP wd 3)) ∧ S.eyes[j]? = some true ∧ S.ears[j]? = some (decide ((j : Int) % 2 = 0)) ∧ S.guns[j]? = some ⟨o.x - 10, o.y⟩ ∧ ∃ row, S.all[j]? = some row ∧ row.length = la.length
theorem get_snoc {α : Type} {l : List α} {x y : α} {j : Nat} (h : (l ++ [x])[j]? = some y) : (j < l.length ∧ l[j]? = some y) ∨ (j = l.length ∧ y = x) := by
  by_cases hj : j < l.length
  · rw [List.getElem?_append_left hj] at h; exact .inl ⟨hj, h⟩
  · have hlt := (List.getElem?_eq_some_iff.1 h).1
    rw [List.length_append, List.length_singleton] at hlt
    have e : j = l.length := by omega
    subst e
    rw [List.getElem?_append_right (Nat.le_refl _)] at h
    simp at h
    exact .inr ⟨rfl, h.symm⟩
theorem at_snoc {α : Type} {l : List α} {x : α} {n : Nat} (hn : l.length = n) : (l ++ [x])[n]? = some x := by subst hn; simp
theorem at_left {α : Type} {l : List α} {x y : α} {j : Nat} (h : l[j]? = some y) : (l ++ [x])[j]? = some y := by rw [List.getElem?_append_left (List.getElem?_eq_some_iff.1 h).1]; exact h
/-- One step of the outer loop, taken apart. -/
theorem outF_succ {w : Wn} {ls la : List Pt} {lb : List Int} {wd : Int} {t : Nat} {S' : STt} (h : outF w ls la lb wd (t + 1) = some S') : ∃ S o now sg', outF w ls la lb wd t = some S ∧ ls[t]? = some o ∧ ok20 o ∧ innF w lb wd t o S.an S.sg S.an.length = some (now, sg') ∧
    S' = ⟨S.ship ++ [aroundR o (restP wd 4)], S.src ++ [aroundR ⟨o.x - 10, o.y⟩ (restP wd 3)], S.eyes ++ [true], S.ears ++ [decide ((t : Int) % 2 = 0)], sg', S.guns ++ [⟨o.x - 10, o.y⟩], S.all ++ [now], now⟩ := by
  simp only [outF] at h
  cases h1 : outF w ls la lb wd t with
  | none => rw [h1] at h; cases h
  | some S =>
    rw [h1] at h
    cases h2 : ls[t]? with
    | none => rw [h2] at h; cases h
    | some o =>
      rw [h2] at h
      simp only at h
      split at h
      · rename_i ho
        cases h3 : innF w lb wd t o S.an S.sg S.an.length with
        | none => rw [h3] at h; cases h
        | some q => obtain ⟨now, sg'⟩ := q; rw [h3] at h; cases h; exact ⟨S, o, now, sg', rfl, rfl, ho, h3, rfl⟩
      · cases h
theorem outF_len {w : Wn} {ls la : List Pt} {lb : List Int} {wd : Int} : ∀ {t : Nat} {S : STt}, outF w ls la lb wd t = some S → OutL ls la wd t S
  | 0, S, h => by cases h; exact ⟨rfl, rfl, rfl, rfl, rfl, rfl, rfl, by simp, fun j hj => by omega⟩
  | t + 1, S', h => by
    obtain ⟨S, o, now, sg', h1, h2, h3, h4, rfl⟩ := outF_succ h
    obtain ⟨a1, a2, a3, a4, a5, a6, a7, a8, a9⟩ := outF_len h1
    obtain ⟨b1, _, b3⟩ := innF_len a8 h4
    refine ⟨by simp [a1], by simp [a2], by simp [a3], by simp [a4], by simp [a5], by simp [a6], by rw [← a7]; exact b1, b3, fun j hj => ?_⟩
    by_cases e : j = t
    · subst e
      exact ⟨o, h2, h3, at_snoc a1, at_snoc a2, at_snoc a3, at_snoc a4, at_snoc a5, now, at_snoc a6, by rw [b1, a7]⟩
    · obtain ⟨o', c1, c2, c3, c4, c5, c6, c7, row, c8, c9⟩ := a9 j (by omega)
      exact ⟨o', c1, c2, at_left c3, at_left c4, at_left c5, at_left c6, at_left c7, row, at_left c8, c9⟩
/-- What the steps keep, for numbers of a watch. -/
structure OutI (w : Wn) (ls la : List Pt) (t : Nat) (S : STt) : Prop where
  pos : ∀ (j : Nat) row, S.all[j]? = some row → ∀ p ∈ row, (-25100 ≤ p.x ∧ p.x ≤ 25100) ∧ -25100 ≤ p.y ∧ p.y ≤ 25100
  swim : ∀ (j : Nat) r0 r1, S.all[j]? = some r0 → S.all[j + 1]? = some r1 → ∀ (i : Nat) p q, r0[i]? = some p → r1[i]? = some q → d2 p q ≤ w.speed * w.speed
  last : t = 0 ∨ S.all[t - 1]? = some S.an
  sg : ∀ x ∈ S.sg, ∃ (j k : Nat) (o : Pt) (row : List Pt) (p : Pt), j < t ∧ ls[j]? = some o ∧ ok20 o ∧ S.all[j]? = some row ∧ row[k]? = some p ∧ k < la.length ∧ SgT j k o p x
  sort : sortedS S.sg
theorem sort_app {l m : List Sg} {t : Int} (h : sortedS l) (hl : ∀ x ∈ l, x.st ≤ t) (hm : ∀ x ∈ m, x.st = t) : sortedS (l ++ m) := fun i x y hx hy => by
  by_cases hj : i + 1 < l.length
  · rw [List.getElem?_append_left (by omega)] at hx; rw [List.getElem?_append_left hj] at hy; exact h i x y hx hy
  · rw [List.getElem?_append_right (by omega)] at hy
    have h1 := hm y (List.mem_of_getElem? hy)
    rcases List.mem_append.1 (List.mem_of_getElem? hx) with h2 | h2
    · have := hl x h2; omega
    · have := hm x h2; omega
theorem d2_self (p : Pt) : d2 p p = 0 := by unfold d2; simp
theorem newP_bd {w : Wn} (hw : okW w) {lb : List Int} {t i : Nat} {p : Pt} (hp : inB p) : d2 p (newP w lb t i p) ≤ w.speed * w.speed ∧ (-25100 ≤ (newP w lb t i p).x ∧ (newP w lb t i p).x ≤ 25100) ∧ -25100 ≤ (newP w lb t i p).y ∧ (newP w lb t i p).y ≤ 25100 := by
  unfold okW at hw
  unfold inB at hp
  unfold newP
  split
  · rw [d2_self]; exact ⟨sq_nn _, by omega, by omega⟩
  · rw [swW_eq (by omega) (by unfold bdP; omega)]
    obtain ⟨a1, a2, a3⟩ := swum_bd (p := p) (speed := w.speed) (bits := lb) (a := 7 * t + 3 * i) (by omega)
    exact ⟨a1, by omega, by omega⟩
theorem outF_inv {w : Wn} (hw : okW w) {ls la : List Pt} {lb : List Int} {wd : Int} : ∀ {t : Nat} {S : STt}, outF w ls la lb wd t = some S → OutI w ls la t S
  | 0, S, h => by cases h; exact ⟨fun j row h => by simp at h, fun j r0 r1 h => by simp at h, .inl rfl, (fun x h => by cases h), fun i x y h => by simp at h⟩
  | t + 1, S', h => by
    obtain ⟨S, o, now, sg', h1, h2, h3, h4, rfl⟩ := outF_succ h
    have hL := outF_len h1
    obtain ⟨a1, a2, a3, a4, a5⟩ := outF_inv hw h1
    obtain ⟨b1, b2, l, b3, b4⟩ := innF_spec hL.l8 h4
    have hst : ∀ x ∈ S.sg, x.st ≤ t := fun x hx => by
      obtain ⟨j, k, _, _, _, c1, _, _, _, _, _, c2⟩ := a4 x hx
      rw [c2.st]; omega
    refine ⟨fun j row hr p hp => ?_, fun j r0 r1 hr0 hr1 i p q hp hq => ?_, .inr (at_snoc hL.l6), fun x hx => ?_, ?_⟩
    · rcases get_snoc hr with ⟨_, hr⟩ | ⟨_, rfl⟩
      · exact a1 j row hr p hp
      · obtain ⟨k, hk⟩ := List.getElem?_of_mem hp
        obtain ⟨p0, _, c2, rfl⟩ := b2 k p hk
        exact (newP_bd hw c2).2
    · rcases get_snoc hr1 with ⟨_, hr1⟩ | ⟨e, rfl⟩
      · rcases get_snoc hr0 with ⟨_, hr0⟩ | ⟨e2, _⟩
        · exact a2 j r0 r1 hr0 hr1 i p q hp hq
        · have := (List.getElem?_eq_some_iff.1 hr1).1; omega
      · rcases get_snoc hr0 with ⟨_, hr0⟩ | ⟨e2, _⟩
        · rw [hL.l6] at e
          rcases a3 with h0 | h0
          · omega
          · rw [show t - 1 = j by omega, hr0] at h0
            cases h0
            obtain ⟨p0, c1, c2, rfl⟩ := b2 i q hq
            rw [hp] at c1; cases c1
            exact (newP_bd hw c2).1
        · omega
    · rw [b3] at hx
      rcases List.mem_append.1 hx with hx | hx
      · obtain ⟨j, k, o', row, p, c1, c2, c3, c4, c5, c6, c7⟩ := a4 x hx
        exact ⟨j, k, o', row, p, by omega, c2, c3, at_left c4, c5, c6, c7⟩
      · obtain ⟨k, p, n, c1, c2⟩ := b4 x hx
        have hk := (List.getElem?_eq_some_iff.1 c1).1
        exact ⟨t, k, o, now, p, by omega, h2, h3, at_snoc hL.l6, c1, by rw [b1, hL.l7] at hk; exact hk, seeS_t c2⟩
    · show sortedS sg'
      rw [b3]
      refine sort_app (t := t) a5 hst fun x hx => ?_
      obtain ⟨k, p, n, _, c2⟩ := b4 x hx
      exact (seeS_t c2).st
/-! ### The scene is valid, and true -/
theorem nmI_ok (k : Nat) : nameP (nmI k) := by
  unfold nmI nmL
  rcases k with _ | _ | _ | k
  · exact name_ann
  · exact name_bob
  · refine ⟨by decide, fun j hj => ?_⟩
    have hj : j < 3 := hj
    have : j = 0 ∨ j = 1 ∨ j = 2 := by omega
    rcases this with rfl | rfl | rfl <;> exact .inl (by unfold letP; decide)
  · exact name_ann
theorem nmI_inj {i k : Nat} (hi : i < 3) (hk : k < 3) (h : nmI i = nmI k) : i = k := by
  have h1 : i = 0 ∨ i = 1 ∨ i = 2 := by omega
  have h2 : k = 0 ∨ k = 1 ∨ k = 2 := by omega
  rcases h1 with rfl | rfl | rfl <;> rcases h2 with rfl | rfl | rfl <;> first | rfl | exact absurd h (by decide)
theorem ok20_ptB {o : Pt} (h : ok20 o) : ptB o ∧ ptB ⟨o.x - 10, o.y⟩ ∧ bdP o := by unfold ok20 at h; unfold ptB bdP; simp only; omega
theorem seen_ok {w : Wn} {ls la : List Pt} {lb : List Int} {wd : Int} {n : Nat} {S : STt} (hw : okW w) (h : outF w ls la lb wd n = some S) (h0 : 0 < n) (h20 : n ≤ 20) : okSc S.sc := by
  have hL := outF_len h
  have hI := outF_inv hw h
  have r4 := rest_bd (n := wd) (m := 4) (by omega)
  have r3 := rest_bd (n := wd) (m := 3) (by omega)
  refine ⟨by show 1 ≤ S.ship.length ∧ S.ship.length ≤ 64; rw [hL.l1]; omega, by show S.src.length = S.ship.length; rw [hL.l1, hL.l2], by show S.eyes.length = S.ship.length; rw [hL.l1, hL.l3], by show S.ears.length = S.ship.length; rw [hL.l1, hL.l4], hL.l8, fun r hr => ?_, fun r hr => ?_, fun x hx => ?_, hI.sort⟩
  · obtain ⟨j, hj⟩ := List.getElem?_of_mem hr
    have hlt := (List.getElem?_eq_some_iff.1 hj).1
    have hlt : j < S.ship.length := hlt
    obtain ⟨o, _, c2, c3, _⟩ := hL.at_ j (by rw [hL.l1] at hlt; exact hlt)
    have hj : S.ship[j]? = some r := hj
    rw [c3] at hj; cases hj
    exact around_small (by omega) (ok20_ptB c2).1
  · obtain ⟨j, hj⟩ := List.getElem?_of_mem hr
    have hlt : j < S.src.length := (List.getElem?_eq_some_iff.1 hj).1
    obtain ⟨o, _, c2, _, c4, _⟩ := hL.at_ j (by rw [hL.l2] at hlt; exact hlt)
    have hj : S.src[j]? = some r := hj
    rw [c4] at hj; cases hj
    exact around_small (by omega) (ok20_ptB c2).2.1
  · obtain ⟨j, k, o, row, p, d1, d2, d3, d4, d5, d6, d7⟩ := hI.sg x hx
    obtain ⟨o', e1, _, _, _, e5, e6, _⟩ := hL.at_ j d1
    have hp := hI.pos j row d4 p (List.mem_of_getElem? d5)
    obtain ⟨⟨t1, t2, t3⟩, t4⟩ := d7.tr (ok20_ptB d3).2.2 (by unfold bdP; omega)
    have hst := d7.st
    refine ⟨by show 0 ≤ x.st ∧ x.st < (S.ship.length : Int); rw [hst, hL.l1]; omega, by rw [d7.nm]; exact nmI_ok k, ⟨t1.1, t4, t2.2.1⟩, ?_⟩
    rcases d7.oc with hoc | ⟨hoc, hev⟩
    · exact .inl ⟨hoc, by rw [hst]; exact atB_of (by show S.eyes[_]? = _; rw [Int.toNat_natCast]; exact e5)⟩
    · refine .inr ⟨hoc, ?_⟩
      rw [hst]; refine atB_of ?_
      show S.ears[_]? = _
      rw [Int.toNat_natCast, e6, decide_eq_true hev]
def posO (ls : List Pt) (j : Nat) : Pt := (ls[j]?).getD ⟨0, 0⟩
def posQ (S : STt) (i j : Nat) : Pt := (((S.all[j]?).getD [])[i]?).getD ⟨0, 0⟩
theorem row_at {w : Wn} {ls la : List Pt} {lb : List Int} {wd : Int} {n : Nat} {S : STt} (h : outF w ls la lb wd n = some S) {i j : Nat} (hj : j < n) (hi : i < la.length) : ∃ row p, S.all[j]? = some row ∧ row[i]? = some p ∧ row.length = la.length ∧ posQ S i j = p := by
  obtain ⟨o, _, _, _, _, _, _, _, row, c1, c2⟩ := (outF_len h).at_ j hj
  obtain ⟨p, hp⟩ := get_of_lt row (i := i) (by omega)
  exact ⟨row, p, c1, hp, c2, by unfold posQ; rw [c1]; simp only [Option.getD_some]; rw [hp]; rfl⟩
theorem seen_live {w : Wn} {ls la : List Pt} {lb : List Int} {wd : Int} {n : Nat} {S : STt} (hw : okW w) (h : outF w ls la lb wd n = some S) (h0 : 0 < n) (h20 : n ≤ 20) (h3 : la.length ≤ 3) {i : Nat} (hi : i < la.length) : Live w S.sc (nmI i) n (posO ls) (posQ S i) := by
  have hL := outF_len h
  have hI := outF_inv hw h
  have r4 := rest_bd (n := wd) (m := 4) (by omega)
  refine ⟨fun t ht => ?_, fun t ht => ?_, fun t ht => ?_, fun x hx hn => ?_⟩
  · obtain ⟨o, c1, c2, c3, _⟩ := hL.at_ t ht
    have e : posO ls t = o := by unfold posO; rw [c1]; rfl
    have e2 : atR S.sc.ship t = aroundR o (restP wd 4) := atR_of c3
    rw [e, e2]
    exact ⟨(around_small (by omega) (ok20_ptB c2).1).1, around_in r4.1⟩
  · obtain ⟨row, p, c1, c2, _, c4⟩ := row_at h ht hi
    have := hI.pos t row c1 p (List.mem_of_getElem? c2)
    rw [c4]; unfold Pt.ok; omega
  · obtain ⟨r0, p, c1, c2, _, c4⟩ := row_at h (show t < n by omega) hi
    obtain ⟨r1, q, e1, e2, _, e4⟩ := row_at h ht hi
    rw [c4, e4]
    exact hI.swim t r0 r1 c1 e1 i p q c2 e2
  · obtain ⟨j, k, o, row, p, d1, d2, d3, d4, d5, d6, d7⟩ := hI.sg x hx
    rw [d7.nm] at hn
    have hki := nmI_inj (by omega) (by omega) hn
    subst hki
    have hp := hI.pos j row d4 p (List.mem_of_getElem? d5)
    have hst := d7.st
    have e1 : posO ls x.st.toNat = o := by rw [hst, Int.toNat_natCast]; unfold posO; rw [d2]; rfl
    have e2 : posQ S k x.st.toNat = p := by rw [hst, Int.toNat_natCast]; unfold posQ; rw [d4]; simp only [Option.getD_some]; rw [d5]; rfl
    refine ⟨by rw [hst]; omega, ?_⟩
    rw [e1, e2]
    exact (d7.tr (ok20_ptB d3).2.2 (by unfold bdP; omega)).1
theorem seen_danger {w : Wn} {ls la : List Pt} {lb : List Int} {wd : Int} {n : Nat} {S : STt} (hw : okW w) (h : outF w ls la lb wd n = some S) (h0 : 0 < n) (h20 : n ≤ 20) (h3 : la.length ≤ 3) : (dangerE w S.sc).2 = 0 ∧ (dangerE w S.sc).1.length = n := by
  have hL := outF_len h
  have hI := outF_inv hw h
  have hs := seen_ok hw h h0 h20
  have hn : S.sc.ship.length = n := hL.l1
  have hw' := hw
  unfold okW at hw'
  have hok : okAll w S.sc S.sc.ship.length = true := by
    refine List.all_eq_true.2 fun x hx => ?_
    obtain ⟨j, k, o, row, p, d1, d2, d3, d4, d5, d6, d7⟩ := hI.sg x hx
    have hl := seen_live hw h h0 h20 h3 d6
    rw [hn, d7.nm]
    exact (hl.track (by omega) hs.ships (Nat.le_refl n)).1
  have hr : riskP w S.sc = some (riskL w S.sc) := by unfold riskP; rw [if_pos hok]
  rw [danger_y (both_z hw hs) hr]
  exact ⟨rfl, by show (riskL w S.sc).length = n; unfold riskL; simp [hn]⟩
/-- **The theorem of the layer.** -/
theorem seen_true {w : Wn} {ls la : List Pt} {lb : List Int} {wd : Int} {n : Nat} {S : STt} (hw : okW w) (h : outF w ls la lb wd n = some S) (h0 : 0 < n) (h20 : n ≤ 20) (h3 : la.length ≤ 3) {i : Nat} (hi : i < 3) : (trackE w S.sc (nmI i)).2.2 = 4 ∨ (i < la.length ∧ trackE w S.sc (nmI i) = (knL w S.sc (nmI i) n, whL w S.sc (nmI i) n, 0) ∧
    ∀ (t : Nat) row p g, t < n → (knAt w S.sc (nmI i) (t + 1)).isSome = true → S.all[t]? = some row → row[i]? = some p → S.guns[t]? = some g → hasE ((knAt w S.sc (nmI i) (t + 1)).getD (zR, 0)).1 p = (true, 0) ∧ (d2 p g ≤ w.zone * w.zone → (dangerE w S.sc).1[t]? = some true ∧ (bestE w S.sc).1[t]? = some 0)) := by
  have hL := outF_len h
  have hI := outF_inv hw h
  have hs := seen_ok hw h h0 h20
  have hn : S.sc.ship.length = n := hL.l1
  have hw' := hw
  unfold okW at hw'
  have r3 := rest_bd (n := wd) (m := 3) (by omega)
  obtain ⟨hd0, hdl⟩ := seen_danger hw h h0 h20 h3
  by_cases he : (ofS S.sc (nmI i)).sg.length = 0
  · left; rw [track_4 (both_z hw hs) he]
  right
  obtain ⟨x, hx⟩ : ∃ x, x ∈ (ofS S.sc (nmI i)).sg := by
    cases hsg : (ofS S.sc (nmI i)).sg with
    | nil => rw [hsg] at he; exact absurd rfl he
    | cons x r => exact ⟨x, by simp⟩
  have hx2 := List.mem_filter.1 hx
  have hxn : x.nm = nmI i := by simpa using hx2.2
  obtain ⟨j, k, o, row0, p0, _, _, _, _, _, d6, d7⟩ := hI.sg x hx2.1
  have hki := nmI_inj hi (by omega) (hxn.symm.trans d7.nm)
  subst hki
  have hl := seen_live hw h h0 h20 h3 d6
  have htr := hl.track (by omega) hs.ships (Nat.le_refl n)
  refine ⟨d6, ?_, fun t row p g ht hk hrow hp hg => ?_⟩
  · rw [← hn] at htr ⊢; exact track_y (both_z hw hs) he htr.1
  · obtain ⟨a, ha⟩ := Option.isSome_iff_exists.1 hk
    have hin := (hl.track (by omega) hs.ships (show t + 1 ≤ n by omega)).2 (by omega) a ha
    have hq : posQ S i t = p := by unfold posQ; rw [hrow]; simp only [Option.getD_some]; rw [hp]; rfl
    rw [show t + 1 - 1 = t by omega, hq] at hin
    have htg := knAt_tgt (w := w) (nm := nmI i) (by omega) hs.ships (t + 1) a ha
    rw [ha]
    refine ⟨has_in htg.ok hin, fun hz => ?_⟩
    obtain ⟨o', _, c2, _, c4, _, _, c7, _⟩ := hL.at_ t ht
    rw [hg] at c7; cases c7
    have hsrc : atR S.sc.src t = aroundR ⟨o'.x - 10, o'.y⟩ (restP wd 3) := atR_of c4
    have hgap := (gapW_in (around_small (n := restP wd 3) (by omega) (ok20_ptB c2).2.1).1 htg (around_in (o := ⟨o'.x - 10, o'.y⟩) r3.1) hin).1
    obtain ⟨_, _, hrs, _⟩ := danger_0 hd0
    have hdt : (dangerE w S.sc).1[t]? = some true := by
      rw [(risk_some hrs).2]
      unfold riskL
      rw [List.getElem?_map, List.getElem?_range (by rw [hn]; exact ht)]
      simp only [Option.map_some, Option.some.injEq]
      refine List.any_eq_true.2 ⟨x, hx2.1, ?_⟩
      rw [hxn, ha, risk_gapE rfl, hsrc]
      refine decide_eq_true ?_
      have e2 : d2 (⟨o'.x - 10, o'.y⟩ : Pt) p = d2 p ⟨o'.x - 10, o'.y⟩ := by unfold d2; rw [sq_flip p.x, sq_flip p.y]
      unfold gapW at hgap
      omega
    refine ⟨hdt, ?_⟩
    have hb0 : (bestE w S.sc).2.2 = 0 := (best_e0 _ _).trans hd0
    have hbv := bestF_valid (gOf w S.sc) (by show 0 ≤ w.soft; omega) S.sc.ship.length 0 sta0
    have hj := best_judge hb0
    obtain ⟨T, hJ⟩ := judge_yes (w := w) (s := S.sc) (ms := (bestE w S.sc).1) (by rw [hj.1])
    have hT : T = (bestE w S.sc).1.length := hJ.rule.2 (by rw [hj.1])
    have hbl : (bestE w S.sc).1.length = n := hj.2.2.trans hn
    obtain ⟨m, hm⟩ := get_of_lt (bestE w S.sc).1 (i := t) (by omega)
    rw [hm]
    by_cases hm0 : m = 0
    · rw [hm0]
    · exfalso
      obtain ⟨q1, _, _⟩ := okUp_at hJ.up (show t < T by omega) hm hm0
      unfold bAt gOf at q1
      rw [Int.toNat_natCast, hdt] at q1
      cases q1

end Go.Proofs.YtaplkoimhecacaaDoor
namespace Go.Proofs.YtaplkoimhecacaaDoor
open Go
set_option maxRecDepth 100000

attribute [local irreducible] tightP hullP rootP farP rows endsOf restP pickP
theorem has_nzX {r : Rg} {p : Pt} (h : fst2 (chkR r) (chkP p) ≠ 0) : hasE r p = (false, fst2 (chkR r) (chkP p)) := by
  unfold hasE
  by_cases h1 : r.ok
  · by_cases h2 : p.ok
    · rw [chkR_ok h1, chkP_zero.2 h2] at h; exact absurd rfl h
    · rw [if_pos h1, if_neg h2, chkR_ok h1, chkP_no h2]; rfl
  · rw [if_neg h1, chkR_no h1]; rfl
theorem has_zX {r : Rg} {p : Pt} (h : ¬ fst2 (chkR r) (chkP p) ≠ 0) : r.ok ∧ p.ok := by
  have h := Classical.not_not.1 h
  by_cases h1 : r.ok
  · refine ⟨h1, ?_⟩
    rw [chkR_ok h1] at h
    exact chkP_zero.1 (by unfold fst2 at h; simpa using h)
  · rw [chkR_no h1] at h; unfold fst2 at h; simp at h
theorem oTbX {p q : Prop} {_ : Decidable p} {_ : Decidable q} {v : Value} (h : p ↔ q) : Out.val (tup [.bool (decide p), v]) = Out.val (tup [.bool (decide q), v]) := by
  rw [decide_eq_decide.2 h]
theorem has_okX {r : Rg} {p : Pt} (h1 : r.ok) (h2 : p.ok) : hasE r p = (decide (inR r p), 0) := by unfold hasE; rw [if_pos h1, if_pos h2]

/-- paravane/region.Has -/
theorem c_HasX (r : Rg) (p : Pt) : VPure Tryd.prog 41 [vR r, vP p] (tup [.bool (hasE r p).1, I (hasE r p).2]) := by
 intro H
 refine vcall_of_vrun Tryd.func41 rfl (N := 26) rfl rfl ?_
 refine vseq ?_
 refine vregion ?_
 refine vone rfl (vxa (vbox rfl rfl) rfl rfl (fun b1 => ?_))
 refine vone rfl (vxa (vbox rfl rfl) rfl rfl (fun b2 => ?_))
 refine vone rfl (vxq (vas rfl) rfl rfl ?_)
 refine vone rfl (vxq (vas rfl) rfl rfl ?_)
 refine vnil ?_
 refine vseq ?_
 refine vseq ?_
 refine vdraw0 [(.q, 0), (.q, 1), (.q, 2), (.q, 3), (.m, 4), (.n, 5), (.q, 6)] Tryd.mixed (by kernel_rfl) (by kernel_rfl) ?_
 refine vdq (mone rfl) (vldn rfl rfl) rfl rfl ?_
 refine vdq (mone rfl) (vcp rfl rfl rfl (c_region_Check r)) rfl rfl ?_
 refine vdq (mone rfl) (vldn rfl rfl) rfl rfl ?_
 refine vdq (mone rfl) (vcp rfl rfl rfl (c_region_CheckPoint p)) rfl rfl ?_
 refine vdm (mone rfl) (vbsP rfl rfl rfl rfl rfl rfl) rfl rfl (fun b3 => ?_)
 refine vdn rfl (mone rfl) (vcq rfl rfl rfl ((h_firstRP r p b3).fr1)) rfl rfl ?_
 refine vdq (mone rfl) (vas rfl) rfl rfl ?_
 refine vdend rfl ?_
 refine vseq ?_
 refine vregion ?_
 refine vone rfl (vxq (vmv rfl) rfl rfl ?_)
 refine vone rfl (vxq (vneq rfl rfl) rfl rfl ?_)
 refine vnil ?_
 refine vcondd rfl (fun h15 => ?_) (fun h15 => ?_)
 ·
  refine vseq ?_
  refine vregion ?_
  refine vone rfl (vxq (vmv rfl) rfl rfl ?_)
  refine vone rfl (vxq (vas rfl) rfl rfl ?_)
  refine vone rfl (vxq (vas rfl) rfl rfl ?_)
  refine vnil ?_
  refine vret (vr2 (H' := H) Tryd.func41 rfl (.tmp rfl) (.tmp rfl) sb ?_)
  first | (rw [has_nzX h15]; exact ⟨rfl, rfl⟩) | (rw [has_okX (has_zX h15).1 (has_zX h15).2]; exact ⟨oTbX (by simp only [Rg.map2, Bd.cut, ofP, List.cons.injEq, and_true]; unfold inR; omega), rfl⟩)
 ·
  refine vskip ?_
  refine vseq ?_
  refine vregion ?_
  refine vone rfl (vxq (vldn rfl rfl) rfl rfl ?_)
  refine vone rfl (vxq (vcp rfl rfl rfl (c_region_bounds _ _ _ _ _ _ _ _)) rfl rfl ?_)
  refine vone rfl (vxa valloc rfl rfl (fun b4 => ?_))
  refine vone rfl (vxs (vstn rfl rfl rfl rfl rfl) rfl ?_)
  refine vnil ?_
  refine vseq ?_
  refine vdraw0 [(.q, 0), (.q, 1), (.q, 2), (.q, 3), (.q, 4), (.q, 5), (.q, 6), (.q, 7), (.q, 8)] Tryd.mixed (by kernel_rfl) (by kernel_rfl) ?_
  refine vdq (mone rfl) (vldn rfl rfl) rfl rfl ?_
  refine vdq (mone rfl) (vldn rfl rfl) rfl rfl ?_
  refine vdq (mone rfl) (vcp rfl rfl rfl (c_of p ((has_zX h15).2.sm.mono (by decide)))) rfl rfl ?_
  refine vdq (mone rfl) (vcp rfl rfl rfl (c_cut4 r (ofP p))) rfl rfl ?_
  refine vdq (mone rfl) (vldn rfl rfl) rfl rfl ?_
  refine vdq (mone rfl) (vcp rfl rfl rfl (c_of p ((has_zX h15).2.sm.mono (by decide)))) rfl rfl ?_
  refine vdq (mone rfl) (veqs rfl rfl rfl rfl rfl rfl) rfl rfl ?_
  refine vdq (mone rfl) (vas rfl) rfl rfl ?_
  refine vdq (mone rfl) (vas rfl) rfl rfl ?_
  refine vdend rfl ?_
  refine vret (vr2 (H' := H) Tryd.func41 rfl (.tmp rfl) (.tmp rfl) sb ?_)
  first | (rw [has_nzX h15]; exact ⟨rfl, rfl⟩) | (rw [has_okX (has_zX h15).1 (has_zX h15).2]; exact ⟨oTbX (by simp only [Rg.map2, Bd.cut, ofP, List.cons.injEq, and_true]; unfold inR; omega), rfl⟩)
/-- paravane/paravanelaw06.octant -/
theorem c_octant6 (x y : Int) : VPure Tryd.prog 85 [I x, I y] (I (octW x y)) := by
 intro H
 refine vcall_of_vrun Tryd.func85 rfl (N := 68) rfl rfl ?_
 refine vseq ?_
 refine vregion ?_
 refine vone rfl (vxq (vas rfl) rfl rfl ?_)
 refine vnil ?_
 refine vseq ?_
 refine vblock ?_
 refine vseq ?_
 apply vjoin (C := ¬ (y ≥ 0 ∧ IntKind.i64.wrap (x - y) ≥ 0)) (E' := [(0, I x), (1, I y)]) (H' := H)
 ·
  intro hJ5
  refine vregion ?_
  refine vone rfl (vxq (vmv rfl) rfl rfl ?_)
  refine vone rfl (vxq (vgeq rfl rfl) rfl rfl ?_)
  refine vone rfl (vxq (vmv rfl) rfl rfl ?_)
  refine vsplitd (d := 8) rfl (fun h8 => ?_) (fun h8 => ?_)
  ·
   refine vyes rfl rfl rfl (vxq (vmv rfl) rfl rfl ?_)
   refine vyes rfl rfl rfl (vxq (vmv rfl) rfl rfl ?_)
   refine vyes rfl rfl rfl (vxq (vsubw rfl rfl) rfl rfl ?_)
   refine vyes rfl rfl rfl (vxq (vgeq rfl rfl) rfl rfl ?_)
   refine vone rfl (vxq (vpkt rfl rfl) rfl rfl ?_)
   refine vone rfl (vxq (vas rfl) rfl rfl ?_)
   refine vnil ?_
   refine vcondd rfl (fun h5 => ?_) (fun h5 => ?_)
   ·
    refine vseq ?_
    refine vregion ?_
    refine vone rfl (vxq (vas rfl) rfl rfl ?_)
    refine vnil ?_
    refine vret (vr1 (H' := H) Tryd.func85 rfl (.tmp rfl) sb ?_)
    first | (rw [octW, if_pos (by omega)]; exact ⟨rfl, rfl⟩) | (rw [octW, if_neg (by omega), if_pos (by omega)]; exact ⟨rfl, rfl⟩) | (rw [octW, if_neg (by omega), if_neg (by omega), if_pos (by omega)]; exact ⟨rfl, rfl⟩) | (rw [octW, if_neg (by omega), if_neg (by omega), if_neg (by omega), if_pos (by omega)]; exact ⟨rfl, rfl⟩) | (rw [octW, if_neg (by omega), if_neg (by omega), if_neg (by omega), if_neg (by omega), if_pos (by omega)]; exact ⟨rfl, rfl⟩) | (rw [octW, if_neg (by omega), if_neg (by omega), if_neg (by omega), if_neg (by omega), if_neg (by omega), if_pos (by omega)]; exact ⟨rfl, rfl⟩) | (rw [octW, if_neg (by omega), if_neg (by omega), if_neg (by omega), if_neg (by omega), if_neg (by omega), if_neg (by omega), if_pos (by omega)]; exact ⟨rfl, rfl⟩) | (rw [octW, if_neg (by omega), if_neg (by omega), if_neg (by omega), if_neg (by omega), if_neg (by omega), if_neg (by omega), if_neg (by omega)]; exact ⟨rfl, rfl⟩)
   ·
    exact vback (hJ5 (by omega)) ⟨rfl, rfl, True.intro⟩ sb
  ·
   refine vno rfl rfl rfl rfl rfl ?_
   refine vno rfl rfl rfl rfl rfl ?_
   refine vno rfl rfl rfl rfl rfl ?_
   refine vno rfl rfl rfl rfl rfl ?_
   refine vone rfl (vxq (vpkf rfl rfl) rfl rfl ?_)
   refine vone rfl (vxq (vas rfl) rfl rfl ?_)
   refine vnil ?_
   refine vcondf rfl ?_
   exact vback (hJ5 (by omega)) ⟨rfl, rfl, True.intro⟩ sb
 ·
  intro hC5
  refine vseq ?_
  apply vjoin (C := ¬ (x ≥ 0 ∧ IntKind.i64.wrap (x - y) ≤ 0)) (E' := [(0, I x), (1, I y)]) (H' := H)
  ·
   intro hJ14
   refine vregion ?_
   refine vone rfl (vxq (vmv rfl) rfl rfl ?_)
   refine vone rfl (vxq (vgeq rfl rfl) rfl rfl ?_)
   refine vone rfl (vxq (vmv rfl) rfl rfl ?_)
   refine vsplitd (d := 17) rfl (fun h17 => ?_) (fun h17 => ?_)
   ·
    refine vyes rfl rfl rfl (vxq (vmv rfl) rfl rfl ?_)
    refine vyes rfl rfl rfl (vxq (vmv rfl) rfl rfl ?_)
    refine vyes rfl rfl rfl (vxq (vsubw rfl rfl) rfl rfl ?_)
    refine vyes rfl rfl rfl (vxq (vleq rfl rfl) rfl rfl ?_)
    refine vone rfl (vxq (vpkt rfl rfl) rfl rfl ?_)
    refine vone rfl (vxq (vas rfl) rfl rfl ?_)
    refine vnil ?_
    refine vcondd rfl (fun h14 => ?_) (fun h14 => ?_)
    ·
     refine vseq ?_
     refine vregion ?_
     refine vone rfl (vxq (vas rfl) rfl rfl ?_)
     refine vnil ?_
     refine vret (vr1 (H' := H) Tryd.func85 rfl (.tmp rfl) sb ?_)
     first | (rw [octW, if_pos (by omega)]; exact ⟨rfl, rfl⟩) | (rw [octW, if_neg (by omega), if_pos (by omega)]; exact ⟨rfl, rfl⟩) | (rw [octW, if_neg (by omega), if_neg (by omega), if_pos (by omega)]; exact ⟨rfl, rfl⟩) | (rw [octW, if_neg (by omega), if_neg (by omega), if_neg (by omega), if_pos (by omega)]; exact ⟨rfl, rfl⟩) | (rw [octW, if_neg (by omega), if_neg (by omega), if_neg (by omega), if_neg (by omega), if_pos (by omega)]; exact ⟨rfl, rfl⟩) | (rw [octW, if_neg (by omega), if_neg (by omega), if_neg (by omega), if_neg (by omega), if_neg (by omega), if_pos (by omega)]; exact ⟨rfl, rfl⟩) | (rw [octW, if_neg (by omega), if_neg (by omega), if_neg (by omega), if_neg (by omega), if_neg (by omega), if_neg (by omega), if_pos (by omega)]; exact ⟨rfl, rfl⟩) | (rw [octW, if_neg (by omega), if_neg (by omega), if_neg (by omega), if_neg (by omega), if_neg (by omega), if_neg (by omega), if_neg (by omega)]; exact ⟨rfl, rfl⟩)
    ·
     exact vback (hJ14 (by omega)) ⟨rfl, rfl, True.intro⟩ sb
   ·
    refine vno rfl rfl rfl rfl rfl ?_
    refine vno rfl rfl rfl rfl rfl ?_
    refine vno rfl rfl rfl rfl rfl ?_
    refine vno rfl rfl rfl rfl rfl ?_
    refine vone rfl (vxq (vpkf rfl rfl) rfl rfl ?_)
    refine vone rfl (vxq (vas rfl) rfl rfl ?_)
    refine vnil ?_
    refine vcondf rfl ?_
    exact vback (hJ14 (by omega)) ⟨rfl, rfl, True.intro⟩ sb
  ·
   intro hC14
   refine vseq ?_
   apply vjoin (C := ¬ (x ≤ 0 ∧ IntKind.i64.wrap (x + y) ≥ 0)) (E' := [(0, I x), (1, I y)]) (H' := H)
   ·
    intro hJ23
    refine vregion ?_
    refine vone rfl (vxq (vmv rfl) rfl rfl ?_)
    refine vone rfl (vxq (vleq rfl rfl) rfl rfl ?_)
    refine vone rfl (vxq (vmv rfl) rfl rfl ?_)
    refine vsplitd (d := 26) rfl (fun h26 => ?_) (fun h26 => ?_)
    ·
     refine vyes rfl rfl rfl (vxq (vmv rfl) rfl rfl ?_)
     refine vyes rfl rfl rfl (vxq (vmv rfl) rfl rfl ?_)
     refine vyes rfl rfl rfl (vxq (vaddw rfl rfl) rfl rfl ?_)
     refine vyes rfl rfl rfl (vxq (vgeq rfl rfl) rfl rfl ?_)
     refine vone rfl (vxq (vpkt rfl rfl) rfl rfl ?_)
     refine vone rfl (vxq (vas rfl) rfl rfl ?_)
     refine vnil ?_
     refine vcondd rfl (fun h23 => ?_) (fun h23 => ?_)
     ·
      refine vseq ?_
      refine vregion ?_
      refine vone rfl (vxq (vas rfl) rfl rfl ?_)
      refine vnil ?_
      refine vret (vr1 (H' := H) Tryd.func85 rfl (.tmp rfl) sb ?_)
      first | (rw [octW, if_pos (by omega)]; exact ⟨rfl, rfl⟩) | (rw [octW, if_neg (by omega), if_pos (by omega)]; exact ⟨rfl, rfl⟩) | (rw [octW, if_neg (by omega), if_neg (by omega), if_pos (by omega)]; exact ⟨rfl, rfl⟩) | (rw [octW, if_neg (by omega), if_neg (by omega), if_neg (by omega), if_pos (by omega)]; exact ⟨rfl, rfl⟩) | (rw [octW, if_neg (by omega), if_neg (by omega), if_neg (by omega), if_neg (by omega), if_pos (by omega)]; exact ⟨rfl, rfl⟩) | (rw [octW, if_neg (by omega), if_neg (by omega), if_neg (by omega), if_neg (by omega), if_neg (by omega), if_pos (by omega)]; exact ⟨rfl, rfl⟩) | (rw [octW, if_neg (by omega), if_neg (by omega), if_neg (by omega), if_neg (by omega), if_neg (by omega), if_neg (by omega), if_pos (by omega)]; exact ⟨rfl, rfl⟩) | (rw [octW, if_neg (by omega), if_neg (by omega), if_neg (by omega), if_neg (by omega), if_neg (by omega), if_neg (by omega), if_neg (by omega)]; exact ⟨rfl, rfl⟩)
     ·
      exact vback (hJ23 (by omega)) ⟨rfl, rfl, True.intro⟩ sb
    ·
     refine vno rfl rfl rfl rfl rfl ?_
     refine vno rfl rfl rfl rfl rfl ?_
     refine vno rfl rfl rfl rfl rfl ?_
     refine vno rfl rfl rfl rfl rfl ?_
     refine vone rfl (vxq (vpkf rfl rfl) rfl rfl ?_)
     refine vone rfl (vxq (vas rfl) rfl rfl ?_)
     refine vnil ?_
     refine vcondf rfl ?_
     exact vback (hJ23 (by omega)) ⟨rfl, rfl, True.intro⟩ sb
   ·
    intro hC23
    refine vseq ?_
    apply vjoin (C := ¬ (y ≥ 0 ∧ IntKind.i64.wrap (x + y) ≤ 0)) (E' := [(0, I x), (1, I y)]) (H' := H)
    ·
     intro hJ32
     refine vregion ?_
     refine vone rfl (vxq (vmv rfl) rfl rfl ?_)
     refine vone rfl (vxq (vgeq rfl rfl) rfl rfl ?_)
     refine vone rfl (vxq (vmv rfl) rfl rfl ?_)
     refine vsplitd (d := 35) rfl (fun h35 => ?_) (fun h35 => ?_)
     ·
      refine vyes rfl rfl rfl (vxq (vmv rfl) rfl rfl ?_)
      refine vyes rfl rfl rfl (vxq (vmv rfl) rfl rfl ?_)
      refine vyes rfl rfl rfl (vxq (vaddw rfl rfl) rfl rfl ?_)
      refine vyes rfl rfl rfl (vxq (vleq rfl rfl) rfl rfl ?_)
      refine vone rfl (vxq (vpkt rfl rfl) rfl rfl ?_)
      refine vone rfl (vxq (vas rfl) rfl rfl ?_)
      refine vnil ?_
      refine vcondd rfl (fun h32 => ?_) (fun h32 => ?_)
      ·
       refine vseq ?_
       refine vregion ?_
       refine vone rfl (vxq (vas rfl) rfl rfl ?_)
       refine vnil ?_
       refine vret (vr1 (H' := H) Tryd.func85 rfl (.tmp rfl) sb ?_)
       first | (rw [octW, if_pos (by omega)]; exact ⟨rfl, rfl⟩) | (rw [octW, if_neg (by omega), if_pos (by omega)]; exact ⟨rfl, rfl⟩) | (rw [octW, if_neg (by omega), if_neg (by omega), if_pos (by omega)]; exact ⟨rfl, rfl⟩) | (rw [octW, if_neg (by omega), if_neg (by omega), if_neg (by omega), if_pos (by omega)]; exact ⟨rfl, rfl⟩) | (rw [octW, if_neg (by omega), if_neg (by omega), if_neg (by omega), if_neg (by omega), if_pos (by omega)]; exact ⟨rfl, rfl⟩) | (rw [octW, if_neg (by omega), if_neg (by omega), if_neg (by omega), if_neg (by omega), if_neg (by omega), if_pos (by omega)]; exact ⟨rfl, rfl⟩) | (rw [octW, if_neg (by omega), if_neg (by omega), if_neg (by omega), if_neg (by omega), if_neg (by omega), if_neg (by omega), if_pos (by omega)]; exact ⟨rfl, rfl⟩) | (rw [octW, if_neg (by omega), if_neg (by omega), if_neg (by omega), if_neg (by omega), if_neg (by omega), if_neg (by omega), if_neg (by omega)]; exact ⟨rfl, rfl⟩)
      ·
       exact vback (hJ32 (by omega)) ⟨rfl, rfl, True.intro⟩ sb
     ·
      refine vno rfl rfl rfl rfl rfl ?_
      refine vno rfl rfl rfl rfl rfl ?_
      refine vno rfl rfl rfl rfl rfl ?_
      refine vno rfl rfl rfl rfl rfl ?_
      refine vone rfl (vxq (vpkf rfl rfl) rfl rfl ?_)
      refine vone rfl (vxq (vas rfl) rfl rfl ?_)
      refine vnil ?_
      refine vcondf rfl ?_
      exact vback (hJ32 (by omega)) ⟨rfl, rfl, True.intro⟩ sb
    ·
     intro hC32
     refine vseq ?_
     apply vjoin (C := ¬ (y ≤ 0 ∧ IntKind.i64.wrap (x - y) ≤ 0)) (E' := [(0, I x), (1, I y)]) (H' := H)
     ·
      intro hJ41
      refine vregion ?_
      refine vone rfl (vxq (vmv rfl) rfl rfl ?_)
      refine vone rfl (vxq (vleq rfl rfl) rfl rfl ?_)
      refine vone rfl (vxq (vmv rfl) rfl rfl ?_)
      refine vsplitd (d := 44) rfl (fun h44 => ?_) (fun h44 => ?_)
      ·
       refine vyes rfl rfl rfl (vxq (vmv rfl) rfl rfl ?_)
       refine vyes rfl rfl rfl (vxq (vmv rfl) rfl rfl ?_)
       refine vyes rfl rfl rfl (vxq (vsubw rfl rfl) rfl rfl ?_)
       refine vyes rfl rfl rfl (vxq (vleq rfl rfl) rfl rfl ?_)
       refine vone rfl (vxq (vpkt rfl rfl) rfl rfl ?_)
       refine vone rfl (vxq (vas rfl) rfl rfl ?_)
       refine vnil ?_
       refine vcondd rfl (fun h41 => ?_) (fun h41 => ?_)
       ·
        refine vseq ?_
        refine vregion ?_
        refine vone rfl (vxq (vas rfl) rfl rfl ?_)
        refine vnil ?_
        refine vret (vr1 (H' := H) Tryd.func85 rfl (.tmp rfl) sb ?_)
        first | (rw [octW, if_pos (by omega)]; exact ⟨rfl, rfl⟩) | (rw [octW, if_neg (by omega), if_pos (by omega)]; exact ⟨rfl, rfl⟩) | (rw [octW, if_neg (by omega), if_neg (by omega), if_pos (by omega)]; exact ⟨rfl, rfl⟩) | (rw [octW, if_neg (by omega), if_neg (by omega), if_neg (by omega), if_pos (by omega)]; exact ⟨rfl, rfl⟩) | (rw [octW, if_neg (by omega), if_neg (by omega), if_neg (by omega), if_neg (by omega), if_pos (by omega)]; exact ⟨rfl, rfl⟩) | (rw [octW, if_neg (by omega), if_neg (by omega), if_neg (by omega), if_neg (by omega), if_neg (by omega), if_pos (by omega)]; exact ⟨rfl, rfl⟩) | (rw [octW, if_neg (by omega), if_neg (by omega), if_neg (by omega), if_neg (by omega), if_neg (by omega), if_neg (by omega), if_pos (by omega)]; exact ⟨rfl, rfl⟩) | (rw [octW, if_neg (by omega), if_neg (by omega), if_neg (by omega), if_neg (by omega), if_neg (by omega), if_neg (by omega), if_neg (by omega)]; exact ⟨rfl, rfl⟩)
       ·
        exact vback (hJ41 (by omega)) ⟨rfl, rfl, True.intro⟩ sb
      ·
       refine vno rfl rfl rfl rfl rfl ?_
       refine vno rfl rfl rfl rfl rfl ?_
       refine vno rfl rfl rfl rfl rfl ?_
       refine vno rfl rfl rfl rfl rfl ?_
       refine vone rfl (vxq (vpkf rfl rfl) rfl rfl ?_)
       refine vone rfl (vxq (vas rfl) rfl rfl ?_)
       refine vnil ?_
       refine vcondf rfl ?_
       exact vback (hJ41 (by omega)) ⟨rfl, rfl, True.intro⟩ sb
     ·
      intro hC41
      refine vseq ?_
      apply vjoin (C := ¬ (x ≤ 0 ∧ IntKind.i64.wrap (x - y) ≥ 0)) (E' := [(0, I x), (1, I y)]) (H' := H)
      ·
       intro hJ50
       refine vregion ?_
       refine vone rfl (vxq (vmv rfl) rfl rfl ?_)
       refine vone rfl (vxq (vleq rfl rfl) rfl rfl ?_)
       refine vone rfl (vxq (vmv rfl) rfl rfl ?_)
       refine vsplitd (d := 53) rfl (fun h53 => ?_) (fun h53 => ?_)
       ·
        refine vyes rfl rfl rfl (vxq (vmv rfl) rfl rfl ?_)
        refine vyes rfl rfl rfl (vxq (vmv rfl) rfl rfl ?_)
        refine vyes rfl rfl rfl (vxq (vsubw rfl rfl) rfl rfl ?_)
        refine vyes rfl rfl rfl (vxq (vgeq rfl rfl) rfl rfl ?_)
        refine vone rfl (vxq (vpkt rfl rfl) rfl rfl ?_)
        refine vone rfl (vxq (vas rfl) rfl rfl ?_)
        refine vnil ?_
        refine vcondd rfl (fun h50 => ?_) (fun h50 => ?_)
        ·
         refine vseq ?_
         refine vregion ?_
         refine vone rfl (vxq (vas rfl) rfl rfl ?_)
         refine vnil ?_
         refine vret (vr1 (H' := H) Tryd.func85 rfl (.tmp rfl) sb ?_)
         first | (rw [octW, if_pos (by omega)]; exact ⟨rfl, rfl⟩) | (rw [octW, if_neg (by omega), if_pos (by omega)]; exact ⟨rfl, rfl⟩) | (rw [octW, if_neg (by omega), if_neg (by omega), if_pos (by omega)]; exact ⟨rfl, rfl⟩) | (rw [octW, if_neg (by omega), if_neg (by omega), if_neg (by omega), if_pos (by omega)]; exact ⟨rfl, rfl⟩) | (rw [octW, if_neg (by omega), if_neg (by omega), if_neg (by omega), if_neg (by omega), if_pos (by omega)]; exact ⟨rfl, rfl⟩) | (rw [octW, if_neg (by omega), if_neg (by omega), if_neg (by omega), if_neg (by omega), if_neg (by omega), if_pos (by omega)]; exact ⟨rfl, rfl⟩) | (rw [octW, if_neg (by omega), if_neg (by omega), if_neg (by omega), if_neg (by omega), if_neg (by omega), if_neg (by omega), if_pos (by omega)]; exact ⟨rfl, rfl⟩) | (rw [octW, if_neg (by omega), if_neg (by omega), if_neg (by omega), if_neg (by omega), if_neg (by omega), if_neg (by omega), if_neg (by omega)]; exact ⟨rfl, rfl⟩)
        ·
         exact vback (hJ50 (by omega)) ⟨rfl, rfl, True.intro⟩ sb
       ·
        refine vno rfl rfl rfl rfl rfl ?_
        refine vno rfl rfl rfl rfl rfl ?_
        refine vno rfl rfl rfl rfl rfl ?_
        refine vno rfl rfl rfl rfl rfl ?_
        refine vone rfl (vxq (vpkf rfl rfl) rfl rfl ?_)
        refine vone rfl (vxq (vas rfl) rfl rfl ?_)
        refine vnil ?_
        refine vcondf rfl ?_
        exact vback (hJ50 (by omega)) ⟨rfl, rfl, True.intro⟩ sb
      ·
       intro hC50
       refine vseq ?_
       apply vjoin (C := ¬ (x ≥ 0 ∧ IntKind.i64.wrap (x + y) ≤ 0)) (E' := [(0, I x), (1, I y)]) (H' := H)
       ·
        intro hJ59
        refine vregion ?_
        refine vone rfl (vxq (vmv rfl) rfl rfl ?_)
        refine vone rfl (vxq (vgeq rfl rfl) rfl rfl ?_)
        refine vone rfl (vxq (vmv rfl) rfl rfl ?_)
        refine vsplitd (d := 62) rfl (fun h62 => ?_) (fun h62 => ?_)
        ·
         refine vyes rfl rfl rfl (vxq (vmv rfl) rfl rfl ?_)
         refine vyes rfl rfl rfl (vxq (vmv rfl) rfl rfl ?_)
         refine vyes rfl rfl rfl (vxq (vaddw rfl rfl) rfl rfl ?_)
         refine vyes rfl rfl rfl (vxq (vleq rfl rfl) rfl rfl ?_)
         refine vone rfl (vxq (vpkt rfl rfl) rfl rfl ?_)
         refine vone rfl (vxq (vas rfl) rfl rfl ?_)
         refine vnil ?_
         refine vcondd rfl (fun h59 => ?_) (fun h59 => ?_)
         ·
          refine vseq ?_
          refine vregion ?_
          refine vone rfl (vxq (vas rfl) rfl rfl ?_)
          refine vnil ?_
          refine vret (vr1 (H' := H) Tryd.func85 rfl (.tmp rfl) sb ?_)
          first | (rw [octW, if_pos (by omega)]; exact ⟨rfl, rfl⟩) | (rw [octW, if_neg (by omega), if_pos (by omega)]; exact ⟨rfl, rfl⟩) | (rw [octW, if_neg (by omega), if_neg (by omega), if_pos (by omega)]; exact ⟨rfl, rfl⟩) | (rw [octW, if_neg (by omega), if_neg (by omega), if_neg (by omega), if_pos (by omega)]; exact ⟨rfl, rfl⟩) | (rw [octW, if_neg (by omega), if_neg (by omega), if_neg (by omega), if_neg (by omega), if_pos (by omega)]; exact ⟨rfl, rfl⟩) | (rw [octW, if_neg (by omega), if_neg (by omega), if_neg (by omega), if_neg (by omega), if_neg (by omega), if_pos (by omega)]; exact ⟨rfl, rfl⟩) | (rw [octW, if_neg (by omega), if_neg (by omega), if_neg (by omega), if_neg (by omega), if_neg (by omega), if_neg (by omega), if_pos (by omega)]; exact ⟨rfl, rfl⟩) | (rw [octW, if_neg (by omega), if_neg (by omega), if_neg (by omega), if_neg (by omega), if_neg (by omega), if_neg (by omega), if_neg (by omega)]; exact ⟨rfl, rfl⟩)
         ·
          exact vback (hJ59 (by omega)) ⟨rfl, rfl, True.intro⟩ sb
        ·
         refine vno rfl rfl rfl rfl rfl ?_
         refine vno rfl rfl rfl rfl rfl ?_
         refine vno rfl rfl rfl rfl rfl ?_
         refine vno rfl rfl rfl rfl rfl ?_
         refine vone rfl (vxq (vpkf rfl rfl) rfl rfl ?_)
         refine vone rfl (vxq (vas rfl) rfl rfl ?_)
         refine vnil ?_
         refine vcondf rfl ?_
         exact vback (hJ59 (by omega)) ⟨rfl, rfl, True.intro⟩ sb
       ·
        intro hC59
        refine vskip ?_
        refine vinblock ?_
        refine vseq ?_
        refine vregion ?_
        refine vone rfl (vxq (vas rfl) rfl rfl ?_)
        refine vnil ?_
        refine vret (vr1 (H' := H) Tryd.func85 rfl (.tmp rfl) sb ?_)
        first | (rw [octW, if_pos (by omega)]; exact ⟨rfl, rfl⟩) | (rw [octW, if_neg (by omega), if_pos (by omega)]; exact ⟨rfl, rfl⟩) | (rw [octW, if_neg (by omega), if_neg (by omega), if_pos (by omega)]; exact ⟨rfl, rfl⟩) | (rw [octW, if_neg (by omega), if_neg (by omega), if_neg (by omega), if_pos (by omega)]; exact ⟨rfl, rfl⟩) | (rw [octW, if_neg (by omega), if_neg (by omega), if_neg (by omega), if_neg (by omega), if_pos (by omega)]; exact ⟨rfl, rfl⟩) | (rw [octW, if_neg (by omega), if_neg (by omega), if_neg (by omega), if_neg (by omega), if_neg (by omega), if_pos (by omega)]; exact ⟨rfl, rfl⟩) | (rw [octW, if_neg (by omega), if_neg (by omega), if_neg (by omega), if_neg (by omega), if_neg (by omega), if_neg (by omega), if_pos (by omega)]; exact ⟨rfl, rfl⟩) | (rw [octW, if_neg (by omega), if_neg (by omega), if_neg (by omega), if_neg (by omega), if_neg (by omega), if_neg (by omega), if_neg (by omega)]; exact ⟨rfl, rfl⟩)
/-- paravane/paravanelaw06.square -/
theorem c_sqrW (p q : Pt) : VPure Tryd.prog 36 [vP p, vP q] (I (sqW p q)) := by
 intro H
 refine vcall_of_vrun Tryd.func36 rfl (N := 24) rfl rfl ?_
 refine vseq ?_
 refine vregion ?_
 refine vone rfl (vxa (vbox rfl rfl) rfl rfl (fun b1 => ?_))
 refine vone rfl (vxa (vbox rfl rfl) rfl rfl (fun b2 => ?_))
 refine vone rfl (vxq (vas rfl) rfl rfl ?_)
 refine vnil ?_
 refine vseq ?_
 refine vdraw0 [(.q, 0), (.q, 1), (.q, 2), (.q, 3), (.q, 4), (.q, 5), (.q, 6), (.q, 7), (.q, 8), (.q, 9), (.q, 10), (.q, 11)] Tryd.mixed (by kernel_rfl) (by kernel_rfl) ?_
 refine vdq (mone rfl) (vfa rfl) rfl rfl ?_
 refine vdq (mone rfl) (vld1 rfl rfl) rfl rfl ?_
 refine vdq (mone rfl) (vfa rfl) rfl rfl ?_
 refine vdq (mone rfl) (vld1 rfl rfl) rfl rfl ?_
 refine vdq (mone rfl) (vsubw rfl rfl) rfl rfl ?_
 refine vdq (mone rfl) (vfa rfl) rfl rfl ?_
 refine vdq (mone rfl) (vld1 rfl rfl) rfl rfl ?_
 refine vdq (mone rfl) (vfa rfl) rfl rfl ?_
 refine vdq (mone rfl) (vld1 rfl rfl) rfl rfl ?_
 refine vdq (mone rfl) (vsubw rfl rfl) rfl rfl ?_
 refine vdq (mone rfl) (vas rfl) rfl rfl ?_
 refine vdq (mone rfl) (vas rfl) rfl rfl ?_
 refine vdend rfl ?_
 refine vseq ?_
 refine vregion ?_
 refine vone rfl (vxq (vmv rfl) rfl rfl ?_)
 refine vone rfl (vxq (vmv rfl) rfl rfl ?_)
 refine vone rfl (vxq (vmulw rfl rfl) rfl rfl ?_)
 refine vone rfl (vxq (vmv rfl) rfl rfl ?_)
 refine vone rfl (vxq (vmv rfl) rfl rfl ?_)
 refine vone rfl (vxq (vmulw rfl rfl) rfl rfl ?_)
 refine vone rfl (vxq (vaddw rfl rfl) rfl rfl ?_)
 refine vone rfl (vxq (vas rfl) rfl rfl ?_)
 refine vnil ?_
 refine vret (vr1 (H' := H) Tryd.func36 rfl (.tmp rfl) sb ?_)
 exact ⟨rfl, rfl⟩
/-- paravane/paravanelaw06.swum -/
theorem c_swumW (p : Pt) (speed : Int) (l : List Int) (oa : Option Addr) (c : Nat) (H : Heap) [hl : SlO H oa 1 encI l] (hn : l.length ≤ 9223372036854775807) (hb : ∀ n ∈ l, InR n) (a : Int) (ha : 0 ≤ a ∧ a ≤ 1000000) : VHas Tryd.prog 37 [vP p, I speed, .slice oa l.length c, I a] (vP (swW p speed l a)) (H) (H) := by
 refine vcall_of_vrun Tryd.func37 rfl (N := 52) rfl rfl ?_
 refine vseq ?_
 refine vregion ?_
 refine vone rfl (vxa (vbox rfl rfl) rfl rfl (fun b1 => ?_))
 refine vone rfl (vxa valloc rfl rfl (fun b2 => ?_))
 refine vnil ?_
 refine vseq ?_
 refine vregion ?_
 refine vone rfl (vxq (vmv rfl) rfl rfl ?_)
 refine vone rfl (vxq (vmv rfl) rfl rfl ?_)
 refine vone rfl (vxq (vcq rfl rfl rfl (c_Pick l oa c _ hn a (by unfold InR; omega))) rfl rfl ?_)
 refine vone rfl (vxq (vmv rfl) rfl rfl ?_)
 refine vone rfl (vxq (vmulw rfl rfl) rfl rfl ?_)
 refine vone rfl (vxq (vaddw rfl rfl) rfl rfl ?_)
 refine vone rfl (vxq (vcp rfl rfl rfl (c_Rest _ _ (pick_in hb) (wr_in _))) rfl rfl ?_)
 refine vone rfl (vxq (vmv rfl) rfl rfl ?_)
 refine vone rfl (vxq (vsubw rfl rfl) rfl rfl ?_)
 refine vone rfl (vxq (vas rfl) rfl rfl ?_)
 refine vnil ?_
 refine vseq ?_
 refine vregion ?_
 refine vone rfl (vxq (vmv rfl) rfl rfl ?_)
 refine vone rfl (vxq (vmv rfl) rfl rfl ?_)
 refine vone rfl (vxq (vmulw rfl rfl) rfl rfl ?_)
 refine vone rfl (vxq (vmv rfl) rfl rfl ?_)
 refine vone rfl (vxq (vmv rfl) rfl rfl ?_)
 refine vone rfl (vxq (vmulw rfl rfl) rfl rfl ?_)
 refine vone rfl (vxq (vsubw rfl rfl) rfl rfl ?_)
 refine vone rfl (vxq (vcp rfl rfl rfl (c_Root _)) rfl rfl ?_)
 refine vone rfl (vxq (vmv rfl) rfl rfl ?_)
 refine vone rfl (vxq (vex rfl rfl) rfl rfl ?_)
 refine vone rfl (vxq (vex rfl rfl) rfl rfl ?_)
 refine vone rfl (vxq (vas rfl) rfl rfl ?_)
 refine vone rfl (vxq (vas rfl) rfl rfl ?_)
 refine vnil ?_
 refine vseq ?_
 refine vregion ?_
 refine vone rfl (vxq (vmv rfl) rfl rfl ?_)
 refine vone rfl (vxq (vmv rfl) rfl rfl ?_)
 refine vone rfl (vxq (vadd rfl rfl (by unfold InR; omega)) rfl rfl ?_)
 refine vone rfl (vxq (vcq rfl rfl rfl (c_Pick l oa c _ hn (a + 1) (by unfold InR; omega))) rfl rfl ?_)
 refine vone rfl (vxq (vmv rfl) rfl rfl ?_)
 refine vone rfl (vxq (vmulw rfl rfl) rfl rfl ?_)
 refine vone rfl (vxq (vaddw rfl rfl) rfl rfl ?_)
 refine vone rfl (vxq (vcp rfl rfl rfl (c_Rest _ _ (pick_in hb) (wr_in _))) rfl rfl ?_)
 refine vone rfl (vxq (vmv rfl) rfl rfl ?_)
 refine vone rfl (vxq (vsubw rfl rfl) rfl rfl ?_)
 refine vone rfl (vxq (vas rfl) rfl rfl ?_)
 refine vnil ?_
 refine vseq ?_
 refine vregion ?_
 refine vone rfl (vxq (vfa rfl) rfl rfl ?_)
 refine vone rfl (vxq (vld1 rfl rfl) rfl rfl ?_)
 refine vone rfl (vxq (vmv rfl) rfl rfl ?_)
 refine vone rfl (vxq (vaddw rfl rfl) rfl rfl ?_)
 refine vone rfl (vxq (vfa rfl) rfl rfl ?_)
 refine vone rfl (vxq (vld1 rfl rfl) rfl rfl ?_)
 refine vone rfl (vxq (vmv rfl) rfl rfl ?_)
 refine vone rfl (vxq (vaddw rfl rfl) rfl rfl ?_)
 refine vone rfl (vxq (vbd rfl rfl) rfl rfl ?_)
 refine vone rfl (vxs (vstn rfl rfl rfl rfl rfl) rfl ?_)
 refine vnil ?_
 refine vret (vr1 (H' := H) Tryd.func37 rfl (.celln rfl rfl) sb ?_)
 exact ⟨rfl, rfl⟩
theorem c_OfL {H : Heap} {b T : Nat} {cs : List Value} {l : List Pt} {r : Rg} [ht : HAt H b cs T] {n : Nat} (hcs : cs = l.flatMap encP) (hr : ofE l = (r, 0)) (hn : l.length = n := by rfl) (hm : n ≤ 100 := by omega) : VHas Tryd.prog 116 [.slice (some ⟨b, 0, Option.none⟩) n n] (tup [vR r, I 0]) H H := by
  haveI : SlO H (some ⟨b, 0, Option.none⟩) 2 encP l := SlO.flat (fun _ => rfl) hcs
  have := q_Of l (some ⟨b, 0, Option.none⟩) n n hn (by omega) H
  rw [hr] at this; exact this
/-- paravane/paravanelaw06.around -/
theorem c_around (o : Pt) (n : Int) (hn : 0 ≤ n ∧ n ≤ 3) (ho : ptB o) (H : Heap) : VHas Tryd.prog 84 [vP o, I n] (tup [vR (aroundR o n), .bool true]) (H) (H) := by
 have hob := ho
 unfold ptB at hob
 have ho4 := of4 hn ho
 refine vcall_of_vrun Tryd.func84 rfl (N := 44) rfl rfl ?_
 refine vseq ?_
 refine vregion ?_
 refine vone rfl (vxa (vbox rfl rfl) rfl rfl (fun b1 => ?_))
 refine vone rfl (vxa valloc rfl rfl (fun b2 => ?_))
 refine vone rfl (vxq (vas rfl) rfl rfl ?_)
 refine vnil ?_
 refine vseq ?_
 refine vregion ?_
 refine vone rfl (vxq (vfa rfl) rfl rfl ?_)
 refine vone rfl (vxq (vld1 rfl rfl) rfl rfl ?_)
 refine vone rfl (vxq (vmv rfl) rfl rfl ?_)
 refine vone rfl (vxq (vsub rfl rfl (by unfold InR; omega)) rfl rfl ?_)
 refine vone rfl (vxq (vfa rfl) rfl rfl ?_)
 refine vone rfl (vxq (vld1 rfl rfl) rfl rfl ?_)
 refine vone rfl (vxq (vbd rfl rfl) rfl rfl ?_)
 refine vone rfl (vxq (vfa rfl) rfl rfl ?_)
 refine vone rfl (vxq (vld1 rfl rfl) rfl rfl ?_)
 refine vone rfl (vxq (vmv rfl) rfl rfl ?_)
 refine vone rfl (vxq (vadd rfl rfl (by unfold InR; omega)) rfl rfl ?_)
 refine vone rfl (vxq (vfa rfl) rfl rfl ?_)
 refine vone rfl (vxq (vld1 rfl rfl) rfl rfl ?_)
 refine vone rfl (vxq (vbd rfl rfl) rfl rfl ?_)
 refine vone rfl (vxq (vfa rfl) rfl rfl ?_)
 refine vone rfl (vxq (vld1 rfl rfl) rfl rfl ?_)
 refine vone rfl (vxq (vfa rfl) rfl rfl ?_)
 refine vone rfl (vxq (vld1 rfl rfl) rfl rfl ?_)
 refine vone rfl (vxq (vmv rfl) rfl rfl ?_)
 refine vone rfl (vxq (vsub rfl rfl (by unfold InR; omega)) rfl rfl ?_)
 refine vone rfl (vxq (vbd rfl rfl) rfl rfl ?_)
 refine vone rfl (vxq (vfa rfl) rfl rfl ?_)
 refine vone rfl (vxq (vld1 rfl rfl) rfl rfl ?_)
 refine vone rfl (vxq (vfa rfl) rfl rfl ?_)
 refine vone rfl (vxq (vld1 rfl rfl) rfl rfl ?_)
 refine vone rfl (vxq (vmv rfl) rfl rfl ?_)
 refine vone rfl (vxq (vadd rfl rfl (by unfold InR; omega)) rfl rfl ?_)
 refine vone rfl (vxq (vbd rfl rfl) rfl rfl ?_)
 refine vone rfl (vxg (vbs rfl rfl rfl rfl rfl rfl) rfl rfl ?_)
 rintro _ _ ⟨b3, rfl, rfl⟩
 refine vone rfl (vxq (vcq rfl rfl rfl (c_OfL (l := aroundL o n) rfl ho4)) rfl rfl ?_)
 refine vone rfl (vxq (vmv rfl) rfl rfl ?_)
 refine vone rfl (vxq (vex rfl rfl) rfl rfl ?_)
 refine vone rfl (vxq (vex rfl rfl) rfl rfl ?_)
 refine vone rfl (vxa valloc rfl rfl (fun b4 => ?_))
 refine vone rfl (vxs (vstn rfl rfl rfl rfl rfl) rfl ?_)
 refine vone rfl (vxq (vas rfl) rfl rfl ?_)
 refine vnil ?_
 refine vseq ?_
 refine vregion ?_
 refine vone rfl (vxq (vldn rfl rfl) rfl rfl ?_)
 refine vone rfl (vxq (vmv rfl) rfl rfl ?_)
 refine vone rfl (vxq (veql rfl rfl) rfl rfl ?_)
 refine vknow (d := 43) (b' := true) rfl (decide_eq_true rfl) ?_
 refine vone rfl (vxs (vstn rfl rfl rfl rfl rfl) rfl ?_)
 refine vone rfl (vxq (vas rfl) rfl rfl ?_)
 refine vnil ?_
 refine vret (vr2 (H' := H) Tryd.func84 rfl (.celln rfl rfl) (.tmp rfl) sb ?_)
 exact ⟨rfl, rfl⟩
end Go.Proofs.YtaplkoimhecacaaDoor
namespace Go.Proofs.YtaplkoimhecacaaDoor
open Go
set_option maxRecDepth 100000

attribute [local irreducible] tightP hullP rootP farP rows endsOf restP pickP swW sqW octW innF outF aroundR seeS newP
instance tApP : TAp Tryd.prog 69 73 2 16 := mkTAp (z := .agg [I 0, I 0].toArray) (by kernel_rfl) (by kernel_rfl) rfl
instance tApL : TAp Tryd.prog 81 69 1 24 := mkTAp (z := .slice Option.none 0 0) (by kernel_rfl) (by kernel_rfl) rfl
instance tFgP0 : TFg Tryd.prog 73 0 0 := mkTFg (by kernel_rfl)
instance tFgP1 : TFg Tryd.prog 73 1 1 := mkTFg (by kernel_rfl)
instance HUp.appL {A H : Heap} {b : Nat} {cs : List Value} {T : TypeId} {F : List Value → Heap} [h : HUp A b cs T F] : HUp (A ++ H) b cs T (fun c => F c ++ H) := by
  obtain ⟨pre, post, h1, h2⟩ := h.split
  exact ⟨pre, post ++ H, by rw [h1, List.append_assoc]; rfl, fun c => by rw [h2, List.append_assoc]; rfl⟩
/-- Where a list of places lies. -/
structure Dn where
  oa : Option Addr
  c : Nat
  l : List Pt
abbrev encD (d : Dn) : List Value := [.slice d.oa d.l.length d.c]
abbrev encN (s : ByteArray) : List Value := [.string s]
section
variable {P : Program} {f : FuncId} {N : Nat} {E : Env} {H : Heap} {Q : Out → Heap → Prop}
theorem vr4 {fn : Func} {r1 r2 r3 r4 : ResultVar} {v1 v2 v3 v4 : Value} {H' : Heap} (hf : P.funcs[f]? = some fn) (hr : fn.results = #[r1, r2, r3, r4]) (h1 : RV P E H r1 v1) (h2 : RV P E H r2 v2) (h3 : RV P E H r3 v3) (h4 : RV P E H r4 v4) (hs : H'.Sublist H) (hq : Q (.val (.tuple [v1, v2, v3, v4].toArray)) H') : VRet P f N E [] H Q :=
  vret_vals hf (fun t w hA hE => by
    have g1 := h1.run hA hE
    have g2 := h2.run hA hE
    have g3 := h3.run hA hE
    have g4 := h4.run hA hE
    rw [results_rs, hr]
    simp [Sem.run_bind, g1, g2, g3, g4, Result.andThen]) hs hq
end
theorem own_pos {e size n k : Nat} {q : Option Addr} {xs : List Value} {B : Heap} (h : OwnS e size (.slice q n k) n xs B) (hn : 0 < n) : ∃ g cur, q = some ⟨g, 0, Option.none⟩ ∧ B = [(g, blk cur e)] ∧ n ≤ k ∧ k ≤ maxLen ∧ cur.length = k * size ∧ cur.take (n * size) = xs := by
  rcases h with ⟨_, h, _⟩ | ⟨g, c, cur, h1, h2, h3, h4, h5, h6⟩
  · omega
  · cases h1
    exact ⟨g, cur, rfl, h2, h3, h4, h5, h6⟩
section
open Classical in
theorem pmS0 (C A B T : Heap) : (C ++ (A ++ (B ++ T))).Perm (B ++ (C ++ (A ++ T))) := perm_of fun a => by simp only [List.count_append]; omega
theorem pq3 (X A B G Z : Heap) : (X ++ (A ++ (B ++ (G ++ Z)))).Perm (G ++ (X ++ (A ++ (B ++ Z)))) := perm_of fun a => by simp only [List.count_append]; omega
theorem pq4 (N G X A B Z : Heap) : ((N ++ G) ++ (X ++ (A ++ (B ++ Z)))).Perm ((X ++ (A ++ (B ++ (G ++ Z)))) ++ N) := perm_of fun a => by simp only [List.count_append]; omega
theorem pf3 (A B C X R : Heap) : (A ++ (B ++ (C ++ (X ++ R)))).Perm (X ++ (A ++ (B ++ (C ++ R)))) := perm_of fun a => by simp only [List.count_append]; omega
theorem pf4 (A B C D X R : Heap) : (A ++ (B ++ (C ++ (D ++ (X ++ R))))).Perm (X ++ (A ++ (B ++ (C ++ (D ++ R))))) := perm_of fun a => by simp only [List.count_append]; omega
theorem pf6 (A B C D E F X R : Heap) : (A ++ (B ++ (C ++ (D ++ (E ++ (F ++ (X ++ R))))))).Perm (X ++ (A ++ (B ++ (C ++ (D ++ (E ++ (F ++ R))))))) := perm_of fun a => by simp only [List.count_append]; omega
theorem pq7 (N B C E F G D H M R : Heap) : (N ++ (B ++ (C ++ (E ++ (F ++ (G ++ (D ++ (H ++ (M ++ R))))))))).Perm ((B ++ (E ++ (F ++ (G ++ (D ++ (H ++ ((C ++ M) ++ R))))))) ++ N) := perm_of fun a => by simp only [List.count_append]; omega
end
theorem root_nn (n : Int) : 0 ≤ (rootE n).1 := by
  unfold rootE
  split
  · rename_i h; exact (rootP_is h.1).1
  · exact Int.le_refl _
theorem nmL_at {i : Nat} (h : i < 3) : nmL[i]? = some (nmI i) := by
  rcases i with _ | _ | _ | i
  · rfl
  · rfl
  · rfl
  · omega
theorem innF_step {w : Wn} {lb : List Int} {wd : Int} {t : Nat} {o p : Pt} {an : List Pt} {sg : List Sg} {i : Nat} {now : List Pt} {sg' : List Sg} (h : innF w lb wd t o an sg i = some (now, sg')) (hp : an[i]? = some p) (hin : inB p) {ys : Option Sg} (hs : seeS lb wd t i o (newP w lb t i p) sg'.length = ys) : innF w lb wd t o an sg (i + 1) = some (now ++ [newP w lb t i p], sg' ++ ys.toList) := by
  unfold innF; rw [h]; simp only [hp]; rw [if_pos hin, hs]
theorem outF_step {w : Wn} {ls la : List Pt} {lb : List Int} {wd : Int} {t : Nat} {S : STt} {o : Pt} {now : List Pt} {sg' : List Sg} (h : outF w ls la lb wd t = some S) (ho : ls[t]? = some o) (hok : ok20 o) (hi : innF w lb wd t o S.an S.sg S.an.length = some (now, sg')) :
    outF w ls la lb wd (t + 1) = some ⟨S.ship ++ [aroundR o (restP wd 4)], S.src ++ [aroundR ⟨o.x - 10, o.y⟩ (restP wd 3)], S.eyes ++ [true], S.ears ++ [decide ((t : Int) % 2 = 0)], sg', S.guns ++ [⟨o.x - 10, o.y⟩], S.all ++ [now], now⟩ := by
  unfold outF; rw [h]; simp only [ho]; rw [if_pos hok, hi]
theorem see_no {lb : List Int} {wd : Int} {t i n : Nat} {o p : Pt} (h : (rootE (sqW o p)).2 ≠ 0 ∨ (rootE (sqW o p)).1 > 250 ∨ restP (pickP lb (5 * t + i)) 3 > 0 ∨ n = 32) : seeS lb wd t i o p n = none := by unfold seeS; exact if_pos h
theorem see_yes {lb : List Int} {wd : Int} {t i n : Nat} {o p : Pt} {oc : Int} (h1 : ¬ (rootE (sqW o p)).2 ≠ 0) (h2 : ¬ (rootE (sqW o p)).1 > 250) (h3 : ¬ restP (pickP lb (5 * t + i)) 3 > 0) (h4 : ¬ n = 32) (ho : (if restP (pickP lb (t + i)) 2 = 0 ∧ (t : Int) % 2 = 0 then -1 else octW (wr (p.x - o.x)) (wr (p.y - o.y))) = oc) :
    seeS lb wd t i o p n = some ⟨t, nmI i, oc, max 0 ((rootE (sqW o p)).1 - restP wd 5), (rootE (sqW o p)).1 + 1 + restP wd 5⟩ := by
  unfold seeS
  rw [if_neg (by rintro (h | h | h | h) <;> contradiction), ho]
/-- What seen keeps of its lists. -/
structure SnI (w : Wn) (ls la : List Pt) (lb : List Int) (wd : Int) (m t : Nat) (S : STt) (p1 : Option Addr) (k1 : Nat) (p2 : Option Addr) (k2 : Nat) (p3 : Option Addr) (k3 : Nat) (p4 : Option Addr) (k4 : Nat) (p5 : Option Addr) (k5 : Nat) (p6 : Option Addr) (k6 : Nat) (p7 : Option Addr) (k7 : Nat) (p8 : Option Addr) (k8 : Nat) (C1 C2 C3 C4 C5 C6 C7 C8 M : Heap) (L : List Dn) : Prop where
  e : outF w ls la lb wd t = some S
  tb : t ≤ 20 ∧ t ≤ ls.length
  ma : S.an.length = m
  h1 : OwnS 55 8 (.slice p1 t k1) t (S.ship.flatMap clR) C1
  h2 : OwnS 55 8 (.slice p2 t k2) t (S.src.flatMap clR) C2
  h3 : OwnS 4 1 (.slice p3 t k3) t (S.eyes.flatMap encB) C3
  h4 : OwnS 4 1 (.slice p4 t k4) t (S.ears.flatMap encB) C4
  h5 : OwnS 49 5 (.slice p5 S.sg.length k5) S.sg.length (S.sg.flatMap clSg) C5
  h6 : OwnS 73 2 (.slice p6 t k6) t (S.guns.flatMap encP) C6
  h7 : OwnS 69 1 (.slice p7 t k7) t (L.flatMap encD) C7
  h8 : OwnS 73 2 (.slice p8 m k8) m (S.an.flatMap encP) C8
  al : S.all = L.map Dn.l
  ds : ∀ d ∈ L, SlO M d.oa 2 encP d.l
structure InI (w : Wn) (lb : List Int) (wd : Int) (t : Nat) (o : Pt) (an : List Pt) (sg0 : List Sg) (m i : Nat) (now : List Pt) (sg : List Sg) (p9 : Option Addr) (k9 : Nat) (q8 : Option Addr) (l8 : Nat) (q5 : Option Addr) (l5 : Nat) (C9 E8 E5 : Heap) : Prop where
  e : innF w lb wd t o an sg0 i = some (now, sg)
  ib : i ≤ m
  nl : now.length = i
  s32 : sg.length ≤ 32
  h9 : OwnS 73 2 (.slice p9 i k9) i (now.flatMap encP) C9
  h8 : OwnS 73 2 (.slice q8 m l8) m ((now ++ an.drop i).flatMap encP) E8
  h5 : OwnS 49 5 (.slice q5 sg.length l5) sg.length (sg.flatMap clSg) E5
/-- What seen gives. -/
def SeenR (w : Wn) (ls la : List Pt) (lb : List Int) (wd : Int) (v : Value) (B : Heap) : Prop :=
  (∃ q1 n1 j1 q2 n2 j2 q3 n3 j3 q4 n4 j4 q5 n5 j5 av gv, v = tup [.agg [.slice q1 n1 j1, .slice q2 n2 j2, .slice q3 n3 j3, .slice q4 n4 j4, .slice q5 n5 j5].toArray, av, gv, .bool false]) ∨
  ∃ t S q1 j1 q2 j2 q3 j3 q4 j4 q5 j5 oa ka og kg L, v = tup [.agg [.slice q1 t j1, .slice q2 t j2, .slice q3 t j3, .slice q4 t j4, .slice q5 S.sg.length j5].toArray, .slice oa t ka, .slice og t kg, .bool (decide ((t : Int) > 0))] ∧
    outF w ls la lb wd t = some S ∧ t ≤ 20 ∧ ScO B ⟨q1, j1, q2, j2, q3, j3, q4, j4, q5, j5⟩ S.sc ∧ SlO B oa 1 encD L ∧ S.all = L.map Dn.l ∧ (∀ d ∈ L, SlO B d.oa 2 encP d.l) ∧ SlO B og 2 encP S.guns
theorem cur_at {now an : List Pt} {i : Nat} {p : Pt} (hn : now.length = i) (hp : an[i]? = some p) : (now ++ an.drop i)[i]? = some p := by
  subst hn
  rw [List.getElem?_append_right (Nat.le_refl _), Nat.sub_self, List.getElem?_drop]; simpa using hp
theorem cur_set {now an : List Pt} {i : Nat} {p q : Pt} (hn : now.length = i) (hp : an[i]? = some p) : (now ++ an.drop i).set i q = now ++ [q] ++ an.drop (i + 1) := by
  subst hn
  have hlt := (List.getElem?_eq_some_iff.1 hp).1
  rw [List.set_append_right _ _ (Nat.le_refl _), Nat.sub_self, List.drop_eq_getElem_cons hlt]; simp only [List.set_cons_zero, List.append_assoc, List.singleton_append]
theorem cur_same {now an : List Pt} {i : Nat} {p : Pt} (hn : now.length = i) (hp : an[i]? = some p) : now ++ an.drop i = now ++ [p] ++ an.drop (i + 1) := by
  obtain ⟨hlt, he⟩ := List.getElem?_eq_some_iff.1 hp
  rw [List.drop_eq_getElem_cons hlt, he]; simp
theorem cur_at2 {now an : List Pt} {i : Nat} {q : Pt} (hn : now.length = i) : (now ++ [q] ++ an.drop (i + 1))[i]? = some q := by
  subst hn
  rw [List.append_assoc, List.getElem?_append_right (Nat.le_refl _)]; simp
theorem seen_fin {w : Wn} {ls la : List Pt} {lb : List Int} {wd : Int} {m t : Nat} {S : STt} {p1 p2 p3 p4 p5 p6 p7 p8 : Option Addr} {k1 k2 k3 k4 k5 k6 k7 k8 : Nat} {C1 C2 C3 C4 C5 C6 C7 C8 M H : Heap} {L : List Dn} (h : SnI w ls la lb wd m t S p1 k1 p2 k2 p3 k3 p4 k4 p5 k5 p6 k6 p7 k7 p8 k8 C1 C2 C3 C4 C5 C6 C7 C8 M L) (hw : ∀ x ∈ S.sg, x.nm.size ≤ 9223372036854775807) :
    ∃ v, Out.val (tup [.agg [.slice p1 t k1, .slice p2 t k2, .slice p3 t k3, .slice p4 t k4, .slice p5 S.sg.length k5].toArray, .slice p7 t k7, .slice p6 t k6, .bool (decide ((t : Int) > 0))]) = Out.val v ∧ ∃ B, C5 ++ ((C1 ++ (C2 ++ (C3 ++ C4))) ++ (C6 ++ (C7 ++ (M ++ H)))) = B ++ H ∧ SeenR w ls la lb wd v B := by
  have hL := outF_len h.e
  have e1 := hL.l1; have e2 := hL.l2; have e3 := hL.l3; have e4 := hL.l4; have e5 := hL.l5; have e6 := hL.l6
  have hle := h.tb.1
  have h32 := hL.l8
  obtain ⟨_, c3, g3, i3⟩ := h.h3.shape
  obtain ⟨_, c4, g4, i4⟩ := h.h4.shape
  cases g3; cases g4
  have ll : L.length = t := by have := congrArg List.length h.al; rw [List.length_map] at this; omega
  refine ⟨_, rfl, C5 ++ ((C1 ++ (C2 ++ (C3 ++ C4))) ++ (C6 ++ (C7 ++ M))), by simp only [List.append_assoc], .inr ⟨t, S, p1, k1, p2, k2, p3, k3, p4, k4, p5, k5, p7, k7, p6, k6, L, rfl, h.e, hle, ⟨?_, ?_, ?_, ?_, ?_, ⟨?_, ?_⟩, hw, ?_⟩, ?_, h.al, fun d hd => ?_, ?_⟩⟩
  · exact (h.h1.slo (enc := clR) clR_len (by decide) rfl e1).sub (fun e he => by simp [he])
  · exact (h.h2.slo (enc := clR) clR_len (by decide) rfl e2).sub (fun e he => by simp [he])
  · exact (h.h3.slo (enc := encB) (fun _ => rfl) (by decide) rfl e3).sub (fun e he => by simp [he])
  · exact (h.h4.slo (enc := encB) (fun _ => rfl) (by decide) rfl e4).sub (fun e he => by simp [he])
  · exact (h.h5.slo (enc := clSg) clSg_len (by decide) rfl rfl).sub (fun e he => by simp [he])
  · show S.eyes.length ≤ k3; omega
  · show S.ears.length ≤ k4; omega
  · exact ⟨by show S.ship.length ≤ _; omega, by show S.src.length ≤ _; omega, by show S.eyes.length ≤ _; omega, by show S.ears.length ≤ _; omega, by show S.sg.length ≤ _; omega⟩
  · exact (h.h7.slo (enc := encD) (fun _ => rfl) (by decide) rfl ll).sub (fun e he => by simp [he])
  · exact (h.ds d hd).sub (fun e he => by simp [he])
  · exact (h.h6.slo (enc := encP) (fun _ => rfl) (by decide) rfl e5).sub (fun e he => by simp [he])
theorem nm_small {w : Wn} {ls la : List Pt} {lb : List Int} {wd : Int} : ∀ {t : Nat} {S : STt}, outF w ls la lb wd t = some S → ∀ x ∈ S.sg, x.nm.size ≤ 9223372036854775807
  | 0, S, h, x, hx => by unfold outF at h; cases h; cases hx
  | t + 1, S', h, x, hx => by
    obtain ⟨S, o, now, sg', h1, _, _, h4, rfl⟩ := outF_succ h
    obtain ⟨_, _, l, h5, h6⟩ := innF_spec (outF_len h1).l8 h4
    have hx : x ∈ sg' := hx
    rw [h5] at hx
    rcases List.mem_append.1 hx with hx | hx
    · exact nm_small h1 x hx
    · obtain ⟨k, p, n, _, c2⟩ := h6 x hx
      have := (nmI_ok k).1
      rw [(seeS_t c2).nm]; omega

end Go.Proofs.YtaplkoimhecacaaDoor
namespace Go.Proofs.YtaplkoimhecacaaDoor
open Go
set_option maxRecDepth 100000

attribute [local irreducible] tightP hullP rootP farP rows endsOf restP pickP swumP d2
abbrev clLf (o1 : Option Addr) (n1 c1 : Nat) (o2 : Option Addr) (n2 c2 : Nat) (o3 : Option Addr) (n3 c3 : Nat) (wd : Int) : List Value := [.slice o1 n1 c1, .slice o2 n2 c2, .slice o3 n3 c3, I wd]
theorem ok_bdP {p : Pt} (h : ¬ chkP p ≠ 0) : bdP p ∧ (-32768 ≤ p.x ∧ p.x ≤ 32768) ∧ -32768 ≤ p.y ∧ p.y ≤ 32768 := by
  have := chkP_zero.1 (Classical.not_not.1 h)
  unfold Pt.ok at this
  unfold bdP; omega
/-- How far an animal and a source are behind so many steps. -/
structure GSt (w : Wn) (far ship t : Int) (p q : Pt) : Prop where
  tb : 1 ≤ t ∧ t ≤ 61
  g : gInv far (w.speed + ship) (t - 1) p q
  pb : (-(32768 + 64 * t) ≤ p.x ∧ p.x ≤ 32768 + 64 * t) ∧ -(32768 + 64 * t) ≤ p.y ∧ p.y ≤ 32768 + 64 * t
  qb : (-(32768 + 64 * t) ≤ q.x ∧ q.x ≤ 32768 + 64 * t) ∧ -(32768 + 64 * t) ≤ q.y ∧ q.y ≤ 32768 + 64 * t
theorem GSt.first {w : Wn} {far ship : Int} {p q : Pt} (hf : 0 ≤ far) (hp : ¬ chkP p ≠ 0) (hq : ¬ chkP q ≠ 0) (hd : ¬ d2 p q ≤ far * far) : GSt w far ship 1 p q := by
  have h1 := (ok_bdP hp).2
  have h2 := (ok_bdP hq).2
  refine ⟨by omega, ?_, by omega, by omega⟩
  unfold gInv
  rw [show (1 : Int) - 1 = 0 by omega, Int.zero_mul, Int.sub_zero]
  omega
end Go.Proofs.YtaplkoimhecacaaDoor
