/-
  What the base lacks. Walks of the laws' helpers: Rest, Pick, square, swum. The walk of WatchGuarded.
-/
import Derived.Test.YtaplkoimhecacaaDoorB01
import Derived.Test.YtaplkoimhecacaaDoorB02
import Derived.Test.YtaplkoimhecacaaDoorB03
import Derived.Test.YtaplkoimhecacaaDoorB04
import Derived.Test.YtaplkoimhecacaaDoorB05
import Derived.Test.YtaplkoimhecacaaDoorB06
import Derived.Test.YtaplkoimhecacaaDoorB07
import Derived.Test.YtaplkoimhecacaaDoorB08
import Derived.Test.YtaplkoimhecacaaDoorB09
import Derived.Test.YtaplkoimhecacaaDoorB10
import Derived.Test.YtaplkoimhecacaaDoorB11
import Derived.Test.YtaplkoimhecacaaDoorB12
import Derived.Test.YtaplkoimhecacaaDoorB13
import Derived.Test.YtaplkoimhecacaaDoorB14
import Derived.Test.YtaplkoimhecacaaDoorB15
import Derived.Test.YtaplkoimhecacaaDoorB16
import Derived.Test.YtaplkoimhecacaaDoorB17
import Derived.Test.YtaplkoimhecacaaDoorB18
import Derived.Test.YtaplkoimhecacaaDoorB19
import Derived.Test.YtaplkoimhecacaaDoorB20
namespace Go.Proofs.YtaplkoimhecacaaDoor
open Go
set_option maxRecDepth 100000
section
open Go

variable {P : Program} {f : FuncId} {ro : Option Nat} {N : Nat} {k : List Item} {E : Env} {D : List Deferred} {H : Heap} {Q : Out → Heap → Prop}
variable {ops : Array Oper} {l : List Oper}

variable {d : Nat} {x y : Operand} {a b : Int} {T T' ty : TypeId} {pos : String} {af : Array Edge} {g : Option (Nat × Bool)}

theorem vrem (hx : ev E x = some (.int .i64 a)) (hy : ev E y = some (.int .i64 b)) (hb : b ≠ 0) :
    OQ P N E D H ⟨some d, .binOp .rem T x y T', ty, pos, af, g⟩ (.int .i64 (a.tmod b)) :=
  ov (by simp) (fun t w hA _ => by simp [execOp, ev_eval hA hx, ev_eval hA hy, binOp, eqGuard, Op.intDiv, hb])
end
section

def chkP (p : Pt) : Int := if p.ok then 0 else 10
end
section

theorem chkP_zero {p : Pt} : chkP p = 0 ↔ p.ok := by unfold chkP; split <;> simp_all
theorem chkP_no {p : Pt} (h : ¬ p.ok) : chkP p = 10 := if_neg h
end
section

def rootE (n : Int) : Int × Int := if 0 ≤ n ∧ n ≤ 1099511627776 then (rootP n, 0) else (0, 7)

end
section

theorem tmod_emod {n m : Int} (hm : 0 < m) : (if n.tmod m < 0 then n.tmod m + m else n.tmod m) = n % m := by
  rcases Int.le_total 0 n with h0 | h0
  · have h1 := Int.tmod_nonneg m h0
    rw [if_neg (by omega), Int.tmod_eq_emod_of_nonneg h0]
  · have h1 : 0 ≤ (-n).tmod m := Int.tmod_nonneg m (by omega)
    have h2 : (-n).tmod m < m := Int.tmod_lt_of_pos _ hm
    rw [Int.neg_tmod] at h1 h2
    have h3 := Int.mul_tdiv_add_tmod n m
    have h4 := Int.mul_ediv_add_emod n m
    have h5 := Int.emod_nonneg n (show m ≠ 0 by omega)
    have h6 := Int.emod_lt_of_pos n hm
    have e : m * (n / m - n.tdiv m) = n.tmod m - n % m := by rw [Int.mul_sub]; omega
    generalize n / m - n.tdiv m = k at e
    split
    · rename_i hneg
      have : k = -1 := by
        rcases Int.lt_trichotomy k (-1) with h | h | h
        · have := Int.mul_le_mul_of_nonneg_left (show k ≤ -2 by omega) (show 0 ≤ m by omega); omega
        · exact h
        · have := Int.mul_le_mul_of_nonneg_left (show 0 ≤ k by omega) (show 0 ≤ m by omega); omega
      subst this; omega
    · have : k = 0 := by
        rcases Int.lt_trichotomy k 0 with h | h | h
        · have := Int.mul_le_mul_of_nonneg_left (show k ≤ -1 by omega) (show 0 ≤ m by omega); omega
        · exact h
        · have := Int.mul_le_mul_of_nonneg_left (show 1 ≤ k by omega) (show 0 ≤ m by omega); omega
      subst this; omega

end
section
open Go
open Go.ChangeShapes Go.WideShapes Go.ChangeAt Go.RowKit

variable {HH : Type} (enc : TypeId × Value → HH) (P : Program) (W : World)

variable {enc P W}
theorem allH_emb (W : World) : Emb (allH W) W := by
  refine ⟨?_, fun e he => ?_⟩
  · have : (allH W).map Prod.fst = List.range W.heap.size := by
      unfold allH
      rw [List.map_map]
      have : (Prod.fst ∘ fun p : Obj × Nat => (p.2, p.1)) = Prod.snd := rfl
      rw [this, List.zipIdx_map_snd, List.range_eq_range']
      simp
    rw [this]; exact List.nodup_range
  · exact allH_mem.1 he

/-- A contract at all blocks, in the library's form. -/
theorem calls_of {P : Program} {k : FuncId} {args : Array Value} {W : World} {v : Value} (h : VCall P k args (allH W) (fun o H' => o = .val v ∧ ∃ B, H' = B ++ allH W)) :
    Calls P k args W (fun e w' => e = .returned v ∧ Below W.heap.size W w') := by
  intro cs
  obtain ⟨o, w', m', H', ⟨rfl, B, rfl⟩, hF, hs, _, fr', rfl, h1, h2⟩ := h W cs (allH_emb W)
  refine ⟨.returned v, w', fr', ⟨rfl, hF.os, hF.tape, hF.output, hF.size, fun i hi => ?_⟩, hs, h1, h2⟩
  have hg : W.heap[i]? = some W.heap[i] := Array.getElem?_eq_getElem hi
  rw [hg]
  exact hF.emb.at_ (i, W.heap[i]) (List.mem_append_right _ (allH_mem.2 hg))

end
section
open Go
/-- Ways add up. -/
theorem sq_sum {x y u v n m : Int} (hn : 0 ≤ n) (hm : 0 ≤ m) (h1 : x * x + y * y ≤ n * n) (h2 : u * u + v * v ≤ m * m) : (x + u) * (x + u) + (y + v) * (y + v) ≤ (n + m) * (n + m) := by
  have e : (x * u + y * v) * (x * u + y * v) + (x * v - y * u) * (x * v - y * u) = (x * x + y * y) * (u * u + v * v) := by grind
  have p2 : 0 ≤ u * u + v * v := Int.add_nonneg (sq_nn u) (sq_nn v)
  have p3 : (x * x + y * y) * (u * u + v * v) ≤ (n * n) * (m * m) := Int.mul_le_mul h1 h2 p2 (sq_nn n)
  have p4 : (n * n) * (m * m) = (n * m) * (n * m) := by grind
  have p5 := sq_nn (x * v - y * u)
  have p6 := (abs_of_sq (Int.mul_nonneg hn hm) (show (x * u + y * v) * (x * u + y * v) ≤ (n * m) * (n * m) by omega)).2
  have e1 : (x + u) * (x + u) + (y + v) * (y + v) = x * x + y * y + (u * u + v * v) + 2 * (x * u + y * v) := by grind
  have e2 : (n + m) * (n + m) = n * n + m * m + 2 * (n * m) := by grind
  rw [e1, e2]
  omega
theorem sq_flip (a b : Int) : (a - b) * (a - b) = (b - a) * (b - a) := by grind
theorem far_step {p q p' q' : Pt} {a b m : Int} (ha : 0 ≤ a) (hb : 0 ≤ b) (hm : 0 ≤ m - a - b) (h : m * m < d2 p q) (h1 : d2 p p' ≤ a * a) (h2 : d2 q q' ≤ b * b) : (m - a - b) * (m - a - b) < d2 p' q' := by
  rcases Int.lt_or_le ((m - a - b) * (m - a - b)) (d2 p' q') with g | g
  · exact g
  · exfalso
    unfold d2 at *
    have s1 := sq_sum ha hm h1 g
    rw [show p'.x - p.x + (q'.x - p'.x) = q'.x - p.x by omega, show p'.y - p.y + (q'.y - p'.y) = q'.y - p.y by omega] at s1
    rw [sq_flip q'.x, sq_flip q'.y] at h2
    have s2 := sq_sum (by omega) hb s1 h2
    rw [show q'.x - p.x + (q.x - q'.x) = q.x - p.x by omega, show q'.y - p.y + (q.y - q'.y) = q.y - p.y by omega, show a + (m - a - b) + b = m by omega] at s2
    omega
theorem guardN_spec (w : Wn) (far ship : Int) : ∀ (n : Nat) (k : Int), k ≤ guardN w far ship n k ∧ guardN w far ship n k ≤ k + n ∧ ∀ t, k < t → t ≤ guardN w far ship n k → w.zone < far - t * (w.speed + ship)
  | 0, k => ⟨by simp [guardN], by simp [guardN], fun t h1 h2 => by simp only [guardN] at h2; omega⟩
  | n + 1, k => by
    obtain ⟨h1, h2, h3⟩ := guardN_spec w far ship n (k + 1)
    simp only [guardN]
    split
    · rename_i hc
      refine ⟨by omega, by omega, fun t ht ht2 => ?_⟩
      by_cases e : t = k + 1
      · subst e; exact hc
      · exact h3 t (by omega) ht2
    · exact ⟨by omega, by omega, fun t ht ht2 => by omega⟩
/-- So far away they are behind so many steps. -/
def gInv (far S t : Int) (p q : Pt) : Prop := 0 ≤ far - t * S ∧ (far - t * S) * (far - t * S) < d2 p q
theorem gInv_step {w : Wn} {far ship t : Int} {p q p' q' : Pt} (hz : 0 ≤ w.zone) (ha : 0 ≤ w.speed) (hb : 0 ≤ ship) (h : gInv far (w.speed + ship) t p q) (hg : w.zone < far - (t + 1) * (w.speed + ship))
    (h1 : d2 p p' ≤ w.speed * w.speed) (h2 : d2 q q' ≤ ship * ship) : gInv far (w.speed + ship) (t + 1) p' q' ∧ w.zone * w.zone < d2 p' q' := by
  have e : far - (t + 1) * (w.speed + ship) = far - t * (w.speed + ship) - w.speed - ship := by rw [Int.add_mul]; omega
  unfold gInv at *
  rw [e] at hg ⊢
  have hs := far_step ha hb (by omega) h.2 h1 h2
  have := Int.mul_le_mul (Int.le_of_lt hg) (Int.le_of_lt hg) hz (by omega)
  exact ⟨⟨by omega, hs⟩, by omega⟩
def pickP (l : List Int) (i : Int) : Int := (l[(restP i l.length).toNat]?).getD 0
def swumX (speed : Int) (bits : List Int) (a : Int) : Int := restP (pickP bits a) (2 * speed + 1) - speed
def swumH (speed x : Int) : Int := (rootE (speed * speed - x * x)).1
def swumY (h : Int) (bits : List Int) (a : Int) : Int := restP (pickP bits (a + 1)) (2 * h + 1) - h
def swumP (p : Pt) (speed : Int) (bits : List Int) (a : Int) : Pt := ⟨p.x + swumX speed bits a, p.y + swumY (swumH speed (swumX speed bits a)) bits a⟩
theorem swumX_bd {speed : Int} (h : 0 ≤ speed) (bits : List Int) (a : Int) : -speed ≤ swumX speed bits a ∧ swumX speed bits a ≤ speed := by
  have := rest_bd (n := pickP bits a) (m := 2 * speed + 1) (by omega)
  unfold swumX; omega
theorem sq_abs {y h : Int} (h1 : -h ≤ y ∧ y ≤ h) : y * y ≤ h * h := by
  rcases Int.le_total 0 y with g | g
  · exact Int.mul_le_mul h1.2 h1.2 g (by omega)
  · have := Int.mul_le_mul (show -y ≤ h by omega) (show -y ≤ h by omega) (show 0 ≤ -y by omega) (by omega)
    rwa [Int.neg_mul_neg] at this
theorem swumH_bd {speed x : Int} (hs : 0 ≤ speed ∧ speed ≤ 1048576) (hx : -speed ≤ x ∧ x ≤ speed) : 0 ≤ swumH speed x ∧ swumH speed x ≤ speed ∧ x * x + swumH speed x * swumH speed x ≤ speed * speed := by
  have h1 := sq_abs hx
  have h2 := (mul_bd hs hs).2
  have h3 := sq_nn x
  have hr := rootP_is (n := speed * speed - x * x) (by omega)
  have e : swumH speed x = rootP (speed * speed - x * x) := by unfold swumH rootE; rw [if_pos (by omega)]
  rw [e]
  unfold IsRt at hr
  obtain ⟨r1, r2, r3⟩ := hr
  refine ⟨r1, ?_, by omega⟩
  exact (abs_of_sq hs.1 (by omega)).2
theorem swumY_bd {h : Int} (hh : 0 ≤ h) (bits : List Int) (a : Int) : -h ≤ swumY h bits a ∧ swumY h bits a ≤ h := by
  have := rest_bd (n := pickP bits (a + 1)) (m := 2 * h + 1) (by omega)
  unfold swumY; omega
theorem swum_bd {p : Pt} {speed : Int} {bits : List Int} {a : Int} (hs : 0 ≤ speed ∧ speed ≤ 1048576) : d2 p (swumP p speed bits a) ≤ speed * speed ∧ (p.x - speed ≤ (swumP p speed bits a).x ∧ (swumP p speed bits a).x ≤ p.x + speed) ∧ p.y - speed ≤ (swumP p speed bits a).y ∧ (swumP p speed bits a).y ≤ p.y + speed := by
  have h1 := swumX_bd hs.1 bits a
  obtain ⟨h2, h3, h4⟩ := swumH_bd hs h1
  have h5 := swumY_bd h2 bits a
  have h6 := sq_abs h5
  unfold swumP d2
  simp only
  rw [show p.x + swumX speed bits a - p.x = swumX speed bits a by omega, show p.y + swumY (swumH speed (swumX speed bits a)) bits a - p.y = swumY (swumH speed (swumX speed bits a)) bits a by omega]
  refine ⟨by omega, by omega, by omega⟩
end
section
open Go
instance tSc34 : TSc Tryd.prog 34 := mkTSc (by kernel_rfl) (by kernel_rfl)
instance tAr68 : TAr Tryd.prog 68 2 1 := mkTAr (b := false) (by kernel_rfl)
instance tAv68 : TAv Tryd.prog 68 true 2 1 := mkTAv (b := false) (by kernel_rfl) (by simp)
instance tBd68 : TBd Tryd.prog 68 [.int .i64 0, .int .i64 0] (fun i => some (i * 1, 1)) := mkTBda (n := 2) (b := false) (z := .agg #[.int .i64 0, .int .i64 0]) (by kernel_rfl) rfl (by kernel_rfl)
instance tSc69 : TSc Tryd.prog 69 := mkTSc (by kernel_rfl) (by kernel_rfl)
instance tSl69 : TSl Tryd.prog 69 73 2 := mkTSl (by kernel_rfl) (by kernel_rfl)
instance tFl71_0 : TFl Tryd.prog 71 0 0 := mkTFl (by kernel_rfl)
instance tFl71_1 : TFl Tryd.prog 71 1 1 := mkTFl (by kernel_rfl)
instance tFl71_2 : TFl Tryd.prog 71 2 2 := mkTFl (by kernel_rfl)
instance tFn25 : TFn Tryd.prog 25 := mkTFn Tryd.func25 (by kernel_rfl) rfl
instance tFn35 : TFn Tryd.prog 35 := mkTFn Tryd.func35 (by kernel_rfl) rfl
instance tFn36 : TFn Tryd.prog 36 := mkTFn Tryd.func36 (by kernel_rfl) rfl
instance tFn37 : TFn Tryd.prog 37 := mkTFn Tryd.func37 (by kernel_rfl) rfl
instance tFn79 : TFn Tryd.prog 79 := mkTFn Tryd.func79 (by kernel_rfl) rfl
instance tFn80 : TFn Tryd.prog 80 := mkTFn Tryd.func80 (by kernel_rfl) rfl
end
section
open Go
set_option maxRecDepth 100000
/-- paravane/region.CheckPoint -/
theorem c_region_CheckPoint (p : Pt) : VPure Tryd.prog 35 [vP p] (I (chkP p)) := by
  intro H
  refine vcall_of_vrun Tryd.func35 rfl (N := 18) rfl rfl ?_
  refine vseq ?_
  refine vregion ?_
  refine vone rfl (vxa (vbox rfl rfl) rfl rfl (fun b1 => ?_))
  refine vone rfl (vxq (vas rfl) rfl rfl ?_)
  refine vnil ?_
  refine vseq ?_
  refine vseq ?_
  refine vregion ?_
  refine vone rfl (vxq (vfa rfl) rfl rfl ?_)
  refine vone rfl (vxq (vld1 rfl rfl) rfl rfl ?_)
  refine vone rfl (vxq (vfa rfl) rfl rfl ?_)
  refine vone rfl (vxq (vld1 rfl rfl) rfl rfl ?_)
  refine vone rfl (vxq (vbd rfl rfl) rfl rfl ?_)
  refine vone rfl (vxq (vmv rfl) rfl rfl ?_)
  refine vnil ?_
  refine vblock ?_
  refine vloop1 ?_
  refine vseq ?_
  refine vregion ?_
  refine vone rfl (vxq (vlss rfl rfl) rfl rfl ?_)
  refine vnil ?_
  refine vseq ?_
  refine vcondt rfl ?_
  refine vskip ?_
  refine vseq ?_
  refine vblock ?_
  refine vseq ?_
  refine vregion ?_
  refine vone rfl (vxq (vixa1 rfl rfl (by omega) rfl) rfl rfl ?_)
  refine vone rfl (vxq (vas rfl) rfl rfl ?_)
  refine vnil ?_
  refine vseq ?_
  refine vregion ?_
  refine vone rfl (vxq (vmv rfl) rfl rfl ?_)
  refine vone rfl (vxq (vcp rfl rfl rfl (c_region_limit_into _ _ (by omega))) rfl rfl ?_)
  refine vone rfl (vxq (vmv rfl) rfl rfl ?_)
  refine vone rfl (vxq (vneq rfl rfl) rfl rfl ?_)
  refine vnil ?_
  refine vcondd rfl (fun h16 => ?_) (fun h16 => ?_)
  · skip
    refine vseq ?_
    refine vregion ?_
    refine vone rfl (vxq (vas rfl) rfl rfl ?_)
    refine vnil ?_
    refine vret (vr1 (H' := H) Tryd.func35 rfl (.tmp rfl) (by repeat first | exact .refl _ | refine .cons_cons _ ?_ | refine .cons _ ?_ | exact sl0 _ | refine slA ?_) ?_)
    first | exact ⟨oI (chkP_no (by unfold Pt.ok; omega)).symm, rfl⟩ | exact ⟨oI (chkP_zero.2 (by unfold Pt.ok; omega)).symm, rfl⟩
  · skip
    refine vskip ?_
    refine vinblock ?_
    refine vregion ?_
    refine vone rfl (vxq (vadd rfl rfl (by unfold InR; omega)) rfl rfl ?_)
    refine vone rfl (vxq (vmv rfl) rfl rfl ?_)
    refine vnil ?_
    refine vinloop1 ?_
    refine vseq ?_
    refine vregion ?_
    refine vone rfl (vxq (vlss rfl rfl) rfl rfl ?_)
    refine vnil ?_
    refine vseq ?_
    refine vcondt rfl ?_
    refine vskip ?_
    refine vseq ?_
    refine vblock ?_
    refine vseq ?_
    refine vregion ?_
    refine vone rfl (vxq (vixa1 rfl rfl (by omega) rfl) rfl rfl ?_)
    refine vone rfl (vxq (vas rfl) rfl rfl ?_)
    refine vnil ?_
    refine vseq ?_
    refine vregion ?_
    refine vone rfl (vxq (vmv rfl) rfl rfl ?_)
    refine vone rfl (vxq (vcp rfl rfl rfl (c_region_limit_into _ _ (by omega))) rfl rfl ?_)
    refine vone rfl (vxq (vmv rfl) rfl rfl ?_)
    refine vone rfl (vxq (vneq rfl rfl) rfl rfl ?_)
    refine vnil ?_
    refine vcondd rfl (fun h16 => ?_) (fun h16 => ?_)
    · skip
      refine vseq ?_
      refine vregion ?_
      refine vone rfl (vxq (vas rfl) rfl rfl ?_)
      refine vnil ?_
      refine vret (vr1 (H' := H) Tryd.func35 rfl (.tmp rfl) (by repeat first | exact .refl _ | refine .cons_cons _ ?_ | refine .cons _ ?_ | exact sl0 _ | refine slA ?_) ?_)
      first | exact ⟨oI (chkP_no (by unfold Pt.ok; omega)).symm, rfl⟩ | exact ⟨oI (chkP_zero.2 (by unfold Pt.ok; omega)).symm, rfl⟩
    · skip
      refine vskip ?_
      refine vinblock ?_
      refine vregion ?_
      refine vone rfl (vxq (vadd rfl rfl (by unfold InR; omega)) rfl rfl ?_)
      refine vone rfl (vxq (vmv rfl) rfl rfl ?_)
      refine vnil ?_
      refine vinloop1 ?_
      refine vseq ?_
      refine vregion ?_
      refine vone rfl (vxq (vlss rfl rfl) rfl rfl ?_)
      refine vnil ?_
      refine vseq ?_
      refine vcondf rfl ?_
      refine vexit (k' := _) rfl ?_
      refine vseq ?_
      refine vregion ?_
      refine vone rfl (vxq (vas rfl) rfl rfl ?_)
      refine vnil ?_
      refine vret (vr1 (H' := H) Tryd.func35 rfl (.tmp rfl) (by repeat first | exact .refl _ | refine .cons_cons _ ?_ | refine .cons _ ?_ | exact sl0 _ | refine slA ?_) ?_)
      first | exact ⟨oI (chkP_no (by unfold Pt.ok; omega)).symm, rfl⟩ | exact ⟨oI (chkP_zero.2 (by unfold Pt.ok; omega)).symm, rfl⟩

end
section
open Go
set_option maxRecDepth 100000

/-- paravane/region.Root -/
theorem c_Root (n : Int) : VPure Tryd.prog 80 [I n] (tup [I (rootE n).1, I (rootE n).2]) := by
  intro H
  refine vcall_of_vrun Tryd.func80 rfl (N := 9) rfl rfl ?_
  refine vseq ?_
  refine vregion ?_
  refine vone rfl (vxq (vas rfl) rfl rfl ?_)
  refine vone rfl (vxq (vas rfl) rfl rfl ?_)
  refine vnil ?_
  refine vseq ?_
  refine vseq ?_
  refine vregion ?_
  refine vone rfl (vxq (vmv rfl) rfl rfl ?_)
  refine vone rfl (vxq (vcp rfl rfl rfl (c_region_within _ _ _)) rfl rfl ?_)
  refine vone rfl (vxq (vnotd rfl) rfl rfl ?_)
  refine vnil ?_
  refine vcondd rfl (fun h6 => ?_) (fun h6 => ?_)
  · skip
    refine vseq ?_
    refine vregion ?_
    refine vone rfl (vxq (vas rfl) rfl rfl ?_)
    refine vone rfl (vxq (vas rfl) rfl rfl ?_)
    refine vnil ?_
    refine vret (vr2 (H' := H) Tryd.func80 rfl (.tmp rfl) (.tmp rfl) (by repeat first | exact .refl _ | refine .cons_cons _ ?_ | refine .cons _ ?_ | exact sl0 _ | refine slA ?_) ?_)
    first | (rw [show rootE n = (0, 7) from if_neg (by omega)]; exact ⟨rfl, rfl⟩) | (rw [show rootE n = (rootP n, 0) from if_pos (by omega)]; exact ⟨rfl, rfl⟩)
  · skip
    refine vskip ?_
    refine vseq ?_
    refine vregion ?_
    refine vone rfl (vxq (vmv rfl) rfl rfl ?_)
    refine vone rfl (vxq (vcp rfl rfl rfl (c_root n (by omega))) rfl rfl ?_)
    refine vone rfl (vxq (vas rfl) rfl rfl ?_)
    refine vone rfl (vxq (vas rfl) rfl rfl ?_)
    refine vnil ?_
    refine vret (vr2 (H' := H) Tryd.func80 rfl (.tmp rfl) (.tmp rfl) (by repeat first | exact .refl _ | refine .cons_cons _ ?_ | refine .cons _ ?_ | exact sl0 _ | refine slA ?_) ?_)
    first | (rw [show rootE n = (0, 7) from if_neg (by omega)]; exact ⟨rfl, rfl⟩) | (rw [show rootE n = (rootP n, 0) from if_pos (by omega)]; exact ⟨rfl, rfl⟩)
end
end Go.Proofs.YtaplkoimhecacaaDoor
namespace Go.Proofs.YtaplkoimhecacaaDoor
open Go
set_option maxRecDepth 100000

attribute [local irreducible] tightP hullP rootP farP rows endsOf
theorem rest_lt {n m : Int} (h : m < 1) : restP n m = 0 := if_pos h
theorem rest_neg {n m : Int} (h : ¬ m < 1) (h2 : n.tmod m < 0) : restP n m = n.tmod m + m := by
  have := tmod_emod (n := n) (m := m) (by omega)
  rw [if_pos h2] at this
  unfold restP; rw [if_neg h, this]
theorem rest_nn {n m : Int} (h : ¬ m < 1) (h2 : ¬ n.tmod m < 0) : restP n m = n.tmod m := by
  have := tmod_emod (n := n) (m := m) (by omega)
  rw [if_neg h2] at this
  unfold restP; rw [if_neg h, this]
theorem tmod_bd {n m : Int} (h : ¬ m < 1) : -m < n.tmod m ∧ n.tmod m < m := by
  refine ⟨?_, Int.tmod_lt_of_pos _ (by omega)⟩
  have := Int.tmod_lt_of_pos (-n) (show 0 < m by omega)
  rw [Int.neg_tmod] at this; omega
/-- paravane/paravaneref00.Rest -/
theorem c_Rest (n m : Int) (hn : InR n) (hm : InR m) : VPure Tryd.prog 25 [I n, I m] (I (restP n m)) := by
  unfold InR at hn hm
  intro H
  refine vcall_of_vrun Tryd.func25 rfl (N := 16) rfl rfl ?_
  refine vseq ?_
  refine vregion ?_
  refine vone rfl (vxq (vas rfl) rfl rfl ?_)
  refine vnil ?_
  refine vseq ?_
  refine vseq ?_
  refine vregion ?_
  refine vone rfl (vxq (vmv rfl) rfl rfl ?_)
  refine vone rfl (vxq (vlss rfl rfl) rfl rfl ?_)
  refine vnil ?_
  refine vcondd rfl (fun h6 => ?_) (fun h6 => ?_)
  · skip
    refine vseq ?_
    refine vregion ?_
    refine vone rfl (vxq (vas rfl) rfl rfl ?_)
    refine vnil ?_
    refine vret (vr1 (H' := H) Tryd.func25 rfl (.tmp rfl) sb ?_)
    first | (rw [rest_lt h6]; exact ⟨rfl, rfl⟩) | (rw [rest_neg h6 h11]; exact ⟨rfl, rfl⟩) | (rw [rest_nn h6 h11]; exact ⟨rfl, rfl⟩)
  · skip
    have hb := tmod_bd (n := n) h6
    refine vskip ?_
    refine vseq ?_
    refine vregion ?_
    refine vone rfl (vxq (vmv rfl) rfl rfl ?_)
    refine vone rfl (vxq (vmv rfl) rfl rfl ?_)
    refine vone rfl (vxq (vrem rfl rfl (by omega)) rfl rfl ?_)
    refine vone rfl (vxq (vas rfl) rfl rfl ?_)
    refine vnil ?_
    refine vseq ?_
    refine vseq ?_
    refine vregion ?_
    refine vone rfl (vxq (vmv rfl) rfl rfl ?_)
    refine vone rfl (vxq (vlss rfl rfl) rfl rfl ?_)
    refine vnil ?_
    refine vcondd rfl (fun h11 => ?_) (fun h11 => ?_)
    · skip
      refine vregion ?_
      refine vone rfl (vxq (vmv rfl) rfl rfl ?_)
      refine vone rfl (vxq (vmv rfl) rfl rfl ?_)
      refine vone rfl (vxq (vadd rfl rfl (by unfold InR; omega)) rfl rfl ?_)
      refine vone rfl (vxq (vas rfl) rfl rfl ?_)
      refine vnil ?_
      refine vseq ?_
      refine vregion ?_
      refine vone rfl (vxq (vmv rfl) rfl rfl ?_)
      refine vone rfl (vxq (vas rfl) rfl rfl ?_)
      refine vnil ?_
      refine vret (vr1 (H' := H) Tryd.func25 rfl (.tmp rfl) sb ?_)
      first | (rw [rest_lt h6]; exact ⟨rfl, rfl⟩) | (rw [rest_neg h6 h11]; exact ⟨rfl, rfl⟩) | (rw [rest_nn h6 h11]; exact ⟨rfl, rfl⟩)
    · skip
      refine vskip ?_
      refine vseq ?_
      refine vregion ?_
      refine vone rfl (vxq (vmv rfl) rfl rfl ?_)
      refine vone rfl (vxq (vas rfl) rfl rfl ?_)
      refine vnil ?_
      refine vret (vr1 (H' := H) Tryd.func25 rfl (.tmp rfl) sb ?_)
      first | (rw [rest_lt h6]; exact ⟨rfl, rfl⟩) | (rw [rest_neg h6 h11]; exact ⟨rfl, rfl⟩) | (rw [rest_nn h6 h11]; exact ⟨rfl, rfl⟩)

theorem pick_nil {l : List Int} (i : Int) (h : (l.length : Int) = 0) : pickP l i = 0 := by
  have : l = [] := List.length_eq_zero_iff.1 (by omega)
  subst this; rfl
theorem pick_at {l : List Int} {i : Int} (h : ¬ (l.length : Int) = 0) : ∃ z, l[(restP i l.length).toNat]? = some z ∧ pickP l i = z ∧ 0 ≤ restP i l.length ∧ restP i l.length < l.length := by
  have hr := rest_bd (n := i) (m := (l.length : Int)) (by omega)
  obtain ⟨z, hz⟩ := get_of_lt l (i := (restP i l.length).toNat) (by omega)
  exact ⟨z, hz, by unfold pickP; rw [hz]; rfl, by omega, by omega⟩
theorem pick_in {l : List Int} {i : Int} (h : ∀ n ∈ l, InR n) : InR (pickP l i) := by
  unfold pickP
  cases hz : l[(restP i l.length).toNat]? with
  | none => exact ⟨by decide, by decide⟩
  | some z => exact h z (List.mem_of_getElem? hz)

/-- paravane/paravaneref00.Pick -/
theorem c_Pick (l : List Int) (oa : Option Addr) (c : Nat) (H : Heap) [hl : SlO H oa 1 encI l] (hn : l.length ≤ 9223372036854775807) (i : Int) (hi : InR i) : VHas Tryd.prog 79 [.slice oa l.length c, I i] (I (pickP l i)) (H) (H) := by
  refine vcall_of_vrun Tryd.func79 rfl (N := 15) rfl rfl ?_
  refine vseq ?_
  refine vregion ?_
  refine vone rfl (vxq (vas rfl) rfl rfl ?_)
  refine vnil ?_
  refine vseq ?_
  refine vseq ?_
  refine vregion ?_
  refine vone rfl (vxq (vmv rfl) rfl rfl ?_)
  refine vone rfl (vxq (vlen rfl) rfl rfl ?_)
  refine vone rfl (vxq (veql rfl rfl) rfl rfl ?_)
  refine vnil ?_
  refine vcondd rfl (fun h7 => ?_) (fun h7 => ?_)
  · skip
    refine vseq ?_
    refine vregion ?_
    refine vone rfl (vxq (vas rfl) rfl rfl ?_)
    refine vnil ?_
    refine vret (vr1 (H' := H) Tryd.func79 rfl (.tmp rfl) sb ?_)
    first | (rw [pick_nil i h7]; exact ⟨rfl, rfl⟩) | (rw [hp]; exact ⟨rfl, rfl⟩)
  · skip
    obtain ⟨z, hz, hp, hr0, hr1⟩ := pick_at (i := i) h7
    refine vskip ?_
    refine vseq ?_
    refine vregion ?_
    refine vone rfl (vxq (vmv rfl) rfl rfl ?_)
    refine vone rfl (vxq (vmv rfl) rfl rfl ?_)
    refine vone rfl (vxq (vmv rfl) rfl rfl ?_)
    refine vone rfl (vxq (vlen rfl) rfl rfl ?_)
    refine vone rfl (vxq (vcp rfl rfl rfl (c_Rest i _ hi (by unfold InR; omega))) rfl rfl ?_)
    refine vone rfl (vxq (visg (enc := encI) rfl rfl (by omega) hz) rfl rfl ?_)
    refine vone rfl (vxq (vldS1 (enc := encI) rfl hz rfl) rfl rfl ?_)
    refine vone rfl (vxq (vas rfl) rfl rfl ?_)
    refine vnil ?_
    refine vret (vr1 (H' := H) Tryd.func79 rfl (.tmp rfl) sb ?_)
    first | (rw [pick_nil i h7]; exact ⟨rfl, rfl⟩) | (rw [hp]; exact ⟨rfl, rfl⟩)

def bdP (p : Pt) : Prop := (-200000 ≤ p.x ∧ p.x ≤ 200000) ∧ -200000 ≤ p.y ∧ p.y ≤ 200000
theorem sqd_bd {a b : Int} (ha : -200000 ≤ a ∧ a ≤ 200000) (hb : -200000 ≤ b ∧ b ≤ 200000) : 0 ≤ (b - a) * (b - a) ∧ (b - a) * (b - a) ≤ 160000000000 :=
  ⟨sq_nn _, sq_abs (h := 400000) (by omega)⟩

/-- paravane/paravanelaw06.square -/
theorem c_sqr (p q : Pt) (hp : bdP p) (hq : bdP q) : VPure Tryd.prog 36 [vP p, vP q] (I (d2 p q)) := by
  unfold bdP at hp hq
  have hx := sqd_bd hp.1 hq.1
  have hy := sqd_bd hp.2 hq.2
  intro H
  refine vcall_of_vrun Tryd.func36 rfl (N := 24) rfl rfl ?_
  refine vseq ?_
  refine vregion ?_
  refine vone rfl (vxa (vbox rfl rfl) rfl rfl (fun b1 => ?_))
  refine vone rfl (vxa (vbox rfl rfl) rfl rfl (fun b2 => ?_))
  refine vone rfl (vxq (vas rfl) rfl rfl ?_)
  refine vnil ?_
  refine vseq ?_
  refine vdraw0 [(.q, 0), (.q, 1), (.q, 2), (.q, 3), (.q, 4), (.q, 5), (.q, 6), (.q, 7), (.q, 8), (.q, 9), (.q, 10), (.q, 11)] Tryd.mixed (by kernel_rfl) (by kernel_rfl) ?_
  refine vdq (mone rfl) (vfa rfl) rfl rfl ?_
  refine vdq (mone rfl) (vld1 rfl rfl) rfl rfl ?_
  refine vdq (mone rfl) (vfa rfl) rfl rfl ?_
  refine vdq (mone rfl) (vld1 rfl rfl) rfl rfl ?_
  refine vdq (mone rfl) (vsub rfl rfl (by unfold InR; omega)) rfl rfl ?_
  refine vdq (mone rfl) (vfa rfl) rfl rfl ?_
  refine vdq (mone rfl) (vld1 rfl rfl) rfl rfl ?_
  refine vdq (mone rfl) (vfa rfl) rfl rfl ?_
  refine vdq (mone rfl) (vld1 rfl rfl) rfl rfl ?_
  refine vdq (mone rfl) (vsub rfl rfl (by unfold InR; omega)) rfl rfl ?_
  refine vdq (mone rfl) (vas rfl) rfl rfl ?_
  refine vdq (mone rfl) (vas rfl) rfl rfl ?_
  refine vdend rfl ?_
  refine vseq ?_
  refine vregion ?_
  refine vone rfl (vxq (vmv rfl) rfl rfl ?_)
  refine vone rfl (vxq (vmv rfl) rfl rfl ?_)
  refine vone rfl (vxq (vmul rfl rfl (by unfold InR; omega)) rfl rfl ?_)
  refine vone rfl (vxq (vmv rfl) rfl rfl ?_)
  refine vone rfl (vxq (vmv rfl) rfl rfl ?_)
  refine vone rfl (vxq (vmul rfl rfl (by unfold InR; omega)) rfl rfl ?_)
  refine vone rfl (vxq (vadd rfl rfl (by unfold InR; omega)) rfl rfl ?_)
  refine vone rfl (vxq (vas rfl) rfl rfl ?_)
  refine vnil ?_
  refine vret (vr1 (H' := H) Tryd.func36 rfl (.tmp rfl) sb ?_)
  exact ⟨rfl, rfl⟩
/-- paravane/paravanelaw06.swum -/
theorem c_swum (p : Pt) (speed : Int) (hs : 0 ≤ speed ∧ speed ≤ 1000) (hp : bdP p) (l : List Int) (oa : Option Addr) (c : Nat) (H : Heap) [hl : SlO H oa 1 encI l] (hn : l.length ≤ 9223372036854775807) (hb : ∀ n ∈ l, InR n) (a : Int) (ha : 0 ≤ a ∧ a ≤ 1000000) : VHas Tryd.prog 37 [vP p, I speed, .slice oa l.length c, I a] (vP (swumP p speed l a)) (H) (H) := by
  unfold bdP at hp
  have hx := swumX_bd hs.1 l a
  obtain ⟨hh0, hh1, hh2⟩ := swumH_bd (x := swumX speed l a) (by omega : 0 ≤ speed ∧ speed ≤ 1048576) hx
  have hy := swumY_bd hh0 l a
  have hss := (mul_bd hs hs)
  have hxx := sq_abs hx
  have hxn := sq_nn (swumX speed l a)
  have r1 : InR (swumX speed l a) := by unfold InR; omega
  have r2 : InR (speed * speed) := by unfold InR; omega
  have r3 : InR (swumX speed l a * swumX speed l a) := by unfold InR; omega
  have r4 : InR (speed * speed - swumX speed l a * swumX speed l a) := by unfold InR; omega
  have r5 : InR (2 * swumH speed (swumX speed l a)) := by unfold InR; omega
  have r6 : InR (2 * swumH speed (swumX speed l a) + 1) := by unfold InR; omega
  have r7 : InR (swumY (swumH speed (swumX speed l a)) l a) := by unfold InR; omega
  have r8 : InR (p.x + swumX speed l a) := by unfold InR; omega
  have r9 : InR (p.y + swumY (swumH speed (swumX speed l a)) l a) := by unfold InR; omega
  refine vcall_of_vrun Tryd.func37 rfl (N := 52) rfl rfl ?_
  refine vseq ?_
  refine vregion ?_
  refine vone rfl (vxa (vbox rfl rfl) rfl rfl (fun b1 => ?_))
  refine vone rfl (vxa valloc rfl rfl (fun b2 => ?_))
  refine vnil ?_
  refine vseq ?_
  refine vregion ?_
  refine vone rfl (vxq (vmv rfl) rfl rfl ?_)
  refine vone rfl (vxq (vmv rfl) rfl rfl ?_)
  refine vone rfl (vxq (vcq rfl rfl rfl (c_Pick l oa c _ hn a (by unfold InR; omega))) rfl rfl ?_)
  refine vone rfl (vxq (vmv rfl) rfl rfl ?_)
  refine vone rfl (vxq (vmul rfl rfl (by unfold InR; omega)) rfl rfl ?_)
  refine vone rfl (vxq (vadd rfl rfl (by unfold InR; omega)) rfl rfl ?_)
  refine vone rfl (vxq (vcp rfl rfl rfl (c_Rest _ _ (pick_in hb) (by unfold InR; omega))) rfl rfl ?_)
  refine vone rfl (vxq (vmv rfl) rfl rfl ?_)
  refine vone rfl (vxq (vsub rfl rfl r1) rfl rfl ?_)
  refine vone rfl (vxq (vas rfl) rfl rfl ?_)
  refine vnil ?_
  refine vseq ?_
  refine vregion ?_
  refine vone rfl (vxq (vmv rfl) rfl rfl ?_)
  refine vone rfl (vxq (vmv rfl) rfl rfl ?_)
  refine vone rfl (vxq (vmul rfl rfl r2) rfl rfl ?_)
  refine vone rfl (vxq (vmv rfl) rfl rfl ?_)
  refine vone rfl (vxq (vmv rfl) rfl rfl ?_)
  refine vone rfl (vxq (vmul rfl rfl r3) rfl rfl ?_)
  refine vone rfl (vxq (vsub rfl rfl r4) rfl rfl ?_)
  refine vone rfl (vxq (vcp rfl rfl rfl (c_Root _)) rfl rfl ?_)
  refine vone rfl (vxq (vmv rfl) rfl rfl ?_)
  refine vone rfl (vxq (vex rfl rfl) rfl rfl ?_)
  refine vone rfl (vxq (vex rfl rfl) rfl rfl ?_)
  refine vone rfl (vxq (vas rfl) rfl rfl ?_)
  refine vone rfl (vxq (vas rfl) rfl rfl ?_)
  refine vnil ?_
  refine vseq ?_
  refine vregion ?_
  refine vone rfl (vxq (vmv rfl) rfl rfl ?_)
  refine vone rfl (vxq (vmv rfl) rfl rfl ?_)
  refine vone rfl (vxq (vadd rfl rfl (by unfold InR; omega)) rfl rfl ?_)
  refine vone rfl (vxq (vcq rfl rfl rfl (c_Pick l oa c _ hn (a + 1) (by unfold InR; omega))) rfl rfl ?_)
  refine vone rfl (vxq (vmv rfl) rfl rfl ?_)
  refine vone rfl (vxq (vmul rfl rfl r5) rfl rfl ?_)
  refine vone rfl (vxq (vadd rfl rfl r6) rfl rfl ?_)
  refine vone rfl (vxq (vcp rfl rfl rfl (c_Rest _ _ (pick_in hb) r6)) rfl rfl ?_)
  refine vone rfl (vxq (vmv rfl) rfl rfl ?_)
  refine vone rfl (vxq (vsub rfl rfl r7) rfl rfl ?_)
  refine vone rfl (vxq (vas rfl) rfl rfl ?_)
  refine vnil ?_
  refine vseq ?_
  refine vregion ?_
  refine vone rfl (vxq (vfa rfl) rfl rfl ?_)
  refine vone rfl (vxq (vld1 rfl rfl) rfl rfl ?_)
  refine vone rfl (vxq (vmv rfl) rfl rfl ?_)
  refine vone rfl (vxq (vadd rfl rfl r8) rfl rfl ?_)
  refine vone rfl (vxq (vfa rfl) rfl rfl ?_)
  refine vone rfl (vxq (vld1 rfl rfl) rfl rfl ?_)
  refine vone rfl (vxq (vmv rfl) rfl rfl ?_)
  refine vone rfl (vxq (vadd rfl rfl r9) rfl rfl ?_)
  refine vone rfl (vxq (vbd rfl rfl) rfl rfl ?_)
  refine vone rfl (vxs (vstn rfl rfl rfl rfl rfl) rfl ?_)
  refine vnil ?_
  refine vret (vr1 (H' := H) Tryd.func37 rfl (.celln rfl rfl) sb ?_)
  exact ⟨rfl, rfl⟩
end Go.Proofs.YtaplkoimhecacaaDoor
namespace Go.Proofs.YtaplkoimhecacaaDoor
open Go
set_option maxRecDepth 100000

attribute [local irreducible] tightP hullP rootP farP rows endsOf restP pickP swumP d2
abbrev clLf (o1 : Option Addr) (n1 c1 : Nat) (o2 : Option Addr) (n2 c2 : Nat) (o3 : Option Addr) (n3 c3 : Nat) (wd : Int) : List Value := [.slice o1 n1 c1, .slice o2 n2 c2, .slice o3 n3 c3, I wd]
theorem guard_no {w : Wn} {far ship : Int} (h : ¬ (guardE w far ship).2 = 0) : (guardE w far ship).1 = 0 := by
  unfold guardE at *
  repeat' split at h
  all_goals first | (rename_i h1 h2 h3; rw [if_pos h1, if_pos h2, if_pos h3]) | (rename_i h1 h2 h3; exact absurd rfl h) | (rename_i h1 h2; rw [if_pos h1, if_neg h2]) | (rename_i h1; rw [if_neg h1])
theorem guard_yes {w : Wn} {far ship : Int} (h : (guardE w far ship).2 = 0) : okW w ∧ (0 ≤ far ∧ far ≤ 32768) ∧ (0 ≤ ship ∧ ship ≤ 1000) ∧ (guardE w far ship).1 = guardN w far ship 1000 0 := by
  unfold guardE at *
  by_cases h1 : okW w
  · by_cases h2 : (0 ≤ far ∧ far ≤ 32768) ∧ (0 ≤ ship ∧ ship ≤ 1000)
    · by_cases h3 : far ≤ w.zone
      · rw [if_pos h1, if_pos h2, if_pos h3] at h; cases h
      · rw [if_pos h1, if_pos h2, if_neg h3]; exact ⟨h1, h2.1, h2.2, rfl⟩
    · rw [if_pos h1, if_neg h2] at h; cases h
  · rw [if_neg h1] at h; cases h
theorem ok_bdP {p : Pt} (h : ¬ chkP p ≠ 0) : bdP p ∧ (-32768 ≤ p.x ∧ p.x ≤ 32768) ∧ -32768 ≤ p.y ∧ p.y ≤ 32768 := by
  have := chkP_zero.1 (Classical.not_not.1 h)
  unfold Pt.ok at this
  unfold bdP; omega
/-- How far an animal and a source are behind so many steps. -/
structure GSt (w : Wn) (far ship t : Int) (p q : Pt) : Prop where
  tb : 1 ≤ t ∧ t ≤ 61
  g : gInv far (w.speed + ship) (t - 1) p q
  pb : (-(32768 + 64 * t) ≤ p.x ∧ p.x ≤ 32768 + 64 * t) ∧ -(32768 + 64 * t) ≤ p.y ∧ p.y ≤ 32768 + 64 * t
  qb : (-(32768 + 64 * t) ≤ q.x ∧ q.x ≤ 32768 + 64 * t) ∧ -(32768 + 64 * t) ≤ q.y ∧ q.y ≤ 32768 + 64 * t
theorem GSt.bd {w : Wn} {far ship t : Int} {p q : Pt} (h : GSt w far ship t p q) : bdP p ∧ bdP q := by
  obtain ⟨h1, _, h3, h4⟩ := h
  unfold bdP; omega
theorem GSt.first {w : Wn} {far ship : Int} {p q : Pt} (hf : 0 ≤ far) (hp : ¬ chkP p ≠ 0) (hq : ¬ chkP q ≠ 0) (hd : ¬ d2 p q ≤ far * far) : GSt w far ship 1 p q := by
  have h1 := (ok_bdP hp).2
  have h2 := (ok_bdP hq).2
  refine ⟨by omega, ?_, by omega, by omega⟩
  unfold gInv
  rw [show (1 : Int) - 1 = 0 by omega, Int.zero_mul, Int.sub_zero]
  omega
theorem GSt.next {w : Wn} {far ship t : Int} {p q : Pt} {lb : List Int} {a b : Int} (hw : okW w) (hs : 0 ≤ ship ∧ ship ≤ 39) (h : GSt w far ship t p q) (ht : t ≤ guardN w far ship 1000 0) (ht6 : t ≤ 60) : GSt w far ship (t + 1) (swumP p w.speed lb a) (swumP q ship lb b) ∧ w.zone * w.zone < d2 (swumP p w.speed lb a) (swumP q ship lb b) := by
  have hw' := hw
  unfold okW at hw'
  obtain ⟨a1, a2, a3⟩ := swum_bd (p := p) (speed := w.speed) (bits := lb) (a := a) (by omega)
  obtain ⟨b1, b2, b3⟩ := swum_bd (p := q) (speed := ship) (bits := lb) (a := b) (by omega)
  obtain ⟨h1, h2, h3, h4⟩ := h
  have hg := (guardN_spec w far ship 1000 0).2.2 t (by omega) ht
  obtain ⟨g1, g2⟩ := gInv_step (t := t - 1) (by omega) (by omega) (by omega) h2 (by rw [show t - 1 + 1 = t by omega]; exact hg) a1 b1
  rw [show t - 1 + 1 = t + 1 - 1 by omega] at g1
  exact ⟨⟨by omega, g1, by omega, by omega⟩, g2⟩

set_option maxHeartbeats 1000000 in
/-- paravane/paravanelaw06.WatchGuarded -/
theorem w_Guarded (w : Wn) (far n1 : Int) (hn1 : InR n1) (o1 : Option Addr) (c1 : Nat) (ls : List Pt) (o2 : Option Addr) (c2 : Nat) (la : List Pt) (o3 : Option Addr) (c3 : Nat) (lb : List Int) (wd : Int) (H : Heap) [hgl : Glob H] [hs1 : SlO H o1 2 encP ls] [hs2 : SlO H o2 2 encP la] [hs3 : SlO H o3 1 encI lb] (hm : lb.length ≤ 9223372036854775807) (hb : ∀ n ∈ lb, InR n) : VHas Tryd.prog 10 [vWn w, .agg [I far, I n1].toArray, .agg (clLf o1 ls.length c1 o2 la.length c2 o3 lb.length c3 wd).toArray] (.bool true) (H) (H) := by
  have hsh := rest_bd (n := n1) (m := 40) (by omega)
  refine vcall_of_vrun Tryd.func10 rfl (N := 110) rfl rfl ?_
  refine vseq ?_
  refine vregion ?_
  refine vone rfl (vxa (vbox rfl rfl) rfl rfl (fun b1 => ?_))
  refine vone rfl (vxa (vbox rfl rfl) rfl rfl (fun b2 => ?_))
  refine vone rfl (vxa (vbox rfl rfl) rfl rfl (fun b3 => ?_))
  refine vone rfl (vxq (vas rfl) rfl rfl ?_)
  refine vnil ?_
  refine vseq ?_
  refine vdraw0 [(.q, 0), (.q, 1), (.q, 2), (.q, 3), (.q, 4), (.q, 5), (.q, 6)] Tryd.mixed (by kernel_rfl) (by kernel_rfl) ?_
  refine vdq (mone rfl) (via rfl rfl (by omega)) rfl rfl ?_
  refine vdq (mone rfl) (vld1 rfl rfl) rfl rfl ?_
  refine vdq (mone rfl) (via rfl rfl (by omega)) rfl rfl ?_
  refine vdq (mone rfl) (vld1 rfl rfl) rfl rfl ?_
  refine vdq (mone rfl) (vcp rfl rfl rfl (c_Rest n1 40 hn1 (by unfold InR; omega))) rfl rfl ?_
  refine vdq (mone rfl) (vas rfl) rfl rfl ?_
  refine vdq (mone rfl) (vas rfl) rfl rfl ?_
  refine vdend rfl ?_
  refine vseq ?_
  refine vregion ?_
  refine vone rfl (vxq (vldn rfl rfl) rfl rfl ?_)
  refine vone rfl (vxq (vmv rfl) rfl rfl ?_)
  refine vone rfl (vxq (vmv rfl) rfl rfl ?_)
  refine vone rfl (vxq (vcp rfl rfl rfl (c_Guard w far (restP n1 40))) rfl rfl ?_)
  refine vone rfl (vxq (vmv rfl) rfl rfl ?_)
  refine vone rfl (vxq (vex rfl rfl) rfl rfl ?_)
  refine vone rfl (vxq (vex rfl rfl) rfl rfl ?_)
  refine vone rfl (vxq (vas rfl) rfl rfl ?_)
  refine vone rfl (vxq (vas rfl) rfl rfl ?_)
  refine vnil ?_
  refine vseq ?_
  refine vseq ?_
  refine vregion ?_
  refine vone rfl (vxq (vmv rfl) rfl rfl ?_)
  refine vone rfl (vxq (vneq rfl rfl) rfl rfl ?_)
  refine vone rfl (vxq (vmv rfl) rfl rfl ?_)
  refine vsplitd (d := 28) rfl (fun h28 => ?_) (fun h28 => ?_)
  · skip
    refine vno rfl rfl rfl rfl rfl ?_
    refine vno rfl rfl rfl rfl rfl ?_
    refine vno rfl rfl rfl rfl rfl ?_
    refine vno rfl rfl rfl rfl rfl ?_
    refine vone rfl (vxq (vpkt rfl rfl) rfl rfl ?_)
    refine vone rfl (vxq (vmv rfl) rfl rfl ?_)
    refine vno rfl rfl rfl rfl rfl ?_
    refine vno rfl rfl rfl rfl rfl ?_
    refine vno rfl rfl rfl rfl rfl ?_
    refine vno rfl rfl rfl rfl rfl ?_
    refine vone rfl (vxq (vpkt rfl rfl) rfl rfl ?_)
    refine vnil ?_
    refine vcondt rfl ?_
    refine vseq ?_
    refine vregion ?_
    refine vone rfl (vxq (vmv rfl) rfl rfl ?_)
    refine vone rfl (vxq (veql rfl rfl) rfl rfl ?_)
    refine vone rfl (vxq (vmv rfl) rfl rfl ?_)
    refine vsplitd (d := 42) rfl (fun h42 => ?_) (fun h42 => ?_)
    · skip
      refine vno rfl rfl rfl rfl rfl ?_
      refine vno rfl rfl rfl rfl rfl ?_
      refine vone rfl (vxq (vpkt rfl rfl) rfl rfl ?_)
      refine vone rfl (vxq (vmv rfl) rfl rfl ?_)
      refine vyes rfl rfl rfl (vxq (vcq rfl rfl rfl (c_works _)) rfl rfl ?_)
      refine vknow (d := 47) (b' := true) rfl rfl ?_
      refine vone rfl (vxq (vpkt rfl rfl) rfl rfl ?_)
      refine vone rfl (vxq (vas rfl) rfl rfl ?_)
      refine vnil ?_
      refine vret (vr1 (H' := H) Tryd.func10 rfl (.tmp rfl) sb2 ?_)
      exact ⟨rfl, rfl⟩
    · skip
      refine vyes rfl rfl rfl (vxq (vmv rfl) rfl rfl ?_)
      refine vyes rfl rfl rfl (vxq (veql rfl rfl) rfl rfl ?_)
      refine vknow (d := 44) (b' := true) rfl (decide_eq_true (guard_no h42)) ?_
      refine vone rfl (vxq (vpkf rfl rfl) rfl rfl ?_)
      refine vone rfl (vxq (vmv rfl) rfl rfl ?_)
      refine vyes rfl rfl rfl (vxq (vcq rfl rfl rfl (c_works _)) rfl rfl ?_)
      refine vknow (d := 47) (b' := true) rfl rfl ?_
      refine vone rfl (vxq (vpkt rfl rfl) rfl rfl ?_)
      refine vone rfl (vxq (vas rfl) rfl rfl ?_)
      refine vnil ?_
      refine vret (vr1 (H' := H) Tryd.func10 rfl (.tmp rfl) sb2 ?_)
      exact ⟨rfl, rfl⟩
  · skip
    refine vyes rfl rfl rfl (vxq (vfa rfl) rfl rfl ?_)
    refine vyes rfl rfl rfl (vxq (vld1 rfl rfl) rfl rfl ?_)
    refine vyes rfl rfl rfl (vxq (vlen rfl) rfl rfl ?_)
    refine vyes rfl rfl rfl (vxq (veql rfl rfl) rfl rfl ?_)
    refine vone rfl (vxq (vpkf rfl rfl) rfl rfl ?_)
    refine vone rfl (vxq (vmv rfl) rfl rfl ?_)
    refine vsplitd (d := 34) rfl (fun h34 => ?_) (fun h34 => ?_)
    · skip
      refine vno rfl rfl rfl rfl rfl ?_
      refine vno rfl rfl rfl rfl rfl ?_
      refine vno rfl rfl rfl rfl rfl ?_
      refine vno rfl rfl rfl rfl rfl ?_
      refine vone rfl (vxq (vpkt rfl rfl) rfl rfl ?_)
      refine vnil ?_
      refine vcondt rfl ?_
      refine vseq ?_
      refine vregion ?_
      refine vone rfl (vxq (vmv rfl) rfl rfl ?_)
      refine vone rfl (vxq (veql rfl rfl) rfl rfl ?_)
      refine vone rfl (vxq (vmv rfl) rfl rfl ?_)
      refine vsplitd (d := 42) rfl (fun h42 => ?_) (fun h42 => ?_)
      · skip
        refine vno rfl rfl rfl rfl rfl ?_
        refine vno rfl rfl rfl rfl rfl ?_
        refine vone rfl (vxq (vpkt rfl rfl) rfl rfl ?_)
        refine vone rfl (vxq (vmv rfl) rfl rfl ?_)
        refine vyes rfl rfl rfl (vxq (vcq rfl rfl rfl (c_works _)) rfl rfl ?_)
        refine vknow (d := 47) (b' := true) rfl rfl ?_
        refine vone rfl (vxq (vpkt rfl rfl) rfl rfl ?_)
        refine vone rfl (vxq (vas rfl) rfl rfl ?_)
        refine vnil ?_
        refine vret (vr1 (H' := H) Tryd.func10 rfl (.tmp rfl) sb2 ?_)
        exact ⟨rfl, rfl⟩
      · skip
        refine vyes rfl rfl rfl (vxq (vmv rfl) rfl rfl ?_)
        refine vyes rfl rfl rfl (vxq (veql rfl rfl) rfl rfl ?_)
        refine vknow (d := 44) (b' := true) rfl (decide_eq_true (guard_no h42)) ?_
        refine vone rfl (vxq (vpkf rfl rfl) rfl rfl ?_)
        refine vone rfl (vxq (vmv rfl) rfl rfl ?_)
        refine vyes rfl rfl rfl (vxq (vcq rfl rfl rfl (c_works _)) rfl rfl ?_)
        refine vknow (d := 47) (b' := true) rfl rfl ?_
        refine vone rfl (vxq (vpkt rfl rfl) rfl rfl ?_)
        refine vone rfl (vxq (vas rfl) rfl rfl ?_)
        refine vnil ?_
        refine vret (vr1 (H' := H) Tryd.func10 rfl (.tmp rfl) sb2 ?_)
        exact ⟨rfl, rfl⟩
    · skip
      refine vyes rfl rfl rfl (vxq (vfa rfl) rfl rfl ?_)
      refine vyes rfl rfl rfl (vxq (vld1 rfl rfl) rfl rfl ?_)
      refine vyes rfl rfl rfl (vxq (vlen rfl) rfl rfl ?_)
      refine vyes rfl rfl rfl (vxq (veql rfl rfl) rfl rfl ?_)
      refine vone rfl (vxq (vpkf rfl rfl) rfl rfl ?_)
      refine vnil ?_
      refine vcondd rfl (fun h39 => ?_) (fun h39 => ?_)
      · skip
        refine vseq ?_
        refine vregion ?_
        refine vone rfl (vxq (vmv rfl) rfl rfl ?_)
        refine vone rfl (vxq (veql rfl rfl) rfl rfl ?_)
        refine vone rfl (vxq (vmv rfl) rfl rfl ?_)
        refine vsplitd (d := 42) rfl (fun h42 => ?_) (fun h42 => ?_)
        · skip
          refine vno rfl rfl rfl rfl rfl ?_
          refine vno rfl rfl rfl rfl rfl ?_
          refine vone rfl (vxq (vpkt rfl rfl) rfl rfl ?_)
          refine vone rfl (vxq (vmv rfl) rfl rfl ?_)
          refine vyes rfl rfl rfl (vxq (vcq rfl rfl rfl (c_works _)) rfl rfl ?_)
          refine vknow (d := 47) (b' := true) rfl rfl ?_
          refine vone rfl (vxq (vpkt rfl rfl) rfl rfl ?_)
          refine vone rfl (vxq (vas rfl) rfl rfl ?_)
          refine vnil ?_
          refine vret (vr1 (H' := H) Tryd.func10 rfl (.tmp rfl) sb2 ?_)
          exact ⟨rfl, rfl⟩
        · skip
          refine vyes rfl rfl rfl (vxq (vmv rfl) rfl rfl ?_)
          refine vyes rfl rfl rfl (vxq (veql rfl rfl) rfl rfl ?_)
          refine vknow (d := 44) (b' := true) rfl (decide_eq_true (guard_no h42)) ?_
          refine vone rfl (vxq (vpkf rfl rfl) rfl rfl ?_)
          refine vone rfl (vxq (vmv rfl) rfl rfl ?_)
          refine vyes rfl rfl rfl (vxq (vcq rfl rfl rfl (c_works _)) rfl rfl ?_)
          refine vknow (d := 47) (b' := true) rfl rfl ?_
          refine vone rfl (vxq (vpkt rfl rfl) rfl rfl ?_)
          refine vone rfl (vxq (vas rfl) rfl rfl ?_)
          refine vnil ?_
          refine vret (vr1 (H' := H) Tryd.func10 rfl (.tmp rfl) sb2 ?_)
          exact ⟨rfl, rfl⟩
      · skip
        obtain ⟨hw, hfar, _, hgk⟩ := guard_yes (Classical.not_not.1 h28)
        have hw' := hw
        unfold okW at hw'
        obtain ⟨p0, hp0⟩ := get_of_lt la (i := 0) (by omega)
        obtain ⟨q0, hq0⟩ := get_of_lt ls (i := 0) (by omega)
        have hff := mul_bd hfar hfar
        have hzz := mul_bd hw'.1 hw'.1
        refine vskip ?_
        refine vseq ?_
        refine vdraw [(.q, 0), (.q, 1), (.q, 2), (.q, 3), (.q, 4), (.q, 5), (.q, 6), (.q, 7), (.a (blk [.int .i64 0, .int .i64 0] 73), 8), (.a (blk [.int .i64 0, .int .i64 0] 73), 9), (.s, 10), (.s, 11)] Tryd.mixed (by kernel_rfl) ⟨⟨_, _, _, _, _, rfl, _, inferInstance, rfl⟩, ⟨⟨_, _, _, _, _, rfl, _, inferInstance, rfl⟩, True.intro⟩⟩ ?_
        refine vdq (mone rfl) (vfa rfl) rfl rfl ?_
        refine vdq (mone rfl) (vld1 rfl rfl) rfl rfl ?_
        refine vdq (mone rfl) (visg (enc := encP) rfl rfl (by omega) hp0) rfl rfl ?_
        refine vdq (mone rfl) (vldS (enc := encP) rfl hp0) rfl rfl ?_
        refine vdq (mone rfl) (vfa rfl) rfl rfl ?_
        refine vdq (mone rfl) (vld1 rfl rfl) rfl rfl ?_
        refine vdq (mone rfl) (visg (enc := encP) rfl rfl (by omega) hq0) rfl rfl ?_
        refine vdq (mone rfl) (vldS (enc := encP) rfl hq0) rfl rfl ?_
        refine vda rfl rfl (fun b4 => ?_)
        refine vda rfl rfl (fun b5 => ?_)
        refine vds (mone rfl) (vstn rfl rfl rfl rfl rfl) rfl ?_
        refine vds (mone rfl) (vstn rfl rfl rfl rfl rfl) rfl ?_
        refine vdend rfl ?_
        refine vseq ?_
        refine vseq ?_
        refine vregion ?_
        refine vone rfl (vxq (vldn rfl rfl) rfl rfl ?_)
        refine vone rfl (vxq (vcp rfl rfl rfl (c_region_CheckPoint p0)) rfl rfl ?_)
        refine vone rfl (vxq (vneq rfl rfl) rfl rfl ?_)
        refine vone rfl (vxq (vmv rfl) rfl rfl ?_)
        refine vsplitd (d := 60) rfl (fun h60 => ?_) (fun h60 => ?_)
        · skip
          refine vno rfl rfl rfl rfl rfl ?_
          refine vno rfl rfl rfl rfl rfl ?_
          refine vno rfl rfl rfl rfl rfl ?_
          refine vone rfl (vxq (vpkt rfl rfl) rfl rfl ?_)
          refine vone rfl (vxq (vmv rfl) rfl rfl ?_)
          refine vno rfl rfl rfl rfl rfl ?_
          refine vno rfl rfl rfl rfl rfl ?_
          refine vno rfl rfl rfl rfl rfl ?_
          refine vno rfl rfl rfl rfl rfl ?_
          refine vno rfl rfl rfl rfl rfl ?_
          refine vno rfl rfl rfl rfl rfl ?_
          refine vno rfl rfl rfl rfl rfl ?_
          refine vone rfl (vxq (vpkt rfl rfl) rfl rfl ?_)
          refine vnil ?_
          refine vcondt rfl ?_
          refine vseq ?_
          refine vregion ?_
          refine vone rfl (vxq (vcq rfl rfl rfl (c_works _)) rfl rfl ?_)
          refine vknow (d := 74) (b' := true) rfl rfl ?_
          refine vone rfl (vxq (vas rfl) rfl rfl ?_)
          refine vnil ?_
          refine vret (vr1 (H' := H) Tryd.func10 rfl (.tmp rfl) sb2 ?_)
          exact ⟨rfl, rfl⟩
        · skip
          refine vyes rfl rfl rfl (vxq (vldn rfl rfl) rfl rfl ?_)
          refine vyes rfl rfl rfl (vxq (vcp rfl rfl rfl (c_region_CheckPoint q0)) rfl rfl ?_)
          refine vyes rfl rfl rfl (vxq (vneq rfl rfl) rfl rfl ?_)
          refine vone rfl (vxq (vpkf rfl rfl) rfl rfl ?_)
          refine vone rfl (vxq (vmv rfl) rfl rfl ?_)
          refine vsplitd (d := 65) rfl (fun h65 => ?_) (fun h65 => ?_)
          · skip
            refine vno rfl rfl rfl rfl rfl ?_
            refine vno rfl rfl rfl rfl rfl ?_
            refine vno rfl rfl rfl rfl rfl ?_
            refine vno rfl rfl rfl rfl rfl ?_
            refine vno rfl rfl rfl rfl rfl ?_
            refine vno rfl rfl rfl rfl rfl ?_
            refine vno rfl rfl rfl rfl rfl ?_
            refine vone rfl (vxq (vpkt rfl rfl) rfl rfl ?_)
            refine vnil ?_
            refine vcondt rfl ?_
            refine vseq ?_
            refine vregion ?_
            refine vone rfl (vxq (vcq rfl rfl rfl (c_works _)) rfl rfl ?_)
            refine vknow (d := 74) (b' := true) rfl rfl ?_
            refine vone rfl (vxq (vas rfl) rfl rfl ?_)
            refine vnil ?_
            refine vret (vr1 (H' := H) Tryd.func10 rfl (.tmp rfl) sb2 ?_)
            exact ⟨rfl, rfl⟩
          · skip
            refine vyes rfl rfl rfl (vxq (vldn rfl rfl) rfl rfl ?_)
            refine vyes rfl rfl rfl (vxq (vldn rfl rfl) rfl rfl ?_)
            refine vyes rfl rfl rfl (vxq (vcp rfl rfl rfl (c_sqr p0 q0 (ok_bdP h60).1 (ok_bdP h65).1)) rfl rfl ?_)
            refine vyes rfl rfl rfl (vxq (vmv rfl) rfl rfl ?_)
            refine vyes rfl rfl rfl (vxq (vmv rfl) rfl rfl ?_)
            refine vyes rfl rfl rfl (vxq (vmul rfl rfl (by unfold InR; omega)) rfl rfl ?_)
            refine vyes rfl rfl rfl (vxq (vleq rfl rfl) rfl rfl ?_)
            refine vone rfl (vxq (vpkf rfl rfl) rfl rfl ?_)
            refine vnil ?_
            refine vcondd rfl (fun h73 => ?_) (fun h73 => ?_)
            · skip
              refine vseq ?_
              refine vregion ?_
              refine vone rfl (vxq (vcq rfl rfl rfl (c_works _)) rfl rfl ?_)
              refine vknow (d := 74) (b' := true) rfl rfl ?_
              refine vone rfl (vxq (vas rfl) rfl rfl ?_)
              refine vnil ?_
              refine vret (vr1 (H' := H) Tryd.func10 rfl (.tmp rfl) sb2 ?_)
              exact ⟨rfl, rfl⟩
            · skip
              refine vskip ?_
              refine vseq ?_
              refine vseq ?_
              refine vregion ?_
              refine vone rfl (vxq (vas rfl) rfl rfl ?_)
              refine vnil ?_
              refine vblock ?_
              refine vwhile (σ := Int × Pt × Pt) (fun ⟨t, p, q⟩ => (62 - t).toNat) (fun ⟨t, p, q⟩ => [(3, ptr b1), (4, ptr b2), (5, ptr b3), (8, I (restP n1 40)), (9, I (guardE w far (restP n1 40)).1), (11, ptr b4), (12, ptr b5), (13, I t)]) (fun ⟨t, p, q⟩ => (b5, blk (encP q) 73) :: (b4, blk (encP p) 73) :: (b3, blk (clLf o1 ls.length c1 o2 la.length c2 o3 lb.length c3 wd) 71) :: (b1, blk (clWn w) 23) :: H) (fun ⟨t, p, q⟩ => GSt w far (restP n1 40) t p q) (1, p0, q0) (GSt.first hfar.1 h60 h65 h73) ⟨rfl, rfl, rfl, rfl, rfl, rfl, rfl, rfl, True.intro⟩ sb ?_
              rintro ⟨t, p, q⟩ hG IH
              change VRun _ _ _ _ _ [(3, ptr b1), (4, ptr b2), (5, ptr b3), (8, I (restP n1 40)), (9, I (guardE w far (restP n1 40)).1), (11, ptr b4), (12, ptr b5), (13, I t)] _ ((b5, blk (encP q) 73) :: (b4, blk (encP p) 73) :: (b3, blk (clLf o1 ls.length c1 o2 la.length c2 o3 lb.length c3 wd) 71) :: (b1, blk (clWn w) 23) :: H) _
              have hGt := hG.tb
              refine vseq ?_
              refine vseq ?_
              refine vregion ?_
              refine vone rfl (vxq (vmv rfl) rfl rfl ?_)
              refine vone rfl (vxq (vmv rfl) rfl rfl ?_)
              refine vone rfl (vxq (vleq rfl rfl) rfl rfl ?_)
              refine vone rfl (vxq (vmv rfl) rfl rfl ?_)
              refine vsplitd (d := 78) rfl (fun h78 => ?_) (fun h78 => ?_)
              · skip
                refine vyes rfl rfl rfl (vxq (vmv rfl) rfl rfl ?_)
                refine vyes rfl rfl rfl (vxq (vleq rfl rfl) rfl rfl ?_)
                refine vone rfl (vxq (vpkt rfl rfl) rfl rfl ?_)
                refine vnil ?_
                refine vcondd rfl (fun h81 => ?_) (fun h81 => ?_)
                · skip
                  obtain ⟨hG2, hfarz⟩ := hG.next (lb := lb) (a := 2 * t) (b := 3 * t + 1) hw (by omega) (by omega) (by omega)
                  refine vskip ?_
                  refine vseq ?_
                  refine vblock ?_
                  refine vseq ?_
                  refine vdraw0 [(.q, 0), (.q, 1), (.q, 2), (.q, 3), (.q, 4), (.q, 5), (.q, 6), (.q, 7), (.q, 8), (.q, 9), (.q, 10), (.q, 11), (.q, 12), (.q, 13), (.q, 14), (.q, 15), (.c, 16), (.c, 17)] Tryd.mixed (by kernel_rfl) (by kernel_rfl) ?_
                  refine vdq (mone rfl) (vldn rfl rfl) rfl rfl ?_
                  refine vdq (mone rfl) (vfa rfl) rfl rfl ?_
                  refine vdq (mone rfl) (vld1 rfl rfl) rfl rfl ?_
                  refine vdq (mone rfl) (vfa rfl) rfl rfl ?_
                  refine vdq (mone rfl) (vld1 rfl rfl) rfl rfl ?_
                  refine vdq (mone rfl) (vmv rfl) rfl rfl ?_
                  refine vdq (mone rfl) (vmul rfl rfl (by unfold InR; omega)) rfl rfl ?_
                  refine vdq (mone rfl) (vcq rfl rfl rfl (c_swum p w.speed (by omega) hG.bd.1 lb o3 c3 _ hm hb (2 * t) (by omega))) rfl rfl ?_
                  refine vdq (mone rfl) (vldn rfl rfl) rfl rfl ?_
                  refine vdq (mone rfl) (vmv rfl) rfl rfl ?_
                  refine vdq (mone rfl) (vfa rfl) rfl rfl ?_
                  refine vdq (mone rfl) (vld1 rfl rfl) rfl rfl ?_
                  refine vdq (mone rfl) (vmv rfl) rfl rfl ?_
                  refine vdq (mone rfl) (vmul rfl rfl (by unfold InR; omega)) rfl rfl ?_
                  refine vdq (mone rfl) (vadd rfl rfl (by unfold InR; omega)) rfl rfl ?_
                  refine vdq (mone rfl) (vcq rfl rfl rfl (c_swum q (restP n1 40) (by omega) hG.bd.2 lb o3 c3 _ hm hb (3 * t + 1) (by omega))) rfl rfl ?_
                  refine vdcs (mone rfl) (vstn rfl rfl rfl rfl rfl) rfl ?_
                  refine vdcs (mone rfl) (vstn rfl rfl rfl rfl rfl) rfl ?_
                  refine vdend rfl ?_
                  refine vseq ?_
                  refine vdraw0 [(.q, 0), (.q, 1), (.q, 2), (.q, 3), (.q, 4), (.q, 5), (.q, 6), (.q, 7), (.q, 8)] Tryd.mixed (by kernel_rfl) (by kernel_rfl) ?_
                  refine vdq (mone rfl) (vldn rfl rfl) rfl rfl ?_
                  refine vdq (mone rfl) (vldn rfl rfl) rfl rfl ?_
                  refine vdq (mone rfl) (vcp rfl rfl rfl (c_sqr (swumP p w.speed lb (2 * t)) (swumP q (restP n1 40) lb (3 * t + 1)) hG2.bd.1 hG2.bd.2)) rfl rfl ?_
                  refine vdq (mone rfl) (vfa rfl) rfl rfl ?_
                  refine vdq (mone rfl) (vld1 rfl rfl) rfl rfl ?_
                  refine vdq (mone rfl) (vfa rfl) rfl rfl ?_
                  refine vdq (mone rfl) (vld1 rfl rfl) rfl rfl ?_
                  refine vdq (mone rfl) (vmul rfl rfl (by unfold InR; omega)) rfl rfl ?_
                  refine vdq (mone rfl) (vleq rfl rfl) rfl rfl ?_
                  refine vdknow (d := 108) (b' := false) rfl (decide_eq_false (by omega)) ?_
                  refine vdend rfl ?_
                  refine vcondf rfl ?_
                  refine vskip ?_
                  refine vinblock ?_
                  refine vregion ?_
                  refine vone rfl (vxq (vmv rfl) rfl rfl ?_)
                  refine vone rfl (vxq (vadd rfl rfl (by unfold InR; omega)) rfl rfl ?_)
                  refine vone rfl (vxq (vas rfl) rfl rfl ?_)
                  refine vnil ?_
                  exact vback (IH (t + 1, swumP p w.speed lb (2 * t), swumP q (restP n1 40) lb (3 * t + 1)) hG2 (by show (_ : Int).toNat < (_ : Int).toNat; omega)) ⟨rfl, rfl, rfl, rfl, rfl, rfl, rfl, rfl, True.intro⟩ sb2
                · skip
                  refine vexit (k' := _) rfl ?_
                  refine vseq ?_
                  refine vregion ?_
                  refine vone rfl (vxq (vcq rfl rfl rfl (c_works _)) rfl rfl ?_)
                  refine vknow (d := 109) (b' := true) rfl rfl ?_
                  refine vone rfl (vxq (vas rfl) rfl rfl ?_)
                  refine vnil ?_
                  refine vret (vr1 (H' := H) Tryd.func10 rfl (.tmp rfl) sb2 ?_)
                  exact ⟨rfl, rfl⟩
              · skip
                refine vno rfl rfl rfl rfl rfl ?_
                refine vno rfl rfl rfl rfl rfl ?_
                refine vone rfl (vxq (vpkf rfl rfl) rfl rfl ?_)
                refine vnil ?_
                refine vcondf rfl ?_
                refine vexit (k' := _) rfl ?_
                refine vseq ?_
                refine vregion ?_
                refine vone rfl (vxq (vcq rfl rfl rfl (c_works _)) rfl rfl ?_)
                refine vknow (d := 109) (b' := true) rfl rfl ?_
                refine vone rfl (vxq (vas rfl) rfl rfl ?_)
                refine vnil ?_
                refine vret (vr1 (H' := H) Tryd.func10 rfl (.tmp rfl) sb2 ?_)
                exact ⟨rfl, rfl⟩
end Go.Proofs.YtaplkoimhecacaaDoor
