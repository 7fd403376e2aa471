/-
  What the base lacks. Walks of the laws' helpers: Rest, Pick, square, swum. The walk of WatchMilder.
-/
import Derived.Test.YtaplkoimhecacaaDoorB01
import Derived.Test.YtaplkoimhecacaaDoorB02
import Derived.Test.YtaplkoimhecacaaDoorB03
import Derived.Test.YtaplkoimhecacaaDoorB04
import Derived.Test.YtaplkoimhecacaaDoorB05
import Derived.Test.YtaplkoimhecacaaDoorB06
import Derived.Test.YtaplkoimhecacaaDoorB07
import Derived.Test.YtaplkoimhecacaaDoorB08
import Derived.Test.YtaplkoimhecacaaDoorB09
import Derived.Test.YtaplkoimhecacaaDoorB10
import Derived.Test.YtaplkoimhecacaaDoorB11
import Derived.Test.YtaplkoimhecacaaDoorB12
import Derived.Test.YtaplkoimhecacaaDoorB13
import Derived.Test.YtaplkoimhecacaaDoorB14
import Derived.Test.YtaplkoimhecacaaDoorB15
import Derived.Test.YtaplkoimhecacaaDoorB16
import Derived.Test.YtaplkoimhecacaaDoorB17
import Derived.Test.YtaplkoimhecacaaDoorB18
import Derived.Test.YtaplkoimhecacaaDoorB19
import Derived.Test.YtaplkoimhecacaaDoorB20
namespace Go.Proofs.YtaplkoimhecacaaDoor
open Go
set_option maxRecDepth 100000
section
open Go

variable {P : Program} {f : FuncId} {ro : Option Nat} {N : Nat} {k : List Item} {E : Env} {D : List Deferred} {H : Heap} {Q : Out → Heap → Prop}
variable {ops : Array Oper} {l : List Oper}

variable {d : Nat} {x y : Operand} {a b : Int} {T T' ty : TypeId} {pos : String} {af : Array Edge} {g : Option (Nat × Bool)}

theorem vrem (hx : ev E x = some (.int .i64 a)) (hy : ev E y = some (.int .i64 b)) (hb : b ≠ 0) :
    OQ P N E D H ⟨some d, .binOp .rem T x y T', ty, pos, af, g⟩ (.int .i64 (a.tmod b)) :=
  ov (by simp) (fun t w hA _ => by simp [execOp, ev_eval hA hx, ev_eval hA hy, binOp, eqGuard, Op.intDiv, hb])
end
section

theorem tmod_emod {n m : Int} (hm : 0 < m) : (if n.tmod m < 0 then n.tmod m + m else n.tmod m) = n % m := by
  rcases Int.le_total 0 n with h0 | h0
  · have h1 := Int.tmod_nonneg m h0
    rw [if_neg (by omega), Int.tmod_eq_emod_of_nonneg h0]
  · have h1 : 0 ≤ (-n).tmod m := Int.tmod_nonneg m (by omega)
    have h2 : (-n).tmod m < m := Int.tmod_lt_of_pos _ hm
    rw [Int.neg_tmod] at h1 h2
    have h3 := Int.mul_tdiv_add_tmod n m
    have h4 := Int.mul_ediv_add_emod n m
    have h5 := Int.emod_nonneg n (show m ≠ 0 by omega)
    have h6 := Int.emod_lt_of_pos n hm
    have e : m * (n / m - n.tdiv m) = n.tmod m - n % m := by rw [Int.mul_sub]; omega
    generalize n / m - n.tdiv m = k at e
    split
    · rename_i hneg
      have : k = -1 := by
        rcases Int.lt_trichotomy k (-1) with h | h | h
        · have := Int.mul_le_mul_of_nonneg_left (show k ≤ -2 by omega) (show 0 ≤ m by omega); omega
        · exact h
        · have := Int.mul_le_mul_of_nonneg_left (show 0 ≤ k by omega) (show 0 ≤ m by omega); omega
      subst this; omega
    · have : k = 0 := by
        rcases Int.lt_trichotomy k 0 with h | h | h
        · have := Int.mul_le_mul_of_nonneg_left (show k ≤ -1 by omega) (show 0 ≤ m by omega); omega
        · exact h
        · have := Int.mul_le_mul_of_nonneg_left (show 1 ≤ k by omega) (show 0 ≤ m by omega); omega
      subst this; omega

end
section
open Go
open Go.ChangeShapes Go.WideShapes Go.ChangeAt Go.RowKit

variable {HH : Type} (enc : TypeId × Value → HH) (P : Program) (W : World)

variable {enc P W}
theorem allH_emb (W : World) : Emb (allH W) W := by
  refine ⟨?_, fun e he => ?_⟩
  · have : (allH W).map Prod.fst = List.range W.heap.size := by
      unfold allH
      rw [List.map_map]
      have : (Prod.fst ∘ fun p : Obj × Nat => (p.2, p.1)) = Prod.snd := rfl
      rw [this, List.zipIdx_map_snd, List.range_eq_range']
      simp
    rw [this]; exact List.nodup_range
  · exact allH_mem.1 he

/-- A contract at all blocks, in the library's form. -/
theorem calls_of {P : Program} {k : FuncId} {args : Array Value} {W : World} {v : Value} (h : VCall P k args (allH W) (fun o H' => o = .val v ∧ ∃ B, H' = B ++ allH W)) :
    Calls P k args W (fun e w' => e = .returned v ∧ Below W.heap.size W w') := by
  intro cs
  obtain ⟨o, w', m', H', ⟨rfl, B, rfl⟩, hF, hs, _, fr', rfl, h1, h2⟩ := h W cs (allH_emb W)
  refine ⟨.returned v, w', fr', ⟨rfl, hF.os, hF.tape, hF.output, hF.size, fun i hi => ?_⟩, hs, h1, h2⟩
  have hg : W.heap[i]? = some W.heap[i] := Array.getElem?_eq_getElem hi
  rw [hg]
  exact hF.emb.at_ (i, W.heap[i]) (List.mem_append_right _ (allH_mem.2 hg))

end
section
open Go
instance tFn25 : TFn Tryd.prog 25 := mkTFn Tryd.func25 (by kernel_rfl) rfl
end
end Go.Proofs.YtaplkoimhecacaaDoor
namespace Go.Proofs.YtaplkoimhecacaaDoor
open Go
set_option maxRecDepth 100000

attribute [local irreducible] tightP hullP rootP farP rows endsOf
theorem rest_lt {n m : Int} (h : m < 1) : restP n m = 0 := if_pos h
theorem rest_neg {n m : Int} (h : ¬ m < 1) (h2 : n.tmod m < 0) : restP n m = n.tmod m + m := by
  have := tmod_emod (n := n) (m := m) (by omega)
  rw [if_pos h2] at this
  unfold restP; rw [if_neg h, this]
theorem rest_nn {n m : Int} (h : ¬ m < 1) (h2 : ¬ n.tmod m < 0) : restP n m = n.tmod m := by
  have := tmod_emod (n := n) (m := m) (by omega)
  rw [if_neg h2] at this
  unfold restP; rw [if_neg h, this]
theorem tmod_bd {n m : Int} (h : ¬ m < 1) : -m < n.tmod m ∧ n.tmod m < m := by
  refine ⟨?_, Int.tmod_lt_of_pos _ (by omega)⟩
  have := Int.tmod_lt_of_pos (-n) (show 0 < m by omega)
  rw [Int.neg_tmod] at this; omega
/-- paravane/paravaneref00.Rest -/
theorem c_Rest (n m : Int) (hn : InR n) (hm : InR m) : VPure Tryd.prog 25 [I n, I m] (I (restP n m)) := by
  unfold InR at hn hm
  intro H
  refine vcall_of_vrun Tryd.func25 rfl (N := 16) rfl rfl ?_
  refine vseq ?_
  refine vregion ?_
  refine vone rfl (vxq (vas rfl) rfl rfl ?_)
  refine vnil ?_
  refine vseq ?_
  refine vseq ?_
  refine vregion ?_
  refine vone rfl (vxq (vmv rfl) rfl rfl ?_)
  refine vone rfl (vxq (vlss rfl rfl) rfl rfl ?_)
  refine vnil ?_
  refine vcondd rfl (fun h6 => ?_) (fun h6 => ?_)
  · skip
    refine vseq ?_
    refine vregion ?_
    refine vone rfl (vxq (vas rfl) rfl rfl ?_)
    refine vnil ?_
    refine vret (vr1 (H' := H) Tryd.func25 rfl (.tmp rfl) sb ?_)
    first | (rw [rest_lt h6]; exact ⟨rfl, rfl⟩) | (rw [rest_neg h6 h11]; exact ⟨rfl, rfl⟩) | (rw [rest_nn h6 h11]; exact ⟨rfl, rfl⟩)
  · skip
    have hb := tmod_bd (n := n) h6
    refine vskip ?_
    refine vseq ?_
    refine vregion ?_
    refine vone rfl (vxq (vmv rfl) rfl rfl ?_)
    refine vone rfl (vxq (vmv rfl) rfl rfl ?_)
    refine vone rfl (vxq (vrem rfl rfl (by omega)) rfl rfl ?_)
    refine vone rfl (vxq (vas rfl) rfl rfl ?_)
    refine vnil ?_
    refine vseq ?_
    refine vseq ?_
    refine vregion ?_
    refine vone rfl (vxq (vmv rfl) rfl rfl ?_)
    refine vone rfl (vxq (vlss rfl rfl) rfl rfl ?_)
    refine vnil ?_
    refine vcondd rfl (fun h11 => ?_) (fun h11 => ?_)
    · skip
      refine vregion ?_
      refine vone rfl (vxq (vmv rfl) rfl rfl ?_)
      refine vone rfl (vxq (vmv rfl) rfl rfl ?_)
      refine vone rfl (vxq (vadd rfl rfl (by unfold InR; omega)) rfl rfl ?_)
      refine vone rfl (vxq (vas rfl) rfl rfl ?_)
      refine vnil ?_
      refine vseq ?_
      refine vregion ?_
      refine vone rfl (vxq (vmv rfl) rfl rfl ?_)
      refine vone rfl (vxq (vas rfl) rfl rfl ?_)
      refine vnil ?_
      refine vret (vr1 (H' := H) Tryd.func25 rfl (.tmp rfl) sb ?_)
      first | (rw [rest_lt h6]; exact ⟨rfl, rfl⟩) | (rw [rest_neg h6 h11]; exact ⟨rfl, rfl⟩) | (rw [rest_nn h6 h11]; exact ⟨rfl, rfl⟩)
    · skip
      refine vskip ?_
      refine vseq ?_
      refine vregion ?_
      refine vone rfl (vxq (vmv rfl) rfl rfl ?_)
      refine vone rfl (vxq (vas rfl) rfl rfl ?_)
      refine vnil ?_
      refine vret (vr1 (H' := H) Tryd.func25 rfl (.tmp rfl) sb ?_)
      first | (rw [rest_lt h6]; exact ⟨rfl, rfl⟩) | (rw [rest_neg h6 h11]; exact ⟨rfl, rfl⟩) | (rw [rest_nn h6 h11]; exact ⟨rfl, rfl⟩)

end Go.Proofs.YtaplkoimhecacaaDoor
namespace Go.Proofs.YtaplkoimhecacaaDoor
open Go
set_option maxRecDepth 100000
attribute [local irreducible] tightP hullP rootP farP rows endsOf restP
set_option maxHeartbeats 1000000 in
/-- paravane/paravanelaw06.WatchMilder -/
theorem w_Milder (w : Wn) (h : SH) (s : Sc) (l0 l1 l2 l3 : Int) (hl0 : InR l0) (hl1 : InR l1) (hl2 : InR l2) (hl3 : InR l3) (H : Heap) [hsc : ScO H h s] [hgl : Glob H] : VHas Tryd.prog 6 [vWn w, vSc h s, .agg [I l0, I l1, I l2, I l3].toArray] (.bool true) (H) (H) := by
  refine vcall_of_vrun Tryd.func6 rfl (N := 139) rfl rfl ?_
  refine vseq ?_
  refine vregion ?_
  refine vone rfl (vxa (vbox rfl rfl) rfl rfl (fun b1 => ?_))
  refine vone rfl (vxa (vbox rfl rfl) rfl rfl (fun b2 => ?_))
  refine vone rfl (vxa (vbox rfl rfl) rfl rfl (fun b3 => ?_))
  refine vone rfl (vxq (vas rfl) rfl rfl ?_)
  refine vnil ?_
  refine vseq ?_
  refine vregion ?_
  refine vone rfl (vxq (vldn rfl rfl) rfl rfl ?_)
  refine vone rfl (vxq (vldn rfl rfl) rfl rfl ?_)
  refine vone rfl (vxg (vcg rfl rfl rfl (d_Danger w h s _) (fun o H' h => h)) rfl rfl ?_)
  rintro _ _ ⟨B1, rfl, ⟨oa1, c1, rfl, hle1, hk1⟩⟩
  refine vone rfl (vxq (vmv rfl) rfl rfl ?_)
  refine vone rfl (vxq (vex rfl rfl) rfl rfl ?_)
  refine vone rfl (vxq (vex rfl rfl) rfl rfl ?_)
  refine vone rfl (vxq (vas rfl) rfl rfl ?_)
  refine vone rfl (vxq (vas rfl) rfl rfl ?_)
  refine vnil ?_
  refine vseq ?_
  refine vregion ?_
  refine vone rfl (vxq (vldn rfl rfl) rfl rfl ?_)
  refine vone rfl (vxq (vldn rfl rfl) rfl rfl ?_)
  refine vone rfl (vxg (vcg rfl rfl rfl (d_Best w h s _) (fun o H' h => h)) rfl rfl ?_)
  rintro _ _ ⟨B2, rfl, ⟨oa2, c2, rfl, hk2⟩⟩
  refine vone rfl (vxq (vmv rfl) rfl rfl ?_)
  refine vone rfl (vxq (vex rfl rfl) rfl rfl ?_)
  refine vone rfl (vxq (vex rfl rfl) rfl rfl ?_)
  refine vone rfl (vxq (vex rfl rfl) rfl rfl ?_)
  refine vone rfl (vxq (vas rfl) rfl rfl ?_)
  refine vone rfl (vxq (vas rfl) rfl rfl ?_)
  refine vone rfl (vxq (vas rfl) rfl rfl ?_)
  refine vnil ?_
  refine vseq ?_
  refine vseq ?_
  refine vregion ?_
  refine vone rfl (vxq (vmv rfl) rfl rfl ?_)
  refine vone rfl (vxq (vmv rfl) rfl rfl ?_)
  refine vone rfl (vxq (vneq rfl rfl) rfl rfl ?_)
  refine vknow (d := 32) (b' := false) rfl (decide_eq_false (fun e => e ((best_e0 w s).symm))) ?_
  refine vnil ?_
  refine vcondf rfl ?_
  refine vskip ?_
  refine vseq ?_
  refine vseq ?_
  refine vregion ?_
  refine vone rfl (vxq (vmv rfl) rfl rfl ?_)
  refine vone rfl (vxq (vneq rfl rfl) rfl rfl ?_)
  refine vnil ?_
  refine vcondd rfl (fun h34 => ?_) (fun h34 => ?_)
  · skip
    refine vseq ?_
    refine vregion ?_
    refine vone rfl (vxq (vmv rfl) rfl rfl ?_)
    refine vone rfl (vxq (vlen rfl) rfl rfl ?_)
    refine vone rfl (vxq (veql rfl rfl) rfl rfl ?_)
    refine vknow (d := 37) (b' := true) rfl (decide_eq_true (by rw [danger_no h34]; rfl)) ?_
    refine vone rfl (vxq (vmv rfl) rfl rfl ?_)
    refine vyes rfl rfl rfl (vxq (vmv rfl) rfl rfl ?_)
    refine vyes rfl rfl rfl (vxq (veql rfl rfl) rfl rfl ?_)
    refine vknow (d := 40) (b' := true) rfl (decide_eq_true ((best_no (by rw [best_e0]; exact h34)).2)) ?_
    refine vone rfl (vxq (vpkt rfl rfl) rfl rfl ?_)
    refine vone rfl (vxq (vmv rfl) rfl rfl ?_)
    refine vyes rfl rfl rfl (vxq (vcq rfl rfl rfl (c_works _)) rfl rfl ?_)
    refine vknow (d := 43) (b' := true) rfl rfl ?_
    refine vone rfl (vxq (vpkt rfl rfl) rfl rfl ?_)
    refine vone rfl (vxq (vas rfl) rfl rfl ?_)
    refine vnil ?_
    refine vret (vr1 (H' := H) Tryd.func6 rfl (.tmp rfl) sb2 ?_)
    exact ⟨rfl, rfl⟩
  · skip
    have hd0 := Classical.not_not.1 h34
    obtain ⟨hw, hs0, _, hdl⟩ := danger_0 hd0
    have hw' := hw
    unfold okW at hw'
    have h64 := hs0.1.2
    obtain ⟨hless, hwm⟩ := mild_less hw l0 l1 l2 l3
    have hr3 := rest_bd (n := l3) (m := 3) (by omega)
    refine vskip ?_
    refine vseq ?_
    refine vregion ?_
    refine vone rfl (vxq (vldn rfl rfl) rfl rfl ?_)
    refine vone rfl (vxa valloc rfl rfl (fun b4 => ?_))
    refine vone rfl (vxs (vstn rfl rfl rfl rfl rfl) rfl ?_)
    refine vnil ?_
    refine vseq ?_
    refine vregion ?_
    refine vone rfl (vxq (via rfl rfl (by omega)) rfl rfl ?_)
    refine vone rfl (vxq (vld1 rfl rfl) rfl rfl ?_)
    refine vone rfl (vxq (vfa rfl) rfl rfl ?_)
    refine vone rfl (vxq (vld1 rfl rfl) rfl rfl ?_)
    refine vone rfl (vxq (vadd rfl rfl (by unfold InR; omega)) rfl rfl ?_)
    refine vone rfl (vxq (vcp rfl rfl rfl (c_Rest _ _ hl0 (by unfold InR; omega))) rfl rfl ?_)
    refine vone rfl (vxq (vfa rfl) rfl rfl ?_)
    refine vone rfl (vxs (vst1 rfl rfl rfl rfl) rfl ?_)
    refine vnil ?_
    refine vseq ?_
    refine vregion ?_
    refine vone rfl (vxq (via rfl rfl (by omega)) rfl rfl ?_)
    refine vone rfl (vxq (vld1 rfl rfl) rfl rfl ?_)
    refine vone rfl (vxq (vfa rfl) rfl rfl ?_)
    refine vone rfl (vxq (vld1 rfl rfl) rfl rfl ?_)
    refine vone rfl (vxq (vadd rfl rfl (by unfold InR; omega)) rfl rfl ?_)
    refine vone rfl (vxq (vcp rfl rfl rfl (c_Rest _ _ hl1 (by unfold InR; omega))) rfl rfl ?_)
    refine vone rfl (vxq (vfa rfl) rfl rfl ?_)
    refine vone rfl (vxs (vst1 rfl rfl rfl rfl) rfl ?_)
    refine vnil ?_
    refine vseq ?_
    refine vregion ?_
    refine vone rfl (vxq (via rfl rfl (by omega)) rfl rfl ?_)
    refine vone rfl (vxq (vld1 rfl rfl) rfl rfl ?_)
    refine vone rfl (vxq (vfa rfl) rfl rfl ?_)
    refine vone rfl (vxq (vld1 rfl rfl) rfl rfl ?_)
    refine vone rfl (vxq (vadd rfl rfl (by unfold InR; omega)) rfl rfl ?_)
    refine vone rfl (vxq (vcp rfl rfl rfl (c_Rest _ _ hl2 (by unfold InR; omega))) rfl rfl ?_)
    refine vone rfl (vxq (vfa rfl) rfl rfl ?_)
    refine vone rfl (vxs (vst1 rfl rfl rfl rfl) rfl ?_)
    refine vnil ?_
    refine vseq ?_
    refine vdraw0 [(.q, 0), (.q, 1), (.q, 2), (.q, 3), (.q, 4), (.q, 5), (.q, 6), (.q, 7), (.c, 8)] Tryd.mixed (by kernel_rfl) (by kernel_rfl) ?_
    refine vdq (mone rfl) (vfa rfl) rfl rfl ?_
    refine vdq (mone rfl) (vld1 rfl rfl) rfl rfl ?_
    refine vdq (mone rfl) (via rfl rfl (by omega)) rfl rfl ?_
    refine vdq (mone rfl) (vld1 rfl rfl) rfl rfl ?_
    refine vdq (mone rfl) (vcp rfl rfl rfl (c_Rest _ _ hl3 (by unfold InR; omega))) rfl rfl ?_
    refine vdq (mone rfl) (vadd rfl rfl (by unfold InR; omega)) rfl rfl ?_
    refine vdq (mone rfl) (vmin2 rfl rfl) rfl rfl ?_
    refine vdq (mone rfl) (vfa rfl) rfl rfl ?_
    refine vdcs (mone rfl) (vst1 rfl rfl rfl rfl) rfl ?_
    refine vdend rfl ?_
    refine vseq ?_
    refine vregion ?_
    refine vone rfl (vxq (vldn rfl rfl) rfl rfl ?_)
    refine vone rfl (vxq (vldn rfl rfl) rfl rfl ?_)
    refine vone rfl (vxg (vcg rfl rfl rfl (d_Danger (mildW w l0 l1 l2 l3) h s _) (fun o H' h => h)) rfl rfl ?_)
    rintro _ _ ⟨B3, rfl, ⟨oa3, c3, rfl, hle3, hk3⟩⟩
    refine vone rfl (vxq (vmv rfl) rfl rfl ?_)
    refine vone rfl (vxq (vex rfl rfl) rfl rfl ?_)
    refine vone rfl (vxq (vex rfl rfl) rfl rfl ?_)
    refine vone rfl (vxq (vas rfl) rfl rfl ?_)
    refine vone rfl (vxq (vas rfl) rfl rfl ?_)
    refine vnil ?_
    refine vseq ?_
    refine vregion ?_
    refine vone rfl (vxq (vldn rfl rfl) rfl rfl ?_)
    refine vone rfl (vxq (vldn rfl rfl) rfl rfl ?_)
    refine vone rfl (vxg (vcg rfl rfl rfl (d_Best (mildW w l0 l1 l2 l3) h s _) (fun o H' h => h)) rfl rfl ?_)
    rintro _ _ ⟨B4, rfl, ⟨oa4, c4, rfl, hk4⟩⟩
    refine vone rfl (vxq (vmv rfl) rfl rfl ?_)
    refine vone rfl (vxq (vex rfl rfl) rfl rfl ?_)
    refine vone rfl (vxq (vex rfl rfl) rfl rfl ?_)
    refine vone rfl (vxq (vex rfl rfl) rfl rfl ?_)
    refine vone rfl (vxq (vas rfl) rfl rfl ?_)
    refine vone rfl (vxq (vas rfl) rfl rfl ?_)
    refine vone rfl (vxq (vas rfl) rfl rfl ?_)
    refine vnil ?_
    refine vseq ?_
    refine vseq ?_
    refine vregion ?_
    refine vone rfl (vxq (vmv rfl) rfl rfl ?_)
    refine vone rfl (vxq (veql rfl rfl) rfl rfl ?_)
    refine vnil ?_
    refine vcondd rfl (fun h89 => ?_) (fun h89 => ?_)
    · skip
      refine vseq ?_
      refine vregion ?_
      refine vone rfl (vxq (vfa rfl) rfl rfl ?_)
      refine vone rfl (vxq (vld1 rfl rfl) rfl rfl ?_)
      refine vone rfl (vxq (vfa rfl) rfl rfl ?_)
      refine vone rfl (vxq (vld1 rfl rfl) rfl rfl ?_)
      refine vone rfl (vxq (vneq rfl rfl) rfl rfl ?_)
      refine vknow (d := 94) (b' := true) rfl (decide_eq_true (mild_62 hd0 h89)) ?_
      refine vone rfl (vxq (vmv rfl) rfl rfl ?_)
      refine vyes rfl rfl rfl (vxq (vmv rfl) rfl rfl ?_)
      refine vyes rfl rfl rfl (vxq (vmv rfl) rfl rfl ?_)
      refine vyes rfl rfl rfl (vxq (veql rfl rfl) rfl rfl ?_)
      refine vknow (d := 98) (b' := true) rfl (decide_eq_true (best_e0 _ _)) ?_
      refine vone rfl (vxq (vpkt rfl rfl) rfl rfl ?_)
      refine vone rfl (vxq (vmv rfl) rfl rfl ?_)
      refine vyes rfl rfl rfl (vxq (vcq rfl rfl rfl (c_works _)) rfl rfl ?_)
      refine vknow (d := 101) (b' := true) rfl rfl ?_
      refine vone rfl (vxq (vpkt rfl rfl) rfl rfl ?_)
      refine vone rfl (vxq (vas rfl) rfl rfl ?_)
      refine vnil ?_
      refine vret (vr1 (H' := H) Tryd.func6 rfl (.tmp rfl) sb2 ?_)
      exact ⟨rfl, rfl⟩
    · skip
      have hm0 := (danger_codes hwm hs0).resolve_right h89
      obtain ⟨hml, hmk, hmn⟩ := mild_le hd0 hm0
      refine vskip ?_
      refine vseq ?_
      refine vseq ?_
      refine vregion ?_
      refine vone rfl (vxq (vmv rfl) rfl rfl ?_)
      refine vone rfl (vxq (vneq rfl rfl) rfl rfl ?_)
      refine vknow (d := 104) (b' := false) rfl (decide_eq_false (fun e => e (hm0))) ?_
      refine vone rfl (vxq (vmv rfl) rfl rfl ?_)
      refine vyes rfl rfl rfl (vxq (vmv rfl) rfl rfl ?_)
      refine vyes rfl rfl rfl (vxq (vneq rfl rfl) rfl rfl ?_)
      refine vknow (d := 107) (b' := false) rfl (decide_eq_false (fun e => e ((best_e0 _ _).trans hm0))) ?_
      refine vone rfl (vxq (vpkf rfl rfl) rfl rfl ?_)
      refine vone rfl (vxq (vmv rfl) rfl rfl ?_)
      refine vyes rfl rfl rfl (vxq (vmv rfl) rfl rfl ?_)
      refine vyes rfl rfl rfl (vxq (vlen rfl) rfl rfl ?_)
      refine vyes rfl rfl rfl (vxq (vmv rfl) rfl rfl ?_)
      refine vyes rfl rfl rfl (vxq (vlen rfl) rfl rfl ?_)
      refine vyes rfl rfl rfl (vxq (vneq rfl rfl) rfl rfl ?_)
      refine vknow (d := 114) (b' := false) rfl (decide_eq_false (fun e => e (by rw [hmn]))) ?_
      refine vone rfl (vxq (vpkf rfl rfl) rfl rfl ?_)
      refine vnil ?_
      refine vcondf rfl ?_
      refine vskip ?_
      refine vseq ?_
      refine vseq ?_
      refine vregion ?_
      refine vone rfl (vxq (vas rfl) rfl rfl ?_)
      refine vnil ?_
      refine vblock ?_
      refine vwhile (σ := Int) (fun t => ((dangerE w s).1.length - t).toNat) (fun t => [(7, .slice oa1 (dangerE w s).1.length c1), (10, I (bestE w s).2.1), (13, .slice oa3 (dangerE (mildW w l0 l1 l2 l3) s).1.length c3), (15, I (bestE (mildW w l0 l1 l2 l3) s).2.1), (16, I t)]) (fun t => B3 ++ (B1 ++ H)) (fun t => 0 ≤ t ∧ t ≤ (dangerE w s).1.length) 0 ⟨by omega, by omega⟩ ⟨rfl, rfl, rfl, rfl, rfl, True.intro⟩ sb2 ?_
      rintro t ⟨ht0, htn⟩ IH
      change VRun _ _ _ _ _ [(7, .slice oa1 (dangerE w s).1.length c1), (10, I (bestE w s).2.1), (13, .slice oa3 (dangerE (mildW w l0 l1 l2 l3) s).1.length c3), (15, I (bestE (mildW w l0 l1 l2 l3) s).2.1), (16, I t)] _ (B3 ++ (B1 ++ H)) _
      refine vseq ?_
      refine vseq ?_
      refine vregion ?_
      refine vone rfl (vxq (vmv rfl) rfl rfl ?_)
      refine vone rfl (vxq (vmv rfl) rfl rfl ?_)
      refine vone rfl (vxq (vlen rfl) rfl rfl ?_)
      refine vone rfl (vxq (vlss rfl rfl) rfl rfl ?_)
      refine vnil ?_
      refine vcondd rfl (fun h119 => ?_) (fun h119 => ?_)
      · skip
        obtain ⟨za, hza⟩ := get_of_lt (dangerE w s).1 (i := t.toNat) (by omega)
        obtain ⟨zb, hzb⟩ := get_of_lt (dangerE (mildW w l0 l1 l2 l3) s).1 (i := t.toNat) (by omega)
        have lb1 := (List.getElem?_eq_some_iff.1 hza).1
        have lb2 := (List.getElem?_eq_some_iff.1 hzb).1
        have hab : zb = true → za = true := fun e => by have := hml t.toNat (by unfold bAt; rw [Int.toNat_natCast, hzb]; exact e); unfold bAt at this; rw [Int.toNat_natCast, hza] at this; exact this
        refine vskip ?_
        refine vseq ?_
        refine vblock ?_
        refine vseq ?_
        refine vregion ?_
        refine vone rfl (vxq (vmv rfl) rfl rfl ?_)
        refine vone rfl (vxq (vmv rfl) rfl rfl ?_)
        refine vone rfl (vxq (visg (enc := encB) rfl rfl (by omega) hzb) rfl rfl ?_)
        refine vone rfl (vxq (vldS1 (enc := encB) rfl hzb rfl) rfl rfl ?_)
        rcases zb with _ | _
        · skip
          refine vone rfl (vxq (vmv rfl) rfl rfl ?_)
          refine vno rfl rfl rfl rfl rfl ?_
          refine vno rfl rfl rfl rfl rfl ?_
          refine vno rfl rfl rfl rfl rfl ?_
          refine vno rfl rfl rfl rfl rfl ?_
          refine vno rfl rfl rfl rfl rfl ?_
          refine vone rfl (vxq (vpkf rfl rfl) rfl rfl ?_)
          refine vnil ?_
          refine vcondf rfl ?_
          refine vskip ?_
          refine vinblock ?_
          refine vregion ?_
          refine vone rfl (vxq (vmv rfl) rfl rfl ?_)
          refine vone rfl (vxq (vadd rfl rfl (by unfold InR; omega)) rfl rfl ?_)
          refine vone rfl (vxq (vas rfl) rfl rfl ?_)
          refine vnil ?_
          exact vback (IH (t + 1) ⟨by omega, by omega⟩ (by show (_ : Int).toNat < (_ : Int).toNat; omega)) ⟨rfl, rfl, rfl, rfl, rfl, True.intro⟩ sb2
        · skip
          refine vone rfl (vxq (vmv rfl) rfl rfl ?_)
          refine vyes rfl rfl rfl (vxq (vmv rfl) rfl rfl ?_)
          refine vyes rfl rfl rfl (vxq (vmv rfl) rfl rfl ?_)
          refine vyes rfl rfl rfl (vxq (visg (enc := encB) rfl rfl (by omega) hza) rfl rfl ?_)
          refine vyes rfl rfl rfl (vxq (vldS1 (enc := encB) rfl hza rfl) rfl rfl ?_)
          refine vknow (d := 130) (b' := true) rfl (hab rfl) ?_
          refine vyes rfl rfl rfl (vxq (vnot rfl) rfl rfl ?_)
          refine vone rfl (vxq (vpkt rfl rfl) rfl rfl ?_)
          refine vnil ?_
          refine vcondf rfl ?_
          refine vskip ?_
          refine vinblock ?_
          refine vregion ?_
          refine vone rfl (vxq (vmv rfl) rfl rfl ?_)
          refine vone rfl (vxq (vadd rfl rfl (by unfold InR; omega)) rfl rfl ?_)
          refine vone rfl (vxq (vas rfl) rfl rfl ?_)
          refine vnil ?_
          exact vback (IH (t + 1) ⟨by omega, by omega⟩ (by show (_ : Int).toNat < (_ : Int).toNat; omega)) ⟨rfl, rfl, rfl, rfl, rfl, True.intro⟩ sb2
      · skip
        refine vexit (k' := _) rfl ?_
        refine vseq ?_
        refine vregion ?_
        refine vone rfl (vxq (vmv rfl) rfl rfl ?_)
        refine vone rfl (vxq (vmv rfl) rfl rfl ?_)
        refine vone rfl (vxq (vgeq rfl rfl) rfl rfl ?_)
        refine vknow (d := 135) (b' := true) rfl (decide_eq_true (hmk)) ?_
        refine vone rfl (vxq (vmv rfl) rfl rfl ?_)
        refine vyes rfl rfl rfl (vxq (vcq rfl rfl rfl (c_works _)) rfl rfl ?_)
        refine vknow (d := 137) (b' := true) rfl rfl ?_
        refine vone rfl (vxq (vpkt rfl rfl) rfl rfl ?_)
        refine vone rfl (vxq (vas rfl) rfl rfl ?_)
        refine vnil ?_
        refine vret (vr1 (H' := H) Tryd.func6 rfl (.tmp rfl) sb2 ?_)
        exact ⟨rfl, rfl⟩
end Go.Proofs.YtaplkoimhecacaaDoor
