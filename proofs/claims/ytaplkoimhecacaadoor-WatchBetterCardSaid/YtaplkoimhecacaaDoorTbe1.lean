/-
  What the base lacks. Walks of the laws' own small functions: full, led. The walks of WatchSafe and WatchBetter.
-/
import Derived.Test.YtaplkoimhecacaaDoorB01
import Derived.Test.YtaplkoimhecacaaDoorB02
import Derived.Test.YtaplkoimhecacaaDoorB03
import Derived.Test.YtaplkoimhecacaaDoorB04
import Derived.Test.YtaplkoimhecacaaDoorB05
import Derived.Test.YtaplkoimhecacaaDoorB06
import Derived.Test.YtaplkoimhecacaaDoorB07
import Derived.Test.YtaplkoimhecacaaDoorB08
import Derived.Test.YtaplkoimhecacaaDoorB09
import Derived.Test.YtaplkoimhecacaaDoorB10
import Derived.Test.YtaplkoimhecacaaDoorB11
import Derived.Test.YtaplkoimhecacaaDoorB12
import Derived.Test.YtaplkoimhecacaaDoorB13
import Derived.Test.YtaplkoimhecacaaDoorB14
import Derived.Test.YtaplkoimhecacaaDoorB15
import Derived.Test.YtaplkoimhecacaaDoorB16
import Derived.Test.YtaplkoimhecacaaDoorB17
import Derived.Test.YtaplkoimhecacaaDoorB18
import Derived.Test.YtaplkoimhecacaaDoorB19
import Derived.Test.YtaplkoimhecacaaDoorB20
namespace Go.Proofs.YtaplkoimhecacaaDoor
open Go
set_option maxRecDepth 100000
section
open Go
open Go.ChangeShapes Go.WideShapes Go.ChangeAt Go.RowKit

variable {HH : Type} (enc : TypeId × Value → HH) (P : Program) (W : World)

variable {enc P W}
theorem allH_emb (W : World) : Emb (allH W) W := by
  refine ⟨?_, fun e he => ?_⟩
  · have : (allH W).map Prod.fst = List.range W.heap.size := by
      unfold allH
      rw [List.map_map]
      have : (Prod.fst ∘ fun p : Obj × Nat => (p.2, p.1)) = Prod.snd := rfl
      rw [this, List.zipIdx_map_snd, List.range_eq_range']
      simp
    rw [this]; exact List.nodup_range
  · exact allH_mem.1 he

/-- A contract at all blocks, in the library's form. -/
theorem calls_of {P : Program} {k : FuncId} {args : Array Value} {W : World} {v : Value} (h : VCall P k args (allH W) (fun o H' => o = .val v ∧ ∃ B, H' = B ++ allH W)) :
    Calls P k args W (fun e w' => e = .returned v ∧ Below W.heap.size W w') := by
  intro cs
  obtain ⟨o, w', m', H', ⟨rfl, B, rfl⟩, hF, hs, _, fr', rfl, h1, h2⟩ := h W cs (allH_emb W)
  refine ⟨.returned v, w', fr', ⟨rfl, hF.os, hF.tape, hF.output, hF.size, fun i hi => ?_⟩, hs, h1, h2⟩
  have hg : W.heap[i]? = some W.heap[i] := Array.getElem?_eq_getElem hi
  rw [hg]
  exact hF.emb.at_ (i, W.heap[i]) (List.mem_append_right _ (allH_mem.2 hg))

end
section
open Go
instance tFn24 : TFn Tryd.prog 24 := mkTFn Tryd.func24 (by kernel_rfl) rfl
end
end Go.Proofs.YtaplkoimhecacaaDoor
namespace Go.Proofs.YtaplkoimhecacaaDoor
open Go
set_option maxRecDepth 100000

attribute [local irreducible] tightP hullP rootP farP rows endsOf
theorem fullN_snoc (w : Wn) (m : Int) : ∀ l : List Int, fullN w (l ++ [m]) = fullN w l + isFull w m
  | [] => by simp [fullN]
  | a :: r => by simp only [List.cons_append, fullN, fullN_snoc w m r]; omega
theorem fullN_bd (w : Wn) : ∀ l : List Int, 0 ≤ fullN w l ∧ fullN w l ≤ l.length
  | [] => by simp [fullN]
  | a :: r => by
    have := fullN_bd w r
    have h : 0 ≤ isFull w a ∧ isFull w a ≤ 1 := by unfold isFull; split <;> omega
    simp only [fullN, List.length_cons]; omega
theorem full_take {w : Wn} {ms : List Int} {i x : Int} (hi : 0 ≤ i) (hx : ms[i.toNat]? = some x) : fullN w (ms.take (i + 1).toNat) = fullN w (ms.take i.toNat) + isFull w x := by
  obtain ⟨h1, h2⟩ := List.getElem?_eq_some_iff.1 hx
  rw [show (i + 1).toNat = i.toNat + 1 by omega, List.take_succ_eq_append_getElem h1, fullN_snoc, h2]
theorem full_t {w : Wn} {ms : List Int} {i x : Int} (hi : 0 ≤ i) (hx : ms[i.toNat]? = some x) (h : x = w.soft + 1) : fullN w (ms.take i.toNat) + 1 = fullN w (ms.take (i + 1).toNat) := by
  rw [full_take hi hx]; unfold isFull; rw [if_pos h]
theorem full_f {w : Wn} {ms : List Int} {i x : Int} (hi : 0 ≤ i) (hx : ms[i.toNat]? = some x) (h : ¬ x = w.soft + 1) : fullN w (ms.take i.toNat) = fullN w (ms.take (i + 1).toNat) := by
  rw [full_take hi hx]; unfold isFull; rw [if_neg h]; omega
theorem full_bd (w : Wn) (ms : List Int) (i : Int) (hi : 0 ≤ i) : 0 ≤ fullN w (ms.take i.toNat) ∧ fullN w (ms.take i.toNat) ≤ i := by
  have := fullN_bd w (ms.take i.toNat)
  rw [List.length_take] at this; omega
/-- paravane/paravanelaw06.full -/
theorem c_fullL (w : Wn) (hw : okW w) (ms : List Int) (oa : Option Addr) (c : Nat) (H : Heap) [hms : SlO H oa 1 encI ms] (hmn : ms.length ≤ 9223372036854775807) : VHas Tryd.prog 24 [vWn w, .slice oa ms.length c] (I (fullN w ms)) (H) (H) := by
  have hw' := hw
  unfold okW at hw'
  refine vcall_of_vrun Tryd.func24 rfl (N := 24) rfl rfl ?_
  refine vseq ?_
  refine vregion ?_
  refine vone rfl (vxa (vbox rfl rfl) rfl rfl (fun b1 => ?_))
  refine vone rfl (vxq (vas rfl) rfl rfl ?_)
  refine vnil ?_
  refine vseq ?_
  refine vregion ?_
  refine vone rfl (vxq (vas rfl) rfl rfl ?_)
  refine vnil ?_
  refine vseq ?_
  refine vseq ?_
  refine vregion ?_
  refine vone rfl (vxq (vas rfl) rfl rfl ?_)
  refine vnil ?_
  refine vblock ?_
  refine vwhile (σ := Int) (fun i => (ms.length - i).toNat) (fun i => [(1, .slice oa ms.length c), (2, ptr b1), (5, I (fullN w (ms.take i.toNat))), (6, I i)]) (fun i => (b1, blk (clWn w) 23) :: H) (fun i => 0 ≤ i ∧ i ≤ ms.length) 0 ⟨by omega, by omega⟩ ⟨rfl, rfl, rfl, rfl, True.intro⟩ sb ?_
  rintro i ⟨hi0, hin⟩ IH
  change VRun _ _ _ _ _ [(1, .slice oa ms.length c), (2, ptr b1), (5, I (fullN w (ms.take i.toNat))), (6, I i)] _ ((b1, blk (clWn w) 23) :: H) _
  have hfb := full_bd w ms i hi0
  refine vseq ?_
  refine vseq ?_
  refine vregion ?_
  refine vone rfl (vxq (vmv rfl) rfl rfl ?_)
  refine vone rfl (vxq (vmv rfl) rfl rfl ?_)
  refine vone rfl (vxq (vlen rfl) rfl rfl ?_)
  refine vone rfl (vxq (vlss rfl rfl) rfl rfl ?_)
  refine vnil ?_
  refine vcondd rfl (fun h10 => ?_) (fun h10 => ?_)
  · skip
    obtain ⟨x, hx⟩ := get_of_lt ms (i := i.toNat) (by omega)
    refine vskip ?_
    refine vseq ?_
    refine vblock ?_
    refine vseq ?_
    refine vdraw0 [(.q, 0), (.q, 1), (.q, 2), (.q, 3), (.q, 4), (.q, 5), (.q, 6), (.q, 7)] Tryd.mixed (by kernel_rfl) (by kernel_rfl) ?_
    refine vdq (mone rfl) (vmv rfl) rfl rfl ?_
    refine vdq (mone rfl) (vmv rfl) rfl rfl ?_
    refine vdq (mone rfl) (visg (enc := encI) rfl rfl (by omega) hx) rfl rfl ?_
    refine vdq (mone rfl) (vldS1 (enc := encI) rfl hx rfl) rfl rfl ?_
    refine vdq (mone rfl) (vfa rfl) rfl rfl ?_
    refine vdq (mone rfl) (vld1 rfl rfl) rfl rfl ?_
    refine vdq (mone rfl) (vadd rfl rfl (by unfold InR; omega)) rfl rfl ?_
    refine vdq (mone rfl) (veql rfl rfl) rfl rfl ?_
    refine vdend rfl ?_
    refine vcondd rfl (fun h20 => ?_) (fun h20 => ?_)
    · skip
      refine vregion ?_
      refine vone rfl (vxq (vmv rfl) rfl rfl ?_)
      refine vone rfl (vxq (vadd rfl rfl (by unfold InR; omega)) rfl rfl ?_)
      refine vone rfl (vxq (vas rfl) rfl rfl ?_)
      refine vnil ?_
      refine vinblock ?_
      refine vregion ?_
      refine vone rfl (vxq (vmv rfl) rfl rfl ?_)
      refine vone rfl (vxq (vadd rfl rfl (by unfold InR; omega)) rfl rfl ?_)
      refine vone rfl (vxq (vas rfl) rfl rfl ?_)
      refine vnil ?_
      first
        | exact vback (IH (i + 1) ⟨by omega, by omega⟩ (by show (_ : Int).toNat < (_ : Int).toNat; omega)) ⟨rfl, rfl, (congrArg (fun z => some (I z)) (full_t hi0 hx h20)), rfl, True.intro⟩ sb
        | exact vback (IH (i + 1) ⟨by omega, by omega⟩ (by show (_ : Int).toNat < (_ : Int).toNat; omega)) ⟨rfl, rfl, (congrArg (fun z => some (I z)) (full_f hi0 hx h20)), rfl, True.intro⟩ sb
    · skip
      refine vskip ?_
      refine vinblock ?_
      refine vregion ?_
      refine vone rfl (vxq (vmv rfl) rfl rfl ?_)
      refine vone rfl (vxq (vadd rfl rfl (by unfold InR; omega)) rfl rfl ?_)
      refine vone rfl (vxq (vas rfl) rfl rfl ?_)
      refine vnil ?_
      first
        | exact vback (IH (i + 1) ⟨by omega, by omega⟩ (by show (_ : Int).toNat < (_ : Int).toNat; omega)) ⟨rfl, rfl, (congrArg (fun z => some (I z)) (full_t hi0 hx h20)), rfl, True.intro⟩ sb
        | exact vback (IH (i + 1) ⟨by omega, by omega⟩ (by show (_ : Int).toNat < (_ : Int).toNat; omega)) ⟨rfl, rfl, (congrArg (fun z => some (I z)) (full_f hi0 hx h20)), rfl, True.intro⟩ sb
  · skip
    refine vexit (k' := _) rfl ?_
    refine vseq ?_
    refine vregion ?_
    refine vone rfl (vxq (vmv rfl) rfl rfl ?_)
    refine vone rfl (vxq (vas rfl) rfl rfl ?_)
    refine vnil ?_
    refine vret (vr1 (H' := H) Tryd.func24 rfl (.tmp rfl) sb ?_)
    exact ⟨oI (by rw [List.take_of_length_le (by omega)]), rfl⟩
end Go.Proofs.YtaplkoimhecacaaDoor
namespace Go.Proofs.YtaplkoimhecacaaDoor
open Go
set_option maxRecDepth 100000

attribute [local irreducible] tightP hullP rootP farP rows endsOf
theorem best_len (w : Wn) (s : Sc) : (bestE w s).1.length ≤ 64 := by
  by_cases h : (bestE w s).2.2 ≠ 0
  · rw [(best_no h).1]; simp
  · have h := Classical.not_not.1 h
    rw [(best_judge h).2.2]
    rw [best_e0] at h
    obtain ⟨_, hs, _, _⟩ := danger_0 h
    exact hs.1.2

set_option maxHeartbeats 1000000 in
/-- paravane/paravanelaw06.WatchBetter -/
theorem w_Better (w : Wn) (h : SH) (s : Sc) (ms : List Int) (oa : Option Addr) (c : Nat) (H : Heap) [hsc : ScO H h s] [hgl : Glob H] [hms : SlO H oa 1 encI ms] (hmn : ms.length ≤ 9223372036854775807) : VHas Tryd.prog 5 [vWn w, vSc h s, .slice oa ms.length c] (.bool true) (H) (H) := by
  refine vcall_of_vrun Tryd.func5 rfl (N := 82) rfl rfl ?_
  refine vseq ?_
  refine vregion ?_
  refine vone rfl (vxa (vbox rfl rfl) rfl rfl (fun b1 => ?_))
  refine vone rfl (vxa (vbox rfl rfl) rfl rfl (fun b2 => ?_))
  refine vone rfl (vxq (vas rfl) rfl rfl ?_)
  refine vnil ?_
  refine vseq ?_
  refine vregion ?_
  refine vone rfl (vxq (vldn rfl rfl) rfl rfl ?_)
  refine vone rfl (vxq (vldn rfl rfl) rfl rfl ?_)
  refine vone rfl (vxg (vcg rfl rfl rfl (d_Best w h s _) (fun o H' h => h)) rfl rfl ?_)
  rintro _ _ ⟨B1, rfl, ⟨oa1, c1, rfl, hk1⟩⟩
  refine vone rfl (vxq (vmv rfl) rfl rfl ?_)
  refine vone rfl (vxq (vex rfl rfl) rfl rfl ?_)
  refine vone rfl (vxq (vex rfl rfl) rfl rfl ?_)
  refine vone rfl (vxq (vex rfl rfl) rfl rfl ?_)
  refine vone rfl (vxq (vas rfl) rfl rfl ?_)
  refine vone rfl (vxq (vas rfl) rfl rfl ?_)
  refine vone rfl (vxq (vas rfl) rfl rfl ?_)
  refine vnil ?_
  refine vseq ?_
  refine vseq ?_
  refine vregion ?_
  refine vone rfl (vxq (vmv rfl) rfl rfl ?_)
  refine vone rfl (vxq (vneq rfl rfl) rfl rfl ?_)
  refine vnil ?_
  refine vcondd rfl (fun h20 => ?_) (fun h20 => ?_)
  · skip
    refine vseq ?_
    refine vregion ?_
    refine vone rfl (vxq (vmv rfl) rfl rfl ?_)
    refine vone rfl (vxq (vlen rfl) rfl rfl ?_)
    refine vone rfl (vxq (veql rfl rfl) rfl rfl ?_)
    refine vknow (d := 23) (b' := true) rfl (decide_eq_true (by rw [(best_no h20).1]; rfl)) ?_
    refine vone rfl (vxq (vmv rfl) rfl rfl ?_)
    refine vyes rfl rfl rfl (vxq (vmv rfl) rfl rfl ?_)
    refine vyes rfl rfl rfl (vxq (veql rfl rfl) rfl rfl ?_)
    refine vknow (d := 26) (b' := true) rfl (decide_eq_true ((best_no h20).2)) ?_
    refine vone rfl (vxq (vpkt rfl rfl) rfl rfl ?_)
    refine vone rfl (vxq (vmv rfl) rfl rfl ?_)
    refine vyes rfl rfl rfl (vxq (vcq rfl rfl rfl (c_works _)) rfl rfl ?_)
    refine vknow (d := 29) (b' := true) rfl rfl ?_
    refine vone rfl (vxq (vpkt rfl rfl) rfl rfl ?_)
    refine vone rfl (vxq (vas rfl) rfl rfl ?_)
    refine vnil ?_
    refine vret (vr1 (H' := H) Tryd.func5 rfl (.tmp rfl) sb2 ?_)
    exact ⟨rfl, rfl⟩
  · skip
    have hb0 := Classical.not_not.1 h20
    obtain ⟨hbj, hbf, _⟩ := best_judge hb0
    have hw := (danger_0 ((best_e0 w s).symm.trans hb0)).1
    have hbl : (bestE w s).1.length ≤ 9223372036854775807 := by have := best_len w s; omega
    refine vskip ?_
    refine vseq ?_
    refine vregion ?_
    refine vone rfl (vxq (vldn rfl rfl) rfl rfl ?_)
    refine vone rfl (vxq (vldn rfl rfl) rfl rfl ?_)
    refine vone rfl (vxq (vmv rfl) rfl rfl ?_)
    refine vone rfl (vxq (vcq rfl rfl rfl (c_Judge w h s _ (bestE w s).1 oa1 c1 hbl)) rfl rfl ?_)
    refine vone rfl (vxq (vmv rfl) rfl rfl ?_)
    refine vone rfl (vxq (vex rfl rfl) rfl rfl ?_)
    refine vone rfl (vxq (vex rfl rfl) rfl rfl ?_)
    refine vone rfl (vxq (vex rfl rfl) rfl rfl ?_)
    refine vone rfl (vxq (vas rfl) rfl rfl ?_)
    refine vone rfl (vxq (vas rfl) rfl rfl ?_)
    refine vone rfl (vxq (vas rfl) rfl rfl ?_)
    refine vnil ?_
    refine vseq ?_
    refine vseq ?_
    refine vregion ?_
    refine vone rfl (vxq (vmv rfl) rfl rfl ?_)
    refine vone rfl (vxq (vneq rfl rfl) rfl rfl ?_)
    refine vknow (d := 40) (b' := false) rfl (decide_eq_false (fun e => e (by rw [hbj]))) ?_
    refine vone rfl (vxq (vmv rfl) rfl rfl ?_)
    refine vyes rfl rfl rfl (vxq (vmv rfl) rfl rfl ?_)
    refine vyes rfl rfl rfl (vxq (vneq rfl rfl) rfl rfl ?_)
    refine vknow (d := 43) (b' := false) rfl (decide_eq_false (fun e => e (by rw [hbj]))) ?_
    refine vone rfl (vxq (vpkf rfl rfl) rfl rfl ?_)
    refine vone rfl (vxq (vmv rfl) rfl rfl ?_)
    refine vyes rfl rfl rfl (vxq (vmv rfl) rfl rfl ?_)
    refine vyes rfl rfl rfl (vxq (vmv rfl) rfl rfl ?_)
    refine vyes rfl rfl rfl (vxq (vlen rfl) rfl rfl ?_)
    refine vyes rfl rfl rfl (vxq (vneq rfl rfl) rfl rfl ?_)
    refine vknow (d := 49) (b' := false) rfl (decide_eq_false (fun e => e (by rw [hbj]))) ?_
    refine vone rfl (vxq (vpkf rfl rfl) rfl rfl ?_)
    refine vone rfl (vxq (vmv rfl) rfl rfl ?_)
    refine vyes rfl rfl rfl (vxq (vldn rfl rfl) rfl rfl ?_)
    refine vyes rfl rfl rfl (vxq (vmv rfl) rfl rfl ?_)
    refine vyes rfl rfl rfl (vxq (vcq rfl rfl rfl (c_fullL w hw (bestE w s).1 oa1 c1 _ hbl)) rfl rfl ?_)
    refine vyes rfl rfl rfl (vxq (vmv rfl) rfl rfl ?_)
    refine vyes rfl rfl rfl (vxq (vneq rfl rfl) rfl rfl ?_)
    refine vknow (d := 56) (b' := false) rfl (decide_eq_false (fun e => e (hbf))) ?_
    refine vone rfl (vxq (vpkf rfl rfl) rfl rfl ?_)
    refine vnil ?_
    refine vcondf rfl ?_
    refine vskip ?_
    refine vseq ?_
    refine vregion ?_
    refine vone rfl (vxq (vldn rfl rfl) rfl rfl ?_)
    refine vone rfl (vxq (vldn rfl rfl) rfl rfl ?_)
    refine vone rfl (vxq (vmv rfl) rfl rfl ?_)
    refine vone rfl (vxq (vcq rfl rfl rfl (c_Judge w h s _ ms oa c hmn)) rfl rfl ?_)
    refine vone rfl (vxq (vmv rfl) rfl rfl ?_)
    refine vone rfl (vxq (vex rfl rfl) rfl rfl ?_)
    refine vone rfl (vxq (vex rfl rfl) rfl rfl ?_)
    refine vone rfl (vxq (vex rfl rfl) rfl rfl ?_)
    refine vone rfl (vxq (vas rfl) rfl rfl ?_)
    refine vone rfl (vxq (vas rfl) rfl rfl ?_)
    refine vnil ?_
    refine vseq ?_
    refine vregion ?_
    refine vone rfl (vxq (vmv rfl) rfl rfl ?_)
    refine vone rfl (vxq (vneq rfl rfl) rfl rfl ?_)
    refine vone rfl (vxq (vmv rfl) rfl rfl ?_)
    refine vsplitd (d := 68) rfl (fun h68 => ?_) (fun h68 => ?_)
    · skip
      refine vno rfl rfl rfl rfl rfl ?_
      refine vno rfl rfl rfl rfl rfl ?_
      refine vone rfl (vxq (vpkt rfl rfl) rfl rfl ?_)
      refine vone rfl (vxq (vmv rfl) rfl rfl ?_)
      refine vno rfl rfl rfl rfl rfl ?_
      refine vno rfl rfl rfl rfl rfl ?_
      refine vno rfl rfl rfl rfl rfl ?_
      refine vno rfl rfl rfl rfl rfl ?_
      refine vno rfl rfl rfl rfl rfl ?_
      refine vone rfl (vxq (vpkt rfl rfl) rfl rfl ?_)
      refine vone rfl (vxq (vmv rfl) rfl rfl ?_)
      refine vyes rfl rfl rfl (vxq (vcq rfl rfl rfl (c_works _)) rfl rfl ?_)
      refine vknow (d := 80) (b' := true) rfl rfl ?_
      refine vone rfl (vxq (vpkt rfl rfl) rfl rfl ?_)
      refine vone rfl (vxq (vas rfl) rfl rfl ?_)
      refine vnil ?_
      refine vret (vr1 (H' := H) Tryd.func5 rfl (.tmp rfl) sb2 ?_)
      exact ⟨rfl, rfl⟩
    · skip
      refine vyes rfl rfl rfl (vxq (vmv rfl) rfl rfl ?_)
      refine vyes rfl rfl rfl (vxq (vneq rfl rfl) rfl rfl ?_)
      refine vone rfl (vxq (vpkf rfl rfl) rfl rfl ?_)
      refine vone rfl (vxq (vmv rfl) rfl rfl ?_)
      refine vsplitd (d := 72) rfl (fun h72 => ?_) (fun h72 => ?_)
      · skip
        refine vno rfl rfl rfl rfl rfl ?_
        refine vno rfl rfl rfl rfl rfl ?_
        refine vno rfl rfl rfl rfl rfl ?_
        refine vno rfl rfl rfl rfl rfl ?_
        refine vno rfl rfl rfl rfl rfl ?_
        refine vone rfl (vxq (vpkt rfl rfl) rfl rfl ?_)
        refine vone rfl (vxq (vmv rfl) rfl rfl ?_)
        refine vyes rfl rfl rfl (vxq (vcq rfl rfl rfl (c_works _)) rfl rfl ?_)
        refine vknow (d := 80) (b' := true) rfl rfl ?_
        refine vone rfl (vxq (vpkt rfl rfl) rfl rfl ?_)
        refine vone rfl (vxq (vas rfl) rfl rfl ?_)
        refine vnil ?_
        refine vret (vr1 (H' := H) Tryd.func5 rfl (.tmp rfl) sb2 ?_)
        exact ⟨rfl, rfl⟩
      · skip
        refine vyes rfl rfl rfl (vxq (vldn rfl rfl) rfl rfl ?_)
        refine vyes rfl rfl rfl (vxq (vmv rfl) rfl rfl ?_)
        refine vyes rfl rfl rfl (vxq (vcq rfl rfl rfl (c_fullL w hw ms oa c _ hmn)) rfl rfl ?_)
        refine vyes rfl rfl rfl (vxq (vmv rfl) rfl rfl ?_)
        refine vyes rfl rfl rfl (vxq (vleq rfl rfl) rfl rfl ?_)
        refine vknow (d := 77) (b' := true) rfl (decide_eq_true (best_most hb0 (Classical.not_not.1 h68) (Classical.not_not.1 h72))) ?_
        refine vone rfl (vxq (vpkf rfl rfl) rfl rfl ?_)
        refine vone rfl (vxq (vmv rfl) rfl rfl ?_)
        refine vyes rfl rfl rfl (vxq (vcq rfl rfl rfl (c_works _)) rfl rfl ?_)
        refine vknow (d := 80) (b' := true) rfl rfl ?_
        refine vone rfl (vxq (vpkt rfl rfl) rfl rfl ?_)
        refine vone rfl (vxq (vas rfl) rfl rfl ?_)
        refine vnil ?_
        refine vret (vr1 (H' := H) Tryd.func5 rfl (.tmp rfl) sb2 ?_)
        exact ⟨rfl, rfl⟩
end Go.Proofs.YtaplkoimhecacaaDoor
