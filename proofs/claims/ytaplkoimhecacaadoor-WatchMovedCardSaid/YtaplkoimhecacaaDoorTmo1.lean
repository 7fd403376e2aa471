/-
  What the base lacks. Walks of the laws' helpers: Rest, Pick, square, swum. The walk of WatchMoved.
-/
import Derived.Test.YtaplkoimhecacaaDoorB01
import Derived.Test.YtaplkoimhecacaaDoorB02
import Derived.Test.YtaplkoimhecacaaDoorB03
import Derived.Test.YtaplkoimhecacaaDoorB04
import Derived.Test.YtaplkoimhecacaaDoorB05
import Derived.Test.YtaplkoimhecacaaDoorB06
import Derived.Test.YtaplkoimhecacaaDoorB07
import Derived.Test.YtaplkoimhecacaaDoorB08
import Derived.Test.YtaplkoimhecacaaDoorB09
import Derived.Test.YtaplkoimhecacaaDoorB10
import Derived.Test.YtaplkoimhecacaaDoorB11
import Derived.Test.YtaplkoimhecacaaDoorB12
import Derived.Test.YtaplkoimhecacaaDoorB13
import Derived.Test.YtaplkoimhecacaaDoorB14
import Derived.Test.YtaplkoimhecacaaDoorB15
import Derived.Test.YtaplkoimhecacaaDoorB16
import Derived.Test.YtaplkoimhecacaaDoorB17
import Derived.Test.YtaplkoimhecacaaDoorB18
import Derived.Test.YtaplkoimhecacaaDoorB19
import Derived.Test.YtaplkoimhecacaaDoorB20
namespace Go.Proofs.YtaplkoimhecacaaDoor
open Go
set_option maxRecDepth 100000
section
open Go

variable {P : Program} {f : FuncId} {ro : Option Nat} {N : Nat} {k : List Item} {E : Env} {D : List Deferred} {H : Heap} {Q : Out → Heap → Prop}
variable {ops : Array Oper} {l : List Oper}

variable {d : Nat} {x y : Operand} {a b : Int} {T T' ty : TypeId} {pos : String} {af : Array Edge} {g : Option (Nat × Bool)}

theorem vrem (hx : ev E x = some (.int .i64 a)) (hy : ev E y = some (.int .i64 b)) (hb : b ≠ 0) :
    OQ P N E D H ⟨some d, .binOp .rem T x y T', ty, pos, af, g⟩ (.int .i64 (a.tmod b)) :=
  ov (by simp) (fun t w hA _ => by simp [execOp, ev_eval hA hx, ev_eval hA hy, binOp, eqGuard, Op.intDiv, hb])
end
section

theorem ofP_sm {p : Pt} (h : p.okV) : (ofP p).sm 131072 := by unfold Pt.okV at h; unfold Rg.sm Bd.sm ofP; simp only; omega
end
section

theorem tmod_emod {n m : Int} (hm : 0 < m) : (if n.tmod m < 0 then n.tmod m + m else n.tmod m) = n % m := by
  rcases Int.le_total 0 n with h0 | h0
  · have h1 := Int.tmod_nonneg m h0
    rw [if_neg (by omega), Int.tmod_eq_emod_of_nonneg h0]
  · have h1 : 0 ≤ (-n).tmod m := Int.tmod_nonneg m (by omega)
    have h2 : (-n).tmod m < m := Int.tmod_lt_of_pos _ hm
    rw [Int.neg_tmod] at h1 h2
    have h3 := Int.mul_tdiv_add_tmod n m
    have h4 := Int.mul_ediv_add_emod n m
    have h5 := Int.emod_nonneg n (show m ≠ 0 by omega)
    have h6 := Int.emod_lt_of_pos n hm
    have e : m * (n / m - n.tdiv m) = n.tmod m - n % m := by rw [Int.mul_sub]; omega
    generalize n / m - n.tdiv m = k at e
    split
    · rename_i hneg
      have : k = -1 := by
        rcases Int.lt_trichotomy k (-1) with h | h | h
        · have := Int.mul_le_mul_of_nonneg_left (show k ≤ -2 by omega) (show 0 ≤ m by omega); omega
        · exact h
        · have := Int.mul_le_mul_of_nonneg_left (show 0 ≤ k by omega) (show 0 ≤ m by omega); omega
      subst this; omega
    · have : k = 0 := by
        rcases Int.lt_trichotomy k 0 with h | h | h
        · have := Int.mul_le_mul_of_nonneg_left (show k ≤ -1 by omega) (show 0 ≤ m by omega); omega
        · exact h
        · have := Int.mul_le_mul_of_nonneg_left (show 1 ≤ k by omega) (show 0 ≤ m by omega); omega
      subst this; omega

end
section
open Go
open Go.ChangeShapes Go.WideShapes Go.ChangeAt Go.RowKit

variable {HH : Type} (enc : TypeId × Value → HH) (P : Program) (W : World)

variable {enc P W}
theorem allH_emb (W : World) : Emb (allH W) W := by
  refine ⟨?_, fun e he => ?_⟩
  · have : (allH W).map Prod.fst = List.range W.heap.size := by
      unfold allH
      rw [List.map_map]
      have : (Prod.fst ∘ fun p : Obj × Nat => (p.2, p.1)) = Prod.snd := rfl
      rw [this, List.zipIdx_map_snd, List.range_eq_range']
      simp
    rw [this]; exact List.nodup_range
  · exact allH_mem.1 he

/-- A contract at all blocks, in the library's form. -/
theorem calls_of {P : Program} {k : FuncId} {args : Array Value} {W : World} {v : Value} (h : VCall P k args (allH W) (fun o H' => o = .val v ∧ ∃ B, H' = B ++ allH W)) :
    Calls P k args W (fun e w' => e = .returned v ∧ Below W.heap.size W w') := by
  intro cs
  obtain ⟨o, w', m', H', ⟨rfl, B, rfl⟩, hF, hs, _, fr', rfl, h1, h2⟩ := h W cs (allH_emb W)
  refine ⟨.returned v, w', fr', ⟨rfl, hF.os, hF.tape, hF.output, hF.size, fun i hi => ?_⟩, hs, h1, h2⟩
  have hg : W.heap[i]? = some W.heap[i] := Array.getElem?_eq_getElem hi
  rw [hg]
  exact hF.emb.at_ (i, W.heap[i]) (List.mem_append_right _ (allH_mem.2 hg))

end
section
open Go
instance tFn25 : TFn Tryd.prog 25 := mkTFn Tryd.func25 (by kernel_rfl) rfl
instance tFn38 : TFn Tryd.prog 38 := mkTFn Tryd.func38 (by kernel_rfl) rfl
instance tFn39 : TFn Tryd.prog 39 := mkTFn Tryd.func39 (by kernel_rfl) rfl
instance tFn81 : TFn Tryd.prog 81 := mkTFn Tryd.func81 (by kernel_rfl) rfl
instance tFn83 : TFn Tryd.prog 83 := mkTFn Tryd.func83 (by kernel_rfl) rfl
end
section
open Go
set_option maxRecDepth 100000
/-- paravane/region.plus -/
theorem c_region_plus (a b c d : Int) (h1 : InR (a + c)) (h2 : InR (b + d)) : VPure Tryd.prog 83 [bnd a b, bnd c d] (bnd (a + c) (b + d)) := by
  intro H
  refine vcall_of_vrun Tryd.func83 rfl (N := 16) rfl rfl ?_
  refine vseq ?_
  refine vregion ?_
  refine vone rfl (vxa (vbox rfl rfl) rfl rfl (fun b1 => ?_))
  refine vone rfl (vxa (vbox rfl rfl) rfl rfl (fun b2 => ?_))
  refine vone rfl (vxa valloc rfl rfl (fun b3 => ?_))
  refine vnil ?_
  refine vseq ?_
  refine vregion ?_
  refine vone rfl (vxq (vfa rfl) rfl rfl ?_)
  refine vone rfl (vxq (vld1 rfl rfl) rfl rfl ?_)
  refine vone rfl (vxq (vfa rfl) rfl rfl ?_)
  refine vone rfl (vxq (vld1 rfl rfl) rfl rfl ?_)
  refine vone rfl (vxq (vadd rfl rfl (by assumption)) rfl rfl ?_)
  refine vone rfl (vxq (vfa rfl) rfl rfl ?_)
  refine vone rfl (vxq (vld1 rfl rfl) rfl rfl ?_)
  refine vone rfl (vxq (vfa rfl) rfl rfl ?_)
  refine vone rfl (vxq (vld1 rfl rfl) rfl rfl ?_)
  refine vone rfl (vxq (vadd rfl rfl (by assumption)) rfl rfl ?_)
  refine vone rfl (vxq (vbd rfl rfl) rfl rfl ?_)
  refine vone rfl (vxs (vstn rfl rfl rfl rfl rfl) rfl ?_)
  refine vnil ?_
  refine vret (vr1 (H' := H) Tryd.func83 rfl (.celln rfl rfl) (by repeat first | exact .refl _ | refine .cons_cons _ ?_ | refine .cons _ ?_ | exact sl0 _ | refine slA ?_) ?_)
  exact ⟨rfl, rfl⟩
end
section
open Go
set_option maxRecDepth 100000
theorem c_plus4 (a b : Rg) (ha : a.sm 1099511627776) (hb : b.sm 1099511627776) : VPure Tryd.prog 71 [vR a, vR b, fnv 83] (vR (a.map2 Bd.plus b)) := by
  unfold Rg.sm Bd.sm at ha hb
  exact c_region_four_combined _ _ _ _ _ _ _ _ _ _ _ _ _ _ _ _ _ _ _ _ _ _ _ _ _ (c_region_plus _ _ _ _ (by unfold InR; omega) (by unfold InR; omega)) (c_region_plus _ _ _ _ (by unfold InR; omega) (by unfold InR; omega)) (c_region_plus _ _ _ _ (by unfold InR; omega) (by unfold InR; omega)) (c_region_plus _ _ _ _ (by unfold InR; omega) (by unfold InR; omega))
end
section
open Go
set_option maxRecDepth 100000

/-- paravane/region.inside -/
theorem c_inside (f : Rg) : VPure Tryd.prog 81 [vR f] (tup [vR (insideE f).1, I (insideE f).2]) := by
  intro H
  refine vcall_of_vrun Tryd.func81 rfl (N := 17) rfl rfl ?_
  refine vseq ?_
  refine vregion ?_
  refine vone rfl (vxa (vbox rfl rfl) rfl rfl (fun b1 => ?_))
  refine vone rfl (vxa valloc rfl rfl (fun b2 => ?_))
  refine vone rfl (vxq (vas rfl) rfl rfl ?_)
  refine vnil ?_
  refine vseq ?_
  refine vseq ?_
  refine vregion ?_
  refine vone rfl (vxq (via rfl rfl (by omega)) rfl rfl ?_)
  refine vone rfl (vxq (vldn rfl rfl) rfl rfl ?_)
  refine vone rfl (vxq (vcp rfl rfl rfl (c_region_limit_fits _ _ _ (by omega))) rfl rfl ?_)
  refine vone rfl (vxq (vnotd rfl) rfl rfl ?_)
  refine vone rfl (vxq (vmv rfl) rfl rfl ?_)
  refine vsplitd (d := 8) rfl (fun h8 => ?_) (fun h8 => ?_)
  · skip
    refine vno rfl rfl rfl rfl rfl ?_
    refine vno rfl rfl rfl rfl rfl ?_
    refine vno rfl rfl rfl rfl rfl ?_
    refine vno rfl rfl rfl rfl rfl ?_
    refine vone rfl (vxq (vpkt rfl rfl) rfl rfl ?_)
    refine vnil ?_
    refine vcondt rfl ?_
    refine vseq ?_
    refine vregion ?_
    refine vone rfl (vxq (vbd rfl rfl) rfl rfl ?_)
    refine vone rfl (vxs (vstn rfl rfl rfl rfl rfl) rfl ?_)
    refine vone rfl (vxq (vas rfl) rfl rfl ?_)
    refine vnil ?_
    refine vret (vr2 (H' := H) Tryd.func81 rfl (.celln rfl rfl) (.tmp rfl) (by repeat first | exact .refl _ | refine .cons_cons _ ?_ | refine .cons _ ?_ | exact sl0 _ | refine slA ?_) ?_)
    first | (rw [show insideE f = (zR, 7) from if_neg (by unfold Bd.fits; omega)]; exact ⟨rfl, rfl⟩) | (rw [show insideE f = (f, 0) from if_pos (by unfold Bd.fits; omega)]; exact ⟨rfl, rfl⟩)
  · skip
    refine vyes rfl rfl rfl (vxq (via rfl rfl (by omega)) rfl rfl ?_)
    refine vyes rfl rfl rfl (vxq (vldn rfl rfl) rfl rfl ?_)
    refine vyes rfl rfl rfl (vxq (vcp rfl rfl rfl (c_region_limit_fits _ _ _ (by omega))) rfl rfl ?_)
    refine vyes rfl rfl rfl (vxq (vnotd rfl) rfl rfl ?_)
    refine vone rfl (vxq (vpkf rfl rfl) rfl rfl ?_)
    refine vnil ?_
    refine vcondd rfl (fun h13 => ?_) (fun h13 => ?_)
    · skip
      refine vseq ?_
      refine vregion ?_
      refine vone rfl (vxq (vbd rfl rfl) rfl rfl ?_)
      refine vone rfl (vxs (vstn rfl rfl rfl rfl rfl) rfl ?_)
      refine vone rfl (vxq (vas rfl) rfl rfl ?_)
      refine vnil ?_
      refine vret (vr2 (H' := H) Tryd.func81 rfl (.celln rfl rfl) (.tmp rfl) (by repeat first | exact .refl _ | refine .cons_cons _ ?_ | refine .cons _ ?_ | exact sl0 _ | refine slA ?_) ?_)
      first | (rw [show insideE f = (zR, 7) from if_neg (by unfold Bd.fits; omega)]; exact ⟨rfl, rfl⟩) | (rw [show insideE f = (f, 0) from if_pos (by unfold Bd.fits; omega)]; exact ⟨rfl, rfl⟩)
    · skip
      refine vskip ?_
      refine vseq ?_
      refine vregion ?_
      refine vone rfl (vxq (vldn rfl rfl) rfl rfl ?_)
      refine vone rfl (vxq (vcp rfl rfl rfl (c_region_four_region _ _ _ _ _ _ _ _)) rfl rfl ?_)
      refine vone rfl (vxs (vstn rfl rfl rfl rfl rfl) rfl ?_)
      refine vone rfl (vxq (vas rfl) rfl rfl ?_)
      refine vnil ?_
      refine vret (vr2 (H' := H) Tryd.func81 rfl (.celln rfl rfl) (.tmp rfl) (by repeat first | exact .refl _ | refine .cons_cons _ ?_ | refine .cons _ ?_ | exact sl0 _ | refine slA ?_) ?_)
      first | (rw [show insideE f = (zR, 7) from if_neg (by unfold Bd.fits; omega)]; exact ⟨rfl, rfl⟩) | (rw [show insideE f = (f, 0) from if_pos (by unfold Bd.fits; omega)]; exact ⟨rfl, rfl⟩)
theorem moveE_11 {r : Rg} {v : Pt} (h : chkR r ≠ 0) : moveE r v = (zR, chkR r) := by rw [moveE, if_neg (chkR_nz.1 h), chkR_no (chkR_nz.1 h)]
theorem moveE_7 {r : Rg} {v : Pt} (h : ¬ chkR r ≠ 0) (hv : ¬ v.okV) : moveE r v = (zR, 7) := by rw [moveE, if_pos (ok_c h), if_neg hv]
theorem moveE_4 {r : Rg} {v : Pt} (h : ¬ chkR r ≠ 0) (hv : v.okV) (e : tightP r = none) : moveE r v = (zR, 4) := by rw [moveE, if_pos (ok_c h), if_pos hv, e]
theorem moveE_0 {r x : Rg} {v : Pt} (h : ¬ chkR r ≠ 0) (hv : v.okV) (e : tightP r = some x) : moveE r v = insideE (x.map2 Bd.plus (ofP v)) := by rw [moveE, if_pos (ok_c h), if_pos hv, e]
theorem okV_sm {v : Pt} (h : v.okV) : v.sm 1099511627776 := by unfold Pt.okV at h; unfold Pt.sm; omega

/-- paravane/region.Move -/
theorem c_Move (r : Rg) (v : Pt) : VPure Tryd.prog 38 [vR r, vP v] (tup [vR (moveE r v).1, I (moveE r v).2]) := by
  intro H
  refine vcall_of_vrun Tryd.func38 rfl (N := 47) rfl rfl ?_
  refine vseq ?_
  refine vregion ?_
  refine vone rfl (vxa (vbox rfl rfl) rfl rfl (fun b1 => ?_))
  refine vone rfl (vxa (vbox rfl rfl) rfl rfl (fun b2 => ?_))
  refine vone rfl (vxa valloc rfl rfl (fun b3 => ?_))
  refine vone rfl (vxq (vas rfl) rfl rfl ?_)
  refine vnil ?_
  refine vseq ?_
  refine vseq ?_
  refine vregion ?_
  refine vone rfl (vxq (vldn rfl rfl) rfl rfl ?_)
  refine vone rfl (vxq (vcp rfl rfl rfl (c_region_Check r)) rfl rfl ?_)
  refine vone rfl (vxq (vas rfl) rfl rfl ?_)
  refine vnil ?_
  refine vseq ?_
  refine vregion ?_
  refine vone rfl (vxq (vmv rfl) rfl rfl ?_)
  refine vone rfl (vxq (vneq rfl rfl) rfl rfl ?_)
  refine vnil ?_
  refine vcondd rfl (fun h12 => ?_) (fun h12 => ?_)
  · skip
    refine vseq ?_
    refine vregion ?_
    refine vone rfl (vxq (vbd rfl rfl) rfl rfl ?_)
    refine vone rfl (vxq (vmv rfl) rfl rfl ?_)
    refine vone rfl (vxs (vstn rfl rfl rfl rfl rfl) rfl ?_)
    refine vone rfl (vxq (vas rfl) rfl rfl ?_)
    refine vnil ?_
    refine vret (vr2 (H' := H) Tryd.func38 rfl (.celln rfl rfl) (.tmp rfl) (by repeat first | exact .refl _ | refine .cons_cons _ ?_ | refine .cons _ ?_ | exact sl0 _ | refine slA ?_) ?_)
    first | (rw [moveE_11 h12]; exact ⟨rfl, rfl⟩) | (rw [moveE_7 h12 (by unfold Pt.okV; omega)]; exact ⟨rfl, rfl⟩) | (rw [moveE_4 h12 (by unfold Pt.okV; omega) (errO_nz h37), show (optE (tightP r)).2 = 4 from errO_none (errO_nz h37)]; exact ⟨rfl, rfl⟩) | (obtain ⟨gx, ex⟩ := errO_z (nn h37); rw [moveE_0 h12 (by unfold Pt.okV; omega) ex, ex]; exact ⟨rfl, rfl⟩)
  · skip
    refine vskip ?_
    refine vseq ?_
    refine vseq ?_
    refine vdraw0 [(.q, 0), (.q, 1), (.q, 2), (.q, 3), (.q, 4), (.q, 5), (.q, 6), (.q, 7), (.q, 8), (.q, 9), (.q, 10), (.q, 11), (.q, 12), (.q, 13)] Tryd.mixed (by kernel_rfl) (by kernel_rfl) ?_
    refine vdq (mone rfl) (vfa rfl) rfl rfl ?_
    refine vdq (mone rfl) (vld1 rfl rfl) rfl rfl ?_
    refine vdq (mone rfl) (vcp rfl rfl rfl (c_region_limit_into _ _ (by omega))) rfl rfl ?_
    refine vdq (mone rfl) (vfa rfl) rfl rfl ?_
    refine vdq (mone rfl) (vld1 rfl rfl) rfl rfl ?_
    refine vdq (mone rfl) (vneq rfl rfl) rfl rfl ?_
    refine vdq (mone rfl) (vmv rfl) rfl rfl ?_
    refine vdsplitd (d := 21) rfl (fun h21 => ?_) (fun h21 => ?_)
    · skip
      refine vdno rfl rfl rfl rfl rfl ?_
      refine vdno rfl rfl rfl rfl rfl ?_
      refine vdno rfl rfl rfl rfl rfl ?_
      refine vdno rfl rfl rfl rfl rfl ?_
      refine vdno rfl rfl rfl rfl rfl ?_
      refine vdno rfl rfl rfl rfl rfl ?_
      refine vdq (mone rfl) (vpkt rfl rfl) rfl rfl ?_
      refine vdend rfl ?_
      refine vcondt rfl ?_
      refine vseq ?_
      refine vregion ?_
      refine vone rfl (vxq (vbd rfl rfl) rfl rfl ?_)
      refine vone rfl (vxs (vstn rfl rfl rfl rfl rfl) rfl ?_)
      refine vone rfl (vxq (vas rfl) rfl rfl ?_)
      refine vnil ?_
      refine vret (vr2 (H' := H) Tryd.func38 rfl (.celln rfl rfl) (.tmp rfl) (by repeat first | exact .refl _ | refine .cons_cons _ ?_ | refine .cons _ ?_ | exact sl0 _ | refine slA ?_) ?_)
      first | (rw [moveE_11 h12]; exact ⟨rfl, rfl⟩) | (rw [moveE_7 h12 (by unfold Pt.okV; omega)]; exact ⟨rfl, rfl⟩) | (rw [moveE_4 h12 (by unfold Pt.okV; omega) (errO_nz h37), show (optE (tightP r)).2 = 4 from errO_none (errO_nz h37)]; exact ⟨rfl, rfl⟩) | (obtain ⟨gx, ex⟩ := errO_z (nn h37); rw [moveE_0 h12 (by unfold Pt.okV; omega) ex, ex]; exact ⟨rfl, rfl⟩)
    · skip
      refine vdq (myes rfl rfl rfl) (vfa rfl) rfl rfl ?_
      refine vdq (myes rfl rfl rfl) (vld1 rfl rfl) rfl rfl ?_
      refine vdq (myes rfl rfl rfl) (vcp rfl rfl rfl (c_region_limit_into _ _ (by omega))) rfl rfl ?_
      refine vdq (myes rfl rfl rfl) (vfa rfl) rfl rfl ?_
      refine vdq (myes rfl rfl rfl) (vld1 rfl rfl) rfl rfl ?_
      refine vdq (myes rfl rfl rfl) (vneq rfl rfl) rfl rfl ?_
      refine vdq (mone rfl) (vpkf rfl rfl) rfl rfl ?_
      refine vdend rfl ?_
      refine vcondd rfl (fun h28 => ?_) (fun h28 => ?_)
      · skip
        refine vseq ?_
        refine vregion ?_
        refine vone rfl (vxq (vbd rfl rfl) rfl rfl ?_)
        refine vone rfl (vxs (vstn rfl rfl rfl rfl rfl) rfl ?_)
        refine vone rfl (vxq (vas rfl) rfl rfl ?_)
        refine vnil ?_
        refine vret (vr2 (H' := H) Tryd.func38 rfl (.celln rfl rfl) (.tmp rfl) (by repeat first | exact .refl _ | refine .cons_cons _ ?_ | refine .cons _ ?_ | exact sl0 _ | refine slA ?_) ?_)
        first | (rw [moveE_11 h12]; exact ⟨rfl, rfl⟩) | (rw [moveE_7 h12 (by unfold Pt.okV; omega)]; exact ⟨rfl, rfl⟩) | (rw [moveE_4 h12 (by unfold Pt.okV; omega) (errO_nz h37), show (optE (tightP r)).2 = 4 from errO_none (errO_nz h37)]; exact ⟨rfl, rfl⟩) | (obtain ⟨gx, ex⟩ := errO_z (nn h37); rw [moveE_0 h12 (by unfold Pt.okV; omega) ex, ex]; exact ⟨rfl, rfl⟩)
      · skip
        refine vskip ?_
        refine vseq ?_
        refine vregion ?_
        refine vone rfl (vxq (vldn rfl rfl) rfl rfl ?_)
        refine vone rfl (vxq (vcp rfl rfl rfl (c_region_bounds _ _ _ _ _ _ _ _)) rfl rfl ?_)
        refine vone rfl (vxq (vcp rfl rfl rfl (c_tight r ((ok_c h12).sm.mono (by decide)))) rfl rfl ?_)
        refine vone rfl (vxq (vmv rfl) rfl rfl ?_)
        refine vone rfl (vxq (vex rfl rfl) rfl rfl ?_)
        refine vone rfl (vxq (vex rfl rfl) rfl rfl ?_)
        refine vone rfl (vxa valloc rfl rfl (fun b4 => ?_))
        refine vone rfl (vxs (vstn rfl rfl rfl rfl rfl) rfl ?_)
        refine vone rfl (vxq (vas rfl) rfl rfl ?_)
        refine vnil ?_
        refine vseq ?_
        refine vseq ?_
        refine vregion ?_
        refine vone rfl (vxq (vmv rfl) rfl rfl ?_)
        refine vone rfl (vxq (vneq rfl rfl) rfl rfl ?_)
        refine vnil ?_
        refine vcondd rfl (fun h37 => ?_) (fun h37 => ?_)
        · skip
          refine vseq ?_
          refine vregion ?_
          refine vone rfl (vxq (vbd rfl rfl) rfl rfl ?_)
          refine vone rfl (vxq (vmv rfl) rfl rfl ?_)
          refine vone rfl (vxs (vstn rfl rfl rfl rfl rfl) rfl ?_)
          refine vone rfl (vxq (vas rfl) rfl rfl ?_)
          refine vnil ?_
          refine vret (vr2 (H' := H) Tryd.func38 rfl (.celln rfl rfl) (.tmp rfl) (by repeat first | exact .refl _ | refine .cons_cons _ ?_ | refine .cons _ ?_ | exact sl0 _ | refine slA ?_) ?_)
          first | (rw [moveE_11 h12]; exact ⟨rfl, rfl⟩) | (rw [moveE_7 h12 (by unfold Pt.okV; omega)]; exact ⟨rfl, rfl⟩) | (rw [moveE_4 h12 (by unfold Pt.okV; omega) (errO_nz h37), show (optE (tightP r)).2 = 4 from errO_none (errO_nz h37)]; exact ⟨rfl, rfl⟩) | (obtain ⟨gx, ex⟩ := errO_z (nn h37); rw [moveE_0 h12 (by unfold Pt.okV; omega) ex, ex]; exact ⟨rfl, rfl⟩)
        · skip
          refine vskip ?_
          refine vseq ?_
          refine vdraw0 [(.q, 0), (.q, 1), (.q, 2), (.q, 3), (.q, 4), (.q, 5), (.q, 6), (.c, 7), (.q, 8)] Tryd.mixed (by kernel_rfl) (by kernel_rfl) ?_
          refine vdq (mone rfl) (vldn rfl rfl) rfl rfl ?_
          refine vdq (mone rfl) (vldn rfl rfl) rfl rfl ?_
          refine vdq (mone rfl) (vcp rfl rfl rfl (c_of v (okV_sm (by unfold Pt.okV; omega)))) rfl rfl ?_
          refine vdq (mone rfl) (vcp rfl rfl rfl (c_plus4 (optE (tightP r)).1 (ofP v) ((optE_sm (ok_c h12)).mono (by decide)) ((ofP_sm (by unfold Pt.okV; omega)).mono (by decide)))) rfl rfl ?_
          refine vdq (mone rfl) (vcp rfl rfl rfl (c_inside ((optE (tightP r)).1.map2 Bd.plus (ofP v)))) rfl rfl ?_
          refine vdq (mone rfl) (vex rfl rfl) rfl rfl ?_
          refine vdq (mone rfl) (vex rfl rfl) rfl rfl ?_
          refine vdcs (mone rfl) (vstn rfl rfl rfl rfl rfl) rfl ?_
          refine vdq (mone rfl) (vas rfl) rfl rfl ?_
          refine vdend rfl ?_
          refine vret (vr2 (H' := H) Tryd.func38 rfl (.celln rfl rfl) (.tmp rfl) (by repeat first | exact .refl _ | refine .cons_cons _ ?_ | refine .cons _ ?_ | exact sl0 _ | refine slA ?_) ?_)
          first | (rw [moveE_11 h12]; exact ⟨rfl, rfl⟩) | (rw [moveE_7 h12 (by unfold Pt.okV; omega)]; exact ⟨rfl, rfl⟩) | (rw [moveE_4 h12 (by unfold Pt.okV; omega) (errO_nz h37), show (optE (tightP r)).2 = 4 from errO_none (errO_nz h37)]; exact ⟨rfl, rfl⟩) | (obtain ⟨gx, ex⟩ := errO_z (nn h37); rw [moveE_0 h12 (by unfold Pt.okV; omega) ex, ex]; exact ⟨rfl, rfl⟩)
end
end Go.Proofs.YtaplkoimhecacaaDoor
namespace Go.Proofs.YtaplkoimhecacaaDoor
open Go
set_option maxRecDepth 100000

attribute [local irreducible] tightP hullP rootP farP rows endsOf
theorem rest_lt {n m : Int} (h : m < 1) : restP n m = 0 := if_pos h
theorem rest_neg {n m : Int} (h : ¬ m < 1) (h2 : n.tmod m < 0) : restP n m = n.tmod m + m := by
  have := tmod_emod (n := n) (m := m) (by omega)
  rw [if_pos h2] at this
  unfold restP; rw [if_neg h, this]
theorem rest_nn {n m : Int} (h : ¬ m < 1) (h2 : ¬ n.tmod m < 0) : restP n m = n.tmod m := by
  have := tmod_emod (n := n) (m := m) (by omega)
  rw [if_neg h2] at this
  unfold restP; rw [if_neg h, this]
theorem tmod_bd {n m : Int} (h : ¬ m < 1) : -m < n.tmod m ∧ n.tmod m < m := by
  refine ⟨?_, Int.tmod_lt_of_pos _ (by omega)⟩
  have := Int.tmod_lt_of_pos (-n) (show 0 < m by omega)
  rw [Int.neg_tmod] at this; omega
/-- paravane/paravaneref00.Rest -/
theorem c_Rest (n m : Int) (hn : InR n) (hm : InR m) : VPure Tryd.prog 25 [I n, I m] (I (restP n m)) := by
  unfold InR at hn hm
  intro H
  refine vcall_of_vrun Tryd.func25 rfl (N := 16) rfl rfl ?_
  refine vseq ?_
  refine vregion ?_
  refine vone rfl (vxq (vas rfl) rfl rfl ?_)
  refine vnil ?_
  refine vseq ?_
  refine vseq ?_
  refine vregion ?_
  refine vone rfl (vxq (vmv rfl) rfl rfl ?_)
  refine vone rfl (vxq (vlss rfl rfl) rfl rfl ?_)
  refine vnil ?_
  refine vcondd rfl (fun h6 => ?_) (fun h6 => ?_)
  · skip
    refine vseq ?_
    refine vregion ?_
    refine vone rfl (vxq (vas rfl) rfl rfl ?_)
    refine vnil ?_
    refine vret (vr1 (H' := H) Tryd.func25 rfl (.tmp rfl) sb ?_)
    first | (rw [rest_lt h6]; exact ⟨rfl, rfl⟩) | (rw [rest_neg h6 h11]; exact ⟨rfl, rfl⟩) | (rw [rest_nn h6 h11]; exact ⟨rfl, rfl⟩)
  · skip
    have hb := tmod_bd (n := n) h6
    refine vskip ?_
    refine vseq ?_
    refine vregion ?_
    refine vone rfl (vxq (vmv rfl) rfl rfl ?_)
    refine vone rfl (vxq (vmv rfl) rfl rfl ?_)
    refine vone rfl (vxq (vrem rfl rfl (by omega)) rfl rfl ?_)
    refine vone rfl (vxq (vas rfl) rfl rfl ?_)
    refine vnil ?_
    refine vseq ?_
    refine vseq ?_
    refine vregion ?_
    refine vone rfl (vxq (vmv rfl) rfl rfl ?_)
    refine vone rfl (vxq (vlss rfl rfl) rfl rfl ?_)
    refine vnil ?_
    refine vcondd rfl (fun h11 => ?_) (fun h11 => ?_)
    · skip
      refine vregion ?_
      refine vone rfl (vxq (vmv rfl) rfl rfl ?_)
      refine vone rfl (vxq (vmv rfl) rfl rfl ?_)
      refine vone rfl (vxq (vadd rfl rfl (by unfold InR; omega)) rfl rfl ?_)
      refine vone rfl (vxq (vas rfl) rfl rfl ?_)
      refine vnil ?_
      refine vseq ?_
      refine vregion ?_
      refine vone rfl (vxq (vmv rfl) rfl rfl ?_)
      refine vone rfl (vxq (vas rfl) rfl rfl ?_)
      refine vnil ?_
      refine vret (vr1 (H' := H) Tryd.func25 rfl (.tmp rfl) sb ?_)
      first | (rw [rest_lt h6]; exact ⟨rfl, rfl⟩) | (rw [rest_neg h6 h11]; exact ⟨rfl, rfl⟩) | (rw [rest_nn h6 h11]; exact ⟨rfl, rfl⟩)
    · skip
      refine vskip ?_
      refine vseq ?_
      refine vregion ?_
      refine vone rfl (vxq (vmv rfl) rfl rfl ?_)
      refine vone rfl (vxq (vas rfl) rfl rfl ?_)
      refine vnil ?_
      refine vret (vr1 (H' := H) Tryd.func25 rfl (.tmp rfl) sb ?_)
      first | (rw [rest_lt h6]; exact ⟨rfl, rfl⟩) | (rw [rest_neg h6 h11]; exact ⟨rfl, rfl⟩) | (rw [rest_nn h6 h11]; exact ⟨rfl, rfl⟩)

end Go.Proofs.YtaplkoimhecacaaDoor
namespace Go.Proofs.YtaplkoimhecacaaDoor
open Go
set_option maxRecDepth 100000

attribute [local irreducible] tightP hullP rootP farP rows endsOf restP moveE
def midP (r : Rg) : Prop := r.x.lo > -25000 ∧ r.x.hi < 25000 ∧ r.y.lo > -25000 ∧ r.y.hi < 25000
instance (r : Rg) : Decidable (midP r) := by unfold midP; exact inferInstance
theorem danger_6061 {w : Wn} {s : Sc} (h1 : (dangerE w s).2 ≠ 60) (h2 : (dangerE w s).2 ≠ 61) : okW w ∧ okSc s := by
  by_cases hb : bothE w (chkS s) ≠ 0
  · exfalso
    rw [danger_e hb] at h1 h2
    unfold bothE at *
    by_cases hw : chkW w = 0
    · rw [if_pos hw] at *
      by_cases hs : okSc s
      · exact hb (chkS_t hs)
      · exact h2 (chkS_f hs)
    · rw [if_neg hw] at h1; exact h1 rfl
  · exact both_ok hb
theorem danger_len (w : Wn) (s : Sc) : (dangerE w s).1.length ≤ 64 := by
  by_cases h : (dangerE w s).2 ≠ 0
  · rw [danger_no h]; simp
  · obtain ⟨_, hs, _, hl⟩ := danger_0 (Classical.not_not.1 h)
    rw [hl]; exact hs.1.2
def movedSc (s : Sc) (l1 l2 : List Rg) : Sc := ⟨l1, l2, s.eyes, s.ears, s.sg⟩
def movedSH (h : SH) (o1 : Option Addr) (k1 : Nat) (o2 : Option Addr) (k2 : Nat) : SH := ⟨o1, k1, o2, k2, h.a3, h.c3, h.a4, h.c4, h.a5, h.c5⟩
def mvAll (v : Pt) (l l' : List Rg) : Prop := ∀ (j : Nat) r', l'[j]? = some r' → ∃ r, l[j]? = some r ∧ Mvd v r r'
theorem mvAll_nil (v : Pt) (l : List Rg) : mvAll v l [] := fun j r' h => by simp at h
theorem mvAll_snoc {v : Pt} {l l' : List Rg} {r r' : Rg} (h : mvAll v l l') (hr : l[l'.length]? = some r) (hm : Mvd v r r') : mvAll v l (l' ++ [r']) := fun j z hz => by
  by_cases hj : j < l'.length
  · rw [List.getElem?_append_left hj] at hz; exact h j z hz
  · have hlt := (List.getElem?_eq_some_iff.1 hz).1
    rw [List.length_append, List.length_singleton] at hlt
    have e : j = l'.length := by omega
    subst e
    rw [List.getElem?_append_right (Nat.le_refl _)] at hz
    simp at hz
    subst hz
    exact ⟨r, hr, hm⟩
theorem moved_sc {v : Pt} {s : Sc} {l1 l2 : List Rg} (hs : okSc s) (h1 : mvAll v s.ship l1) (h2 : mvAll v s.src l2) (e1 : l1.length = s.ship.length) (e2 : l2.length = s.ship.length) : MovedSc v s (movedSc s l1 l2) := by
  refine ⟨rfl, rfl, rfl, e1, e2, fun t ht => ?_, fun t ht => ?_⟩
  · obtain ⟨r', hr'⟩ := get_of_lt l1 (i := t) (by omega)
    obtain ⟨r, hr, hm⟩ := h1 t r' hr'
    rw [atR_of hr, atR_of (l := (movedSc s l1 l2).ship) hr']; exact hm
  · obtain ⟨r', hr'⟩ := get_of_lt l2 (i := t) (by omega)
    obtain ⟨r, hr, hm⟩ := h2 t r' hr'
    rw [atR_of hr, atR_of (l := (movedSc s l1 l2).src) hr']; exact hm
theorem mov_sc {h : SH} {s : Sc} {R C1 C2 : Heap} {o1 o2 : Option Addr} {k1 k2 t : Nat} {l1 l2 : List Rg} (hsc : ScO R h s) (hO1 : OwnS 55 8 (.slice o1 t k1) t (l1.flatMap clR) C1) (hO2 : OwnS 55 8 (.slice o2 t k2) t (l2.flatMap clR) C2) (e1 : l1.length = t) (e2 : l2.length = t) (ht : t ≤ 64) : ScO (C1 ++ (C2 ++ R)) (movedSH h o1 k1 o2 k2) (movedSc s l1 l2) := by
  have hm : ∀ e ∈ R, e ∈ C1 ++ (C2 ++ R) := fun e he => List.mem_append_right _ (List.mem_append_right _ he)
  have hbd := hsc.bd
  exact ⟨(hO1.slo (enc := clR) clR_len (by decide) rfl e1).sub (fun e he => List.mem_append_left _ he), (hO2.slo (enc := clR) clR_len (by decide) rfl e2).sub (fun e he => List.mem_append_right _ (List.mem_append_left _ he)), hsc.eyes.sub hm, hsc.ears.sub hm, hsc.sg.sub hm, hsc.cap, hsc.nm, by show l1.length ≤ _; omega, by show l2.length ≤ _; omega, hbd.2.2.1, hbd.2.2.2.1, hbd.2.2.2.2⟩
theorem d_DangerM {w : Wn} {h : SH} {s : Sc} {H : Heap} {o1 o2 : Option Addr} {k1 k2 n1 n2 : Nat} {l1 l2 : List Rg} (hsc : ScO H (movedSH h o1 k1 o2 k2) (movedSc s l1 l2)) (hgl : Glob H) (e1 : l1.length = n1) (e2 : l2.length = n2) (hd : dangerE w (movedSc s l1 l2) = dangerE w s) :
    VCall Tryd.prog 19 [vWn w, .agg [.slice o1 n1 k1, .slice o2 n2 k2, .slice h.a3 s.eyes.length h.c3, .slice h.a4 s.ears.length h.c4, .slice h.a5 s.sg.length h.c5].toArray].toArray H (fun o H' => ∃ v, o = .val v ∧ ∃ B, H' = B ++ H ∧ ∃ oa c, v = tup [.slice oa (dangerE w s).1.length c, I (dangerE w s).2] ∧ SlO B oa 1 encB (dangerE w s).1) := by
  subst e1; subst e2
  refine (d_Danger w (movedSH h o1 k1 o2 k2) (movedSc s l1 l2) H).mono fun o H' ⟨v, h1, B, h2, oa, c, h3, h4, h5⟩ => ⟨v, h1, B, h2, oa, c, ?_, ?_⟩
  · rw [h3, hd]
  · rw [hd] at h5; exact h5
section
open Classical in
theorem pm2A (X A B H : Heap) : (X ++ (A ++ (B ++ H))).Perm ((A ++ B) ++ (X ++ H)) := perm_of fun a => by simp only [List.count_append]; omega
theorem pm2B (X A B H N : Heap) : ((N ++ (A ++ B)) ++ (X ++ H)).Perm ((X ++ (A ++ (B ++ H))) ++ N) := perm_of fun a => by simp only [List.count_append]; omega
end
theorem snoc_flat {l : List Rg} {z : Rg} : (l ++ [z]).flatMap clR = l.flatMap clR ++ clR z := by simp

/-- paravane/paravanelaw06.middle -/
theorem c_middle (r : Rg) : VPure Tryd.prog 39 [vR r] (.bool (decide (midP r))) := by
  intro H
  refine vcall_of_vrun Tryd.func39 rfl (N := 25) rfl rfl ?_
  refine vseq ?_
  refine vregion ?_
  refine vone rfl (vxa (vbox rfl rfl) rfl rfl (fun b1 => ?_))
  refine vone rfl (vxq (vas rfl) rfl rfl ?_)
  refine vnil ?_
  refine vseq ?_
  refine vregion ?_
  refine vone rfl (vxq (vfa rfl) rfl rfl ?_)
  refine vone rfl (vxq (vfa rfl) rfl rfl ?_)
  refine vone rfl (vxq (vld1 rfl rfl) rfl rfl ?_)
  refine vone rfl (vxq (vgtr rfl rfl) rfl rfl ?_)
  refine vone rfl (vxq (vmv rfl) rfl rfl ?_)
  refine vsplitd (d := 7) rfl (fun h7 => ?_) (fun h7 => ?_)
  · skip
    refine vyes rfl rfl rfl (vxq (vfa rfl) rfl rfl ?_)
    refine vyes rfl rfl rfl (vxq (vfa rfl) rfl rfl ?_)
    refine vyes rfl rfl rfl (vxq (vld1 rfl rfl) rfl rfl ?_)
    refine vyes rfl rfl rfl (vxq (vlss rfl rfl) rfl rfl ?_)
    refine vone rfl (vxq (vpkt rfl rfl) rfl rfl ?_)
    refine vone rfl (vxq (vmv rfl) rfl rfl ?_)
    refine vsplitd (d := 13) rfl (fun h13 => ?_) (fun h13 => ?_)
    · skip
      refine vyes rfl rfl rfl (vxq (vfa rfl) rfl rfl ?_)
      refine vyes rfl rfl rfl (vxq (vfa rfl) rfl rfl ?_)
      refine vyes rfl rfl rfl (vxq (vld1 rfl rfl) rfl rfl ?_)
      refine vyes rfl rfl rfl (vxq (vgtr rfl rfl) rfl rfl ?_)
      refine vone rfl (vxq (vpkt rfl rfl) rfl rfl ?_)
      refine vone rfl (vxq (vmv rfl) rfl rfl ?_)
      refine vsplitd (d := 19) rfl (fun h19 => ?_) (fun h19 => ?_)
      · skip
        refine vyes rfl rfl rfl (vxq (vfa rfl) rfl rfl ?_)
        refine vyes rfl rfl rfl (vxq (vfa rfl) rfl rfl ?_)
        refine vyes rfl rfl rfl (vxq (vld1 rfl rfl) rfl rfl ?_)
        refine vyes rfl rfl rfl (vxq (vlss rfl rfl) rfl rfl ?_)
        refine vone rfl (vxq (vpkt rfl rfl) rfl rfl ?_)
        refine vone rfl (vxq (vas rfl) rfl rfl ?_)
        refine vnil ?_
        refine vret (vr1 (H' := H) Tryd.func39 rfl (.tmp rfl) sb ?_)
        first | exact ⟨obf (by unfold midP; omega), rfl⟩ | exact ⟨obd (by unfold midP; omega), rfl⟩ | exact ⟨obt (by unfold midP; omega), rfl⟩
      · skip
        refine vno rfl rfl rfl rfl rfl ?_
        refine vno rfl rfl rfl rfl rfl ?_
        refine vno rfl rfl rfl rfl rfl ?_
        refine vno rfl rfl rfl rfl rfl ?_
        refine vone rfl (vxq (vpkf rfl rfl) rfl rfl ?_)
        refine vone rfl (vxq (vas rfl) rfl rfl ?_)
        refine vnil ?_
        refine vret (vr1 (H' := H) Tryd.func39 rfl (.tmp rfl) sb ?_)
        first | exact ⟨obf (by unfold midP; omega), rfl⟩ | exact ⟨obd (by unfold midP; omega), rfl⟩ | exact ⟨obt (by unfold midP; omega), rfl⟩
    · skip
      refine vno rfl rfl rfl rfl rfl ?_
      refine vno rfl rfl rfl rfl rfl ?_
      refine vno rfl rfl rfl rfl rfl ?_
      refine vno rfl rfl rfl rfl rfl ?_
      refine vone rfl (vxq (vpkf rfl rfl) rfl rfl ?_)
      refine vone rfl (vxq (vmv rfl) rfl rfl ?_)
      refine vno rfl rfl rfl rfl rfl ?_
      refine vno rfl rfl rfl rfl rfl ?_
      refine vno rfl rfl rfl rfl rfl ?_
      refine vno rfl rfl rfl rfl rfl ?_
      refine vone rfl (vxq (vpkf rfl rfl) rfl rfl ?_)
      refine vone rfl (vxq (vas rfl) rfl rfl ?_)
      refine vnil ?_
      refine vret (vr1 (H' := H) Tryd.func39 rfl (.tmp rfl) sb ?_)
      first | exact ⟨obf (by unfold midP; omega), rfl⟩ | exact ⟨obd (by unfold midP; omega), rfl⟩ | exact ⟨obt (by unfold midP; omega), rfl⟩
  · skip
    refine vno rfl rfl rfl rfl rfl ?_
    refine vno rfl rfl rfl rfl rfl ?_
    refine vno rfl rfl rfl rfl rfl ?_
    refine vno rfl rfl rfl rfl rfl ?_
    refine vone rfl (vxq (vpkf rfl rfl) rfl rfl ?_)
    refine vone rfl (vxq (vmv rfl) rfl rfl ?_)
    refine vno rfl rfl rfl rfl rfl ?_
    refine vno rfl rfl rfl rfl rfl ?_
    refine vno rfl rfl rfl rfl rfl ?_
    refine vno rfl rfl rfl rfl rfl ?_
    refine vone rfl (vxq (vpkf rfl rfl) rfl rfl ?_)
    refine vone rfl (vxq (vmv rfl) rfl rfl ?_)
    refine vno rfl rfl rfl rfl rfl ?_
    refine vno rfl rfl rfl rfl rfl ?_
    refine vno rfl rfl rfl rfl rfl ?_
    refine vno rfl rfl rfl rfl rfl ?_
    refine vone rfl (vxq (vpkf rfl rfl) rfl rfl ?_)
    refine vone rfl (vxq (vas rfl) rfl rfl ?_)
    refine vnil ?_
    refine vret (vr1 (H' := H) Tryd.func39 rfl (.tmp rfl) sb ?_)
    first | exact ⟨obf (by unfold midP; omega), rfl⟩ | exact ⟨obd (by unfold midP; omega), rfl⟩ | exact ⟨obt (by unfold midP; omega), rfl⟩
def vMv (b : Pt) : Pt := ⟨restP b.x 10000 - 5000, restP b.y 10000 - 5000⟩
set_option maxHeartbeats 2000000 in
/-- paravane/paravanelaw06.WatchMoved -/
theorem w_Moved (w : Wn) (h : SH) (s : Sc) (q : Pt) (hqx : InR q.x) (hqy : InR q.y) (H : Heap) [hsc : ScO H h s] [hgl : Glob H] : VHas Tryd.prog 11 [vWn w, vSc h s, vP q] (.bool true) (H) (H) := by
  have hrx := rest_bd (n := q.x) (m := 10000) (by omega)
  have hry := rest_bd (n := q.y) (m := 10000) (by omega)
  refine vcall_of_vrun Tryd.func11 rfl (N := 150) rfl rfl ?_
  refine vseq ?_
  refine vregion ?_
  refine vone rfl (vxa (vbox rfl rfl) rfl rfl (fun b1 => ?_))
  refine vone rfl (vxa (vbox rfl rfl) rfl rfl (fun b2 => ?_))
  refine vone rfl (vxa (vbox rfl rfl) rfl rfl (fun b3 => ?_))
  refine vone rfl (vxq (vas rfl) rfl rfl ?_)
  refine vnil ?_
  refine vseq ?_
  refine vregion ?_
  refine vone rfl (vxq (vldn rfl rfl) rfl rfl ?_)
  refine vone rfl (vxq (vldn rfl rfl) rfl rfl ?_)
  refine vone rfl (vxg (vcg rfl rfl rfl (d_Danger w h s _) (fun o H' h => h)) rfl rfl ?_)
  rintro _ _ ⟨B1, rfl, ⟨oa1, c1, rfl, hle1, hk1⟩⟩
  refine vone rfl (vxq (vmv rfl) rfl rfl ?_)
  refine vone rfl (vxq (vex rfl rfl) rfl rfl ?_)
  refine vone rfl (vxq (vex rfl rfl) rfl rfl ?_)
  refine vone rfl (vxq (vas rfl) rfl rfl ?_)
  refine vone rfl (vxq (vas rfl) rfl rfl ?_)
  refine vnil ?_
  refine vseq ?_
  refine vseq ?_
  refine vregion ?_
  refine vone rfl (vxq (vmv rfl) rfl rfl ?_)
  refine vone rfl (vxq (veql rfl rfl) rfl rfl ?_)
  refine vone rfl (vxq (vmv rfl) rfl rfl ?_)
  refine vsplitd (d := 26) rfl (fun h26 => ?_) (fun h26 => ?_)
  · skip
    refine vno rfl rfl rfl rfl rfl ?_
    refine vno rfl rfl rfl rfl rfl ?_
    refine vone rfl (vxq (vpkt rfl rfl) rfl rfl ?_)
    refine vnil ?_
    refine vcondt rfl ?_
    refine vseq ?_
    refine vregion ?_
    refine vone rfl (vxq (vmv rfl) rfl rfl ?_)
    refine vone rfl (vxq (vlen rfl) rfl rfl ?_)
    refine vone rfl (vxq (veql rfl rfl) rfl rfl ?_)
    refine vknow (d := 32) (b' := true) rfl (decide_eq_true (by rw [danger_no (by omega)]; rfl)) ?_
    refine vone rfl (vxq (vmv rfl) rfl rfl ?_)
    refine vyes rfl rfl rfl (vxq (vcq rfl rfl rfl (c_works _)) rfl rfl ?_)
    refine vknow (d := 34) (b' := true) rfl rfl ?_
    refine vone rfl (vxq (vpkt rfl rfl) rfl rfl ?_)
    refine vone rfl (vxq (vas rfl) rfl rfl ?_)
    refine vnil ?_
    refine vret (vr1 (H' := H) Tryd.func11 rfl (.tmp rfl) sb2 ?_)
    exact ⟨rfl, rfl⟩
  · skip
    refine vyes rfl rfl rfl (vxq (vmv rfl) rfl rfl ?_)
    refine vyes rfl rfl rfl (vxq (veql rfl rfl) rfl rfl ?_)
    refine vone rfl (vxq (vpkf rfl rfl) rfl rfl ?_)
    refine vnil ?_
    refine vcondd rfl (fun h29 => ?_) (fun h29 => ?_)
    · skip
      refine vseq ?_
      refine vregion ?_
      refine vone rfl (vxq (vmv rfl) rfl rfl ?_)
      refine vone rfl (vxq (vlen rfl) rfl rfl ?_)
      refine vone rfl (vxq (veql rfl rfl) rfl rfl ?_)
      refine vknow (d := 32) (b' := true) rfl (decide_eq_true (by rw [danger_no (by omega)]; rfl)) ?_
      refine vone rfl (vxq (vmv rfl) rfl rfl ?_)
      refine vyes rfl rfl rfl (vxq (vcq rfl rfl rfl (c_works _)) rfl rfl ?_)
      refine vknow (d := 34) (b' := true) rfl rfl ?_
      refine vone rfl (vxq (vpkt rfl rfl) rfl rfl ?_)
      refine vone rfl (vxq (vas rfl) rfl rfl ?_)
      refine vnil ?_
      refine vret (vr1 (H' := H) Tryd.func11 rfl (.tmp rfl) sb2 ?_)
      exact ⟨rfl, rfl⟩
    · skip
      obtain ⟨hw, hs0⟩ := danger_6061 (by omega) (by omega)
      have h64 := hs0.1.2
      have hse := hs0.2.1
      refine vskip ?_
      refine vseq ?_
      refine vdraw [(.q, 0), (.q, 1), (.q, 2), (.q, 3), (.q, 4), (.q, 5), (.q, 6), (.q, 7), (.q, 8), (.a (blk [.int .i64 0, .int .i64 0] 73), 9), (.s, 10)] Tryd.mixed (by kernel_rfl) ⟨⟨_, _, _, _, _, rfl, _, inferInstance, rfl⟩, True.intro⟩ ?_
      refine vdq (mone rfl) (vfa rfl) rfl rfl ?_
      refine vdq (mone rfl) (vld1 rfl rfl) rfl rfl ?_
      refine vdq (mone rfl) (vcp rfl rfl rfl (c_Rest _ _ hqx (by unfold InR; omega))) rfl rfl ?_
      refine vdq (mone rfl) (vsub rfl rfl (by unfold InR; omega)) rfl rfl ?_
      refine vdq (mone rfl) (vfa rfl) rfl rfl ?_
      refine vdq (mone rfl) (vld1 rfl rfl) rfl rfl ?_
      refine vdq (mone rfl) (vcp rfl rfl rfl (c_Rest _ _ hqy (by unfold InR; omega))) rfl rfl ?_
      refine vdq (mone rfl) (vsub rfl rfl (by unfold InR; omega)) rfl rfl ?_
      refine vdq (mone rfl) (vbd rfl rfl) rfl rfl ?_
      refine vda rfl rfl (fun b4 => ?_)
      refine vds (mone rfl) (vstn rfl rfl rfl rfl rfl) rfl ?_
      refine vdend rfl ?_
      refine vseq ?_
      refine vregion ?_
      refine vone rfl (vxq (vfa rfl) rfl rfl ?_)
      refine vone rfl (vxq (vld1 rfl rfl) rfl rfl ?_)
      refine vone rfl (vxq (vfa rfl) rfl rfl ?_)
      refine vone rfl (vxq (vld1 rfl rfl) rfl rfl ?_)
      refine vone rfl (vxq (vfa rfl) rfl rfl ?_)
      refine vone rfl (vxq (vld1 rfl rfl) rfl rfl ?_)
      refine vone rfl (vxq (vbd rfl rfl) rfl rfl ?_)
      refine vone rfl (vxa valloc rfl rfl (fun b5 => ?_))
      refine vone rfl (vxs (vstn rfl rfl rfl rfl rfl) rfl ?_)
      refine vnil ?_
      refine vseq ?_
      refine vseq ?_
      refine vregion ?_
      refine vone rfl (vxq (vas rfl) rfl rfl ?_)
      refine vnil ?_
      refine vblock ?_
      refine vwhile (σ := Nat × Option Addr × Nat × Option Addr × Nat × Heap × Heap × List Rg × List Rg) (fun ⟨t, o1, k1, o2, k2, C1, C2, l1, l2⟩ => s.ship.length - t) (fun ⟨t, o1, k1, o2, k2, C1, C2, l1, l2⟩ => [(3, ptr b1), (4, ptr b2), (7, .slice oa1 (dangerE w s).1.length c1), (8, I (dangerE w s).2), (9, ptr b4), (10, ptr b5), (11, I (t : Int))]) (fun ⟨t, o1, k1, o2, k2, C1, C2, l1, l2⟩ => (b5, blk [.slice o1 t k1, .slice o2 t k2, .slice h.a3 s.eyes.length h.c3, .slice h.a4 s.ears.length h.c4, .slice h.a5 s.sg.length h.c5] 33) :: (b4, blk (encP (vMv q)) 73) :: (C1 ++ (C2 ++ (B1 ++ ((b3, blk (encP q) 73) :: (b2, blk (clSc h s) 33) :: (b1, blk (clWn w) 23) :: H))))) (fun ⟨t, o1, k1, o2, k2, C1, C2, l1, l2⟩ => (t ≤ s.ship.length ∧ l1.length = t ∧ l2.length = t) ∧ OwnS 55 8 (.slice o1 t k1) t (l1.flatMap clR) C1 ∧ OwnS 55 8 (.slice o2 t k2) t (l2.flatMap clR) C2 ∧ mvAll (vMv q) s.ship l1 ∧ mvAll (vMv q) s.src l2) (0, Option.none, 0, Option.none, 0, [], [], [], []) ⟨⟨by omega, rfl, rfl⟩, OwnS.nil, OwnS.nil, mvAll_nil _ _, mvAll_nil _ _⟩ ⟨rfl, rfl, rfl, rfl, rfl, rfl, rfl, True.intro⟩ sb ?_
      rintro ⟨t, o1, k1, o2, k2, C1, C2, l1, l2⟩ ⟨⟨ht, hl1, hl2⟩, hO1, hO2, hmv1, hmv2⟩ IH
      change VRun _ _ _ _ _ [(3, ptr b1), (4, ptr b2), (7, .slice oa1 (dangerE w s).1.length c1), (8, I (dangerE w s).2), (9, ptr b4), (10, ptr b5), (11, I (t : Int))] _ ((b5, blk [.slice o1 t k1, .slice o2 t k2, .slice h.a3 s.eyes.length h.c3, .slice h.a4 s.ears.length h.c4, .slice h.a5 s.sg.length h.c5] 33) :: (b4, blk (encP (vMv q)) 73) :: (C1 ++ (C2 ++ (B1 ++ ((b3, blk (encP q) 73) :: (b2, blk (clSc h s) 33) :: (b1, blk (clWn w) 23) :: H))))) _
      refine vseq ?_
      refine vseq ?_
      refine vregion ?_
      refine vone rfl (vxq (vmv rfl) rfl rfl ?_)
      refine vone rfl (vxq (vfa rfl) rfl rfl ?_)
      refine vone rfl (vxq (vld1 rfl rfl) rfl rfl ?_)
      refine vone rfl (vxq (vlen rfl) rfl rfl ?_)
      refine vone rfl (vxq (vlss rfl rfl) rfl rfl ?_)
      refine vone rfl (vxq (vmv rfl) rfl rfl ?_)
      refine vsplitd (d := 57) rfl (fun h57 => ?_) (fun h57 => ?_)
      · skip
        refine vyes rfl rfl rfl (vxq (vmv rfl) rfl rfl ?_)
        refine vyes rfl rfl rfl (vxq (vfa rfl) rfl rfl ?_)
        refine vyes rfl rfl rfl (vxq (vld1 rfl rfl) rfl rfl ?_)
        refine vyes rfl rfl rfl (vxq (vlen rfl) rfl rfl ?_)
        refine vyes rfl rfl rfl (vxq (vlss rfl rfl) rfl rfl ?_)
        refine vone rfl (vxq (vpkt rfl rfl) rfl rfl ?_)
        refine vnil ?_
        refine vcondd rfl (fun h63 => ?_) (fun h63 => ?_)
        · skip
          obtain ⟨r1, hr1⟩ := get_of_lt s.ship (i := t) (by omega)
          obtain ⟨r2, hr2⟩ := get_of_lt s.src (i := t) (by omega)
          refine vskip ?_
          refine vseq ?_
          refine vblock ?_
          refine vseq ?_
          refine vdraw [(.q, 0), (.q, 1), (.q, 2), (.q, 3), (.q, 4), (.q, 5), (.q, 6), (.q, 7), (.q, 8), (.q, 9), (.a (blk [.int .i64 0, .int .i64 0, .int .i64 0, .int .i64 0, .int .i64 0, .int .i64 0, .int .i64 0, .int .i64 0] 55), 10), (.s, 11), (.q, 12)] Tryd.mixed (by kernel_rfl) ⟨⟨_, _, _, _, _, rfl, _, inferInstance, rfl⟩, True.intro⟩ ?_
          refine vdq (mone rfl) (vfa rfl) rfl rfl ?_
          refine vdq (mone rfl) (vld1 rfl rfl) rfl rfl ?_
          refine vdq (mone rfl) (vmv rfl) rfl rfl ?_
          refine vdq (mone rfl) (visg (enc := clR) rfl rfl (by omega) (z := r1) hr1) rfl rfl ?_
          refine vdq (mone rfl) (vldS (enc := clR) rfl (z := r1) hr1) rfl rfl ?_
          refine vdq (mone rfl) (vldn rfl rfl) rfl rfl ?_
          refine vdq (mone rfl) (vcp rfl rfl rfl (c_Move r1 (vMv q))) rfl rfl ?_
          refine vdq (mone rfl) (vmv rfl) rfl rfl ?_
          refine vdq (mone rfl) (vex rfl rfl) rfl rfl ?_
          refine vdq (mone rfl) (vex rfl rfl) rfl rfl ?_
          refine vda rfl rfl (fun b6 => ?_)
          refine vds (mone rfl) (vstn rfl rfl rfl rfl rfl) rfl ?_
          refine vdq (mone rfl) (vas rfl) rfl rfl ?_
          refine vdend rfl ?_
          refine vseq ?_
          refine vdraw [(.q, 0), (.q, 1), (.q, 2), (.q, 3), (.q, 4), (.q, 5), (.q, 6), (.q, 7), (.q, 8), (.q, 9), (.a (blk [.int .i64 0, .int .i64 0, .int .i64 0, .int .i64 0, .int .i64 0, .int .i64 0, .int .i64 0, .int .i64 0] 55), 10), (.s, 11), (.q, 12)] Tryd.mixed (by kernel_rfl) ⟨⟨_, _, _, _, _, rfl, _, inferInstance, rfl⟩, True.intro⟩ ?_
          refine vdq (mone rfl) (vfa rfl) rfl rfl ?_
          refine vdq (mone rfl) (vld1 rfl rfl) rfl rfl ?_
          refine vdq (mone rfl) (vmv rfl) rfl rfl ?_
          refine vdq (mone rfl) (visg (enc := clR) rfl rfl (by omega) (z := r2) hr2) rfl rfl ?_
          refine vdq (mone rfl) (vldS (enc := clR) rfl (z := r2) hr2) rfl rfl ?_
          refine vdq (mone rfl) (vldn rfl rfl) rfl rfl ?_
          refine vdq (mone rfl) (vcp rfl rfl rfl (c_Move r2 (vMv q))) rfl rfl ?_
          refine vdq (mone rfl) (vmv rfl) rfl rfl ?_
          refine vdq (mone rfl) (vex rfl rfl) rfl rfl ?_
          refine vdq (mone rfl) (vex rfl rfl) rfl rfl ?_
          refine vda rfl rfl (fun b7 => ?_)
          refine vds (mone rfl) (vstn rfl rfl rfl rfl rfl) rfl ?_
          refine vdq (mone rfl) (vas rfl) rfl rfl ?_
          refine vdend rfl ?_
          refine vseq ?_
          refine vseq ?_
          refine vregion ?_
          refine vone rfl (vxq (vmv rfl) rfl rfl ?_)
          refine vone rfl (vxq (vneq rfl rfl) rfl rfl ?_)
          refine vone rfl (vxq (vmv rfl) rfl rfl ?_)
          refine vsplitd (d := 88) rfl (fun h88 => ?_) (fun h88 => ?_)
          · skip
            refine vno rfl rfl rfl rfl rfl ?_
            refine vno rfl rfl rfl rfl rfl ?_
            refine vone rfl (vxq (vpkt rfl rfl) rfl rfl ?_)
            refine vone rfl (vxq (vmv rfl) rfl rfl ?_)
            refine vno rfl rfl rfl rfl rfl ?_
            refine vno rfl rfl rfl rfl rfl ?_
            refine vno rfl rfl rfl rfl rfl ?_
            refine vno rfl rfl rfl rfl rfl ?_
            refine vno rfl rfl rfl rfl rfl ?_
            refine vno rfl rfl rfl rfl rfl ?_
            refine vno rfl rfl rfl rfl rfl ?_
            refine vone rfl (vxq (vpkt rfl rfl) rfl rfl ?_)
            refine vone rfl (vxq (vmv rfl) rfl rfl ?_)
            refine vno rfl rfl rfl rfl rfl ?_
            refine vno rfl rfl rfl rfl rfl ?_
            refine vno rfl rfl rfl rfl rfl ?_
            refine vno rfl rfl rfl rfl rfl ?_
            refine vno rfl rfl rfl rfl rfl ?_
            refine vno rfl rfl rfl rfl rfl ?_
            refine vno rfl rfl rfl rfl rfl ?_
            refine vone rfl (vxq (vpkt rfl rfl) rfl rfl ?_)
            refine vone rfl (vxq (vmv rfl) rfl rfl ?_)
            refine vno rfl rfl rfl rfl rfl ?_
            refine vno rfl rfl rfl rfl rfl ?_
            refine vno rfl rfl rfl rfl rfl ?_
            refine vone rfl (vxq (vpkt rfl rfl) rfl rfl ?_)
            refine vone rfl (vxq (vmv rfl) rfl rfl ?_)
            refine vno rfl rfl rfl rfl rfl ?_
            refine vno rfl rfl rfl rfl rfl ?_
            refine vno rfl rfl rfl rfl rfl ?_
            refine vone rfl (vxq (vpkt rfl rfl) rfl rfl ?_)
            refine vnil ?_
            refine vcondt rfl ?_
            refine vseq ?_
            refine vregion ?_
            refine vone rfl (vxq (vcq rfl rfl rfl (c_works _)) rfl rfl ?_)
            refine vknow (d := 120) (b' := true) rfl rfl ?_
            refine vone rfl (vxq (vas rfl) rfl rfl ?_)
            refine vnil ?_
            refine vret (vr1 (H' := H) Tryd.func11 rfl (.tmp rfl) sb2 ?_)
            exact ⟨rfl, rfl⟩
          · skip
            refine vyes rfl rfl rfl (vxq (vmv rfl) rfl rfl ?_)
            refine vyes rfl rfl rfl (vxq (vneq rfl rfl) rfl rfl ?_)
            refine vone rfl (vxq (vpkf rfl rfl) rfl rfl ?_)
            refine vone rfl (vxq (vmv rfl) rfl rfl ?_)
            refine vsplitd (d := 92) rfl (fun h92 => ?_) (fun h92 => ?_)
            · skip
              refine vno rfl rfl rfl rfl rfl ?_
              refine vno rfl rfl rfl rfl rfl ?_
              refine vno rfl rfl rfl rfl rfl ?_
              refine vno rfl rfl rfl rfl rfl ?_
              refine vno rfl rfl rfl rfl rfl ?_
              refine vno rfl rfl rfl rfl rfl ?_
              refine vno rfl rfl rfl rfl rfl ?_
              refine vone rfl (vxq (vpkt rfl rfl) rfl rfl ?_)
              refine vone rfl (vxq (vmv rfl) rfl rfl ?_)
              refine vno rfl rfl rfl rfl rfl ?_
              refine vno rfl rfl rfl rfl rfl ?_
              refine vno rfl rfl rfl rfl rfl ?_
              refine vno rfl rfl rfl rfl rfl ?_
              refine vno rfl rfl rfl rfl rfl ?_
              refine vno rfl rfl rfl rfl rfl ?_
              refine vno rfl rfl rfl rfl rfl ?_
              refine vone rfl (vxq (vpkt rfl rfl) rfl rfl ?_)
              refine vone rfl (vxq (vmv rfl) rfl rfl ?_)
              refine vno rfl rfl rfl rfl rfl ?_
              refine vno rfl rfl rfl rfl rfl ?_
              refine vno rfl rfl rfl rfl rfl ?_
              refine vone rfl (vxq (vpkt rfl rfl) rfl rfl ?_)
              refine vone rfl (vxq (vmv rfl) rfl rfl ?_)
              refine vno rfl rfl rfl rfl rfl ?_
              refine vno rfl rfl rfl rfl rfl ?_
              refine vno rfl rfl rfl rfl rfl ?_
              refine vone rfl (vxq (vpkt rfl rfl) rfl rfl ?_)
              refine vnil ?_
              refine vcondt rfl ?_
              refine vseq ?_
              refine vregion ?_
              refine vone rfl (vxq (vcq rfl rfl rfl (c_works _)) rfl rfl ?_)
              refine vknow (d := 120) (b' := true) rfl rfl ?_
              refine vone rfl (vxq (vas rfl) rfl rfl ?_)
              refine vnil ?_
              refine vret (vr1 (H' := H) Tryd.func11 rfl (.tmp rfl) sb2 ?_)
              exact ⟨rfl, rfl⟩
            · skip
              refine vyes rfl rfl rfl (vxq (vfa rfl) rfl rfl ?_)
              refine vyes rfl rfl rfl (vxq (vld1 rfl rfl) rfl rfl ?_)
              refine vyes rfl rfl rfl (vxq (vmv rfl) rfl rfl ?_)
              refine vyes rfl rfl rfl (vxq (visg (enc := clR) rfl rfl (by omega) (z := r1) hr1) rfl rfl ?_)
              refine vyes rfl rfl rfl (vxq (vldS (enc := clR) rfl (z := r1) hr1) rfl rfl ?_)
              refine vyes rfl rfl rfl (vxq (vcp rfl rfl rfl (c_middle r1)) rfl rfl ?_)
              refine vyes rfl rfl rfl (vxq (vnotd rfl) rfl rfl ?_)
              refine vone rfl (vxq (vpkf rfl rfl) rfl rfl ?_)
              refine vone rfl (vxq (vmv rfl) rfl rfl ?_)
              refine vsplitd (d := 101) rfl (fun h101 => ?_) (fun h101 => ?_)
              · skip
                refine vno rfl rfl rfl rfl rfl ?_
                refine vno rfl rfl rfl rfl rfl ?_
                refine vno rfl rfl rfl rfl rfl ?_
                refine vno rfl rfl rfl rfl rfl ?_
                refine vno rfl rfl rfl rfl rfl ?_
                refine vno rfl rfl rfl rfl rfl ?_
                refine vno rfl rfl rfl rfl rfl ?_
                refine vone rfl (vxq (vpkt rfl rfl) rfl rfl ?_)
                refine vone rfl (vxq (vmv rfl) rfl rfl ?_)
                refine vno rfl rfl rfl rfl rfl ?_
                refine vno rfl rfl rfl rfl rfl ?_
                refine vno rfl rfl rfl rfl rfl ?_
                refine vone rfl (vxq (vpkt rfl rfl) rfl rfl ?_)
                refine vone rfl (vxq (vmv rfl) rfl rfl ?_)
                refine vno rfl rfl rfl rfl rfl ?_
                refine vno rfl rfl rfl rfl rfl ?_
                refine vno rfl rfl rfl rfl rfl ?_
                refine vone rfl (vxq (vpkt rfl rfl) rfl rfl ?_)
                refine vnil ?_
                refine vcondt rfl ?_
                refine vseq ?_
                refine vregion ?_
                refine vone rfl (vxq (vcq rfl rfl rfl (c_works _)) rfl rfl ?_)
                refine vknow (d := 120) (b' := true) rfl rfl ?_
                refine vone rfl (vxq (vas rfl) rfl rfl ?_)
                refine vnil ?_
                refine vret (vr1 (H' := H) Tryd.func11 rfl (.tmp rfl) sb2 ?_)
                exact ⟨rfl, rfl⟩
              · skip
                refine vyes rfl rfl rfl (vxq (vfa rfl) rfl rfl ?_)
                refine vyes rfl rfl rfl (vxq (vld1 rfl rfl) rfl rfl ?_)
                refine vyes rfl rfl rfl (vxq (vmv rfl) rfl rfl ?_)
                refine vyes rfl rfl rfl (vxq (visg (enc := clR) rfl rfl (by omega) (z := r2) hr2) rfl rfl ?_)
                refine vyes rfl rfl rfl (vxq (vldS (enc := clR) rfl (z := r2) hr2) rfl rfl ?_)
                refine vyes rfl rfl rfl (vxq (vcp rfl rfl rfl (c_middle r2)) rfl rfl ?_)
                refine vyes rfl rfl rfl (vxq (vnotd rfl) rfl rfl ?_)
                refine vone rfl (vxq (vpkf rfl rfl) rfl rfl ?_)
                refine vone rfl (vxq (vmv rfl) rfl rfl ?_)
                refine vsplitd (d := 110) rfl (fun h110 => ?_) (fun h110 => ?_)
                · skip
                  refine vno rfl rfl rfl rfl rfl ?_
                  refine vno rfl rfl rfl rfl rfl ?_
                  refine vno rfl rfl rfl rfl rfl ?_
                  refine vone rfl (vxq (vpkt rfl rfl) rfl rfl ?_)
                  refine vone rfl (vxq (vmv rfl) rfl rfl ?_)
                  refine vno rfl rfl rfl rfl rfl ?_
                  refine vno rfl rfl rfl rfl rfl ?_
                  refine vno rfl rfl rfl rfl rfl ?_
                  refine vone rfl (vxq (vpkt rfl rfl) rfl rfl ?_)
                  refine vnil ?_
                  refine vcondt rfl ?_
                  refine vseq ?_
                  refine vregion ?_
                  refine vone rfl (vxq (vcq rfl rfl rfl (c_works _)) rfl rfl ?_)
                  refine vknow (d := 120) (b' := true) rfl rfl ?_
                  refine vone rfl (vxq (vas rfl) rfl rfl ?_)
                  refine vnil ?_
                  refine vret (vr1 (H' := H) Tryd.func11 rfl (.tmp rfl) sb2 ?_)
                  exact ⟨rfl, rfl⟩
                · skip
                  refine vyes rfl rfl rfl (vxq (vldn rfl rfl) rfl rfl ?_)
                  refine vyes rfl rfl rfl (vxq (vcp rfl rfl rfl (c_middle (moveE r1 (vMv q)).1)) rfl rfl ?_)
                  refine vyes rfl rfl rfl (vxq (vnotd rfl) rfl rfl ?_)
                  refine vone rfl (vxq (vpkf rfl rfl) rfl rfl ?_)
                  refine vone rfl (vxq (vmv rfl) rfl rfl ?_)
                  refine vsplitd (d := 115) rfl (fun h115 => ?_) (fun h115 => ?_)
                  · skip
                    refine vno rfl rfl rfl rfl rfl ?_
                    refine vno rfl rfl rfl rfl rfl ?_
                    refine vno rfl rfl rfl rfl rfl ?_
                    refine vone rfl (vxq (vpkt rfl rfl) rfl rfl ?_)
                    refine vnil ?_
                    refine vcondt rfl ?_
                    refine vseq ?_
                    refine vregion ?_
                    refine vone rfl (vxq (vcq rfl rfl rfl (c_works _)) rfl rfl ?_)
                    refine vknow (d := 120) (b' := true) rfl rfl ?_
                    refine vone rfl (vxq (vas rfl) rfl rfl ?_)
                    refine vnil ?_
                    refine vret (vr1 (H' := H) Tryd.func11 rfl (.tmp rfl) sb2 ?_)
                    exact ⟨rfl, rfl⟩
                  · skip
                    refine vyes rfl rfl rfl (vxq (vldn rfl rfl) rfl rfl ?_)
                    refine vyes rfl rfl rfl (vxq (vcp rfl rfl rfl (c_middle (moveE r2 (vMv q)).1)) rfl rfl ?_)
                    refine vyes rfl rfl rfl (vxq (vnotd rfl) rfl rfl ?_)
                    refine vone rfl (vxq (vpkf rfl rfl) rfl rfl ?_)
                    refine vnil ?_
                    refine vcondd rfl (fun h119 => ?_) (fun h119 => ?_)
                    · skip
                      refine vseq ?_
                      refine vregion ?_
                      refine vone rfl (vxq (vcq rfl rfl rfl (c_works _)) rfl rfl ?_)
                      refine vknow (d := 120) (b' := true) rfl rfl ?_
                      refine vone rfl (vxq (vas rfl) rfl rfl ?_)
                      refine vnil ?_
                      refine vret (vr1 (H' := H) Tryd.func11 rfl (.tmp rfl) sb2 ?_)
                      exact ⟨rfl, rfl⟩
                    · skip
                      have hm1 := mvd_of (hs0.2.2.2.2.2.1 r1 (List.mem_of_getElem? hr1)) (Prod.ext rfl (Classical.not_not.1 h88)) (middle_of (Classical.not_not.1 h101)) (middle_of (Classical.not_not.1 h115))
                      have hm2 := mvd_of (hs0.2.2.2.2.2.2.1 r2 (List.mem_of_getElem? hr2)) (Prod.ext rfl (Classical.not_not.1 h92)) (middle_of (Classical.not_not.1 h110)) (middle_of (Classical.not_not.1 h119))
                      refine vskip ?_
                      refine vdrawP (G0 := (C1 ++ C2)) (H0 := (b7, blk (clR (moveE r2 (vMv q)).1) 55) :: (b6, blk (clR (moveE r1 (vMv q)).1) 55) :: (b5, blk [.slice o1 t k1, .slice o2 t k2, .slice h.a3 s.eyes.length h.c3, .slice h.a4 s.ears.length h.c4, .slice h.a5 s.sg.length h.c5] 33) :: (b4, blk (encP (vMv q)) 73) :: (B1 ++ ((b3, blk (encP q) 73) :: (b2, blk (clSc h s) 33) :: (b1, blk (clWn w) 23) :: H))) (pm2A [(b7, blk (clR (moveE r2 (vMv q)).1) 55), (b6, blk (clR (moveE r1 (vMv q)).1) 55), (b5, blk [.slice o1 t k1, .slice o2 t k2, .slice h.a3 s.eyes.length h.c3, .slice h.a4 s.ears.length h.c4, .slice h.a5 s.sg.length h.c5] 33), (b4, blk (encP (vMv q)) 73)] C1 C2 (B1 ++ ((b3, blk (encP q) 73) :: (b2, blk (clSc h s) 33) :: (b1, blk (clWn w) 23) :: H))) [(.q, 0), (.q, 1), (.q, 2), (.q, 5), (.q, 6), (.q, 7), (.m, 3), (.s, 4), (.q, 10), (.m, 8), (.s, 9), (.c, 11), (.q, 12), (.c, 13)] Tryd.mixed (by kernel_rfl) (allocOk_of _ (by kernel_rfl)) ?_
                      refine vdq (mone rfl) (vfa rfl) rfl rfl ?_
                      refine vdq (mone rfl) (vld1 rfl rfl) rfl rfl ?_
                      refine vdq (mone rfl) (vldn rfl rfl) rfl rfl ?_
                      refine vdq (mone rfl) (vfa rfl) rfl rfl ?_
                      refine vdq (mone rfl) (vld1 rfl rfl) rfl rfl ?_
                      refine vdq (mone rfl) (vldn rfl rfl) rfl rfl ?_
                      refine vdm (mone rfl) (vbsP rfl rfl rfl rfl rfl rfl) rfl rfl (fun n1 => ?_)
                      refine vdsd (mone rfl) (vappF (a := ⟨n1, 0, Option.none⟩) (m := 1) (c := 1) (size := 8) (bytes := 64) (F := fun X => (n1, blk (clR (moveE r1 (vMv q)).1) 55) :: (X ++ C2)) (B := C1) (xs := l1.flatMap clR) (news := clR (moveE r1 (vMv q)).1) (fun X => perm_mid [(n1, blk (clR (moveE r1 (vMv q)).1) 55)] X C2) rfl rfl hO1 rfl (news_blk (b := n1) (List.Mem.head _)) (one1 (enc := clR) (fun _ => rfl) [(moveE r1 (vMv q)).1] _ (by simp)) (by omega) (by simp only [maxLen]; omega) (by omega)) rfl rfl ?_
                      rintro _ _ ⟨D1, hP1, _, rfl⟩
                      obtain ⟨p1, q1, rfl, _⟩ := hP1.shape
                      refine vdq (mone rfl) (vfa rfl) rfl rfl ?_
                      refine vdm (mone rfl) (vbsP rfl rfl rfl rfl rfl rfl) rfl rfl (fun n2 => ?_)
                      refine vdsd (mone rfl) (vappF (a := ⟨n2, 0, Option.none⟩) (m := 1) (c := 1) (size := 8) (bytes := 64) (F := fun X => (n2, blk (clR (moveE r2 (vMv q)).1) 55) :: (n1, blk (clR (moveE r1 (vMv q)).1) 55) :: (D1 ++ X)) (B := C2) (xs := l2.flatMap clR) (news := clR (moveE r2 (vMv q)).1) (fun X => List.perm_append_comm (l₁ := (n2, blk (clR (moveE r2 (vMv q)).1) 55) :: (n1, blk (clR (moveE r1 (vMv q)).1) 55) :: D1) (l₂ := X)) rfl rfl hO2 rfl (news_blk (b := n2) (List.Mem.head _)) (one1 (enc := clR) (fun _ => rfl) [(moveE r2 (vMv q)).1] _ (by simp)) (by omega) (by simp only [maxLen]; omega) (by omega)) rfl rfl ?_
                      rintro _ _ ⟨D2, hP2, _, rfl⟩
                      obtain ⟨p2, q2, rfl, _⟩ := hP2.shape
                      refine vdcs (mone rfl) (vst1 rfl rfl rfl rfl) rfl ?_
                      refine vdq (mone rfl) (vfa rfl) rfl rfl ?_
                      refine vdcs (mone rfl) (vst1 rfl rfl rfl rfl) rfl ?_
                      refine vdend (appHO_of _ _) ?_
                      refine vinblock ?_
                      refine vregion ?_
                      refine vone rfl (vxq (vmv rfl) rfl rfl ?_)
                      refine vone rfl (vxq (vadd rfl rfl (by unfold InR; omega)) rfl rfl ?_)
                      refine vone rfl (vxq (vas rfl) rfl rfl ?_)
                      refine vnil ?_
                      refine VRun.perm (H' := ((b7, blk (clR (moveE r2 (vMv q)).1) 55) :: (b6, blk (clR (moveE r1 (vMv q)).1) 55) :: (b5, blk [.slice p1 (t + 1) q1, .slice p2 (t + 1) q2, .slice h.a3 s.eyes.length h.c3, .slice h.a4 s.ears.length h.c4, .slice h.a5 s.sg.length h.c5] 33) :: (b4, blk (encP (vMv q)) 73) :: (D1 ++ (D2 ++ (B1 ++ ((b3, blk (encP q) 73) :: (b2, blk (clSc h s) 33) :: (b1, blk (clWn w) 23) :: H))))) ++ [(n2, blk (clR (moveE r2 (vMv q)).1) 55), (n1, blk (clR (moveE r1 (vMv q)).1) 55)]) (pm2B [(b7, blk (clR (moveE r2 (vMv q)).1) 55), (b6, blk (clR (moveE r1 (vMv q)).1) 55), (b5, blk [.slice p1 (t + 1) q1, .slice p2 (t + 1) q2, .slice h.a3 s.eyes.length h.c3, .slice h.a4 s.ears.length h.c4, .slice h.a5 s.sg.length h.c5] 33), (b4, blk (encP (vMv q)) 73)] D1 D2 (B1 ++ ((b3, blk (encP q) 73) :: (b2, blk (clSc h s) 33) :: (b1, blk (clWn w) 23) :: H)) [(n2, blk (clR (moveE r2 (vMv q)).1) 55), (n1, blk (clR (moveE r1 (vMv q)).1) 55)]) ?_
                      refine VRun.sub (List.sublist_append_left _ _) ?_
                      exact vback (IH (t + 1, p1, q1, p2, q2, D1, D2, l1 ++ [(moveE r1 (vMv q)).1], l2 ++ [(moveE r2 (vMv q)).1]) ⟨⟨by omega, by simp [hl1], by simp [hl2]⟩, by rw [snoc_flat]; exact hP1, by rw [snoc_flat]; exact hP2, mvAll_snoc hmv1 (by rw [hl1]; exact hr1) hm1, mvAll_snoc hmv2 (by rw [hl2]; exact hr2) hm2⟩ (by show _ - (t + 1) < _ - t; omega)) ⟨rfl, rfl, rfl, rfl, rfl, rfl, rfl, True.intro⟩ sb2
        · skip
          refine vexit (k' := _) rfl ?_
          refine vseq ?_
          refine vregion ?_
          refine vone rfl (vxq (vldn rfl rfl) rfl rfl ?_)
          refine vone rfl (vxq (vldn rfl rfl) rfl rfl ?_)
          refine vone rfl (vxg (vcg rfl rfl rfl (d_DangerM ((mov_sc (h := h) (s := s) inferInstance hO1 hO2 hl1 hl2 (by omega)).sub (fun e he => List.mem_cons_of_mem _ (List.mem_cons_of_mem _ he))) inferInstance hl1 hl2 (moved_danger (moved_sc hs0 hmv1 hmv2 (by omega) (by omega)) hw hs0)) (fun o H' h => h)) rfl rfl ?_)
          rintro _ _ ⟨B2, rfl, ⟨oa2, c2, rfl, hk2⟩⟩
          refine vone rfl (vxq (vmv rfl) rfl rfl ?_)
          refine vone rfl (vxq (vex rfl rfl) rfl rfl ?_)
          refine vone rfl (vxq (vex rfl rfl) rfl rfl ?_)
          refine vone rfl (vxq (vas rfl) rfl rfl ?_)
          refine vone rfl (vxq (vas rfl) rfl rfl ?_)
          refine vnil ?_
          refine vseq ?_
          refine vregion ?_
          refine vone rfl (vxq (vmv rfl) rfl rfl ?_)
          refine vone rfl (vxq (vmv rfl) rfl rfl ?_)
          refine vone rfl (vxq (veql rfl rfl) rfl rfl ?_)
          refine vknow (d := 141) (b' := true) rfl (decide_eq_true (rfl)) ?_
          refine vone rfl (vxq (vmv rfl) rfl rfl ?_)
          refine vyes rfl rfl rfl (vxq (vmv rfl) rfl rfl ?_)
          refine vyes rfl rfl rfl (vxq (vmv rfl) rfl rfl ?_)
          refine vyes rfl rfl rfl (vxq (vcq rfl rfl rfl (c_AlikeB (dangerE w s).1 (dangerE w s).1 oa1 oa2 (dangerE w s).1.length (dangerE w s).1.length c1 c2 rfl rfl (by have := danger_len w s; omega) _)) rfl rfl ?_)
          refine vknow (d := 145) (b' := true) rfl (decide_eq_true (rfl)) ?_
          refine vone rfl (vxq (vpkt rfl rfl) rfl rfl ?_)
          refine vone rfl (vxq (vmv rfl) rfl rfl ?_)
          refine vyes rfl rfl rfl (vxq (vcq rfl rfl rfl (c_works _)) rfl rfl ?_)
          refine vknow (d := 148) (b' := true) rfl rfl ?_
          refine vone rfl (vxq (vpkt rfl rfl) rfl rfl ?_)
          refine vone rfl (vxq (vas rfl) rfl rfl ?_)
          refine vnil ?_
          refine vret (vr1 (H' := H) Tryd.func11 rfl (.tmp rfl) sb2 ?_)
          exact ⟨rfl, rfl⟩
      · skip
        refine vno rfl rfl rfl rfl rfl ?_
        refine vno rfl rfl rfl rfl rfl ?_
        refine vno rfl rfl rfl rfl rfl ?_
        refine vno rfl rfl rfl rfl rfl ?_
        refine vno rfl rfl rfl rfl rfl ?_
        refine vone rfl (vxq (vpkf rfl rfl) rfl rfl ?_)
        refine vnil ?_
        refine vcondf rfl ?_
        refine vexit (k' := _) rfl ?_
        refine vseq ?_
        refine vregion ?_
        refine vone rfl (vxq (vldn rfl rfl) rfl rfl ?_)
        refine vone rfl (vxq (vldn rfl rfl) rfl rfl ?_)
        refine vone rfl (vxg (vcg rfl rfl rfl (d_DangerM ((mov_sc (h := h) (s := s) inferInstance hO1 hO2 hl1 hl2 (by omega)).sub (fun e he => List.mem_cons_of_mem _ (List.mem_cons_of_mem _ he))) inferInstance hl1 hl2 (moved_danger (moved_sc hs0 hmv1 hmv2 (by omega) (by omega)) hw hs0)) (fun o H' h => h)) rfl rfl ?_)
        rintro _ _ ⟨B2, rfl, ⟨oa2, c2, rfl, hk2⟩⟩
        refine vone rfl (vxq (vmv rfl) rfl rfl ?_)
        refine vone rfl (vxq (vex rfl rfl) rfl rfl ?_)
        refine vone rfl (vxq (vex rfl rfl) rfl rfl ?_)
        refine vone rfl (vxq (vas rfl) rfl rfl ?_)
        refine vone rfl (vxq (vas rfl) rfl rfl ?_)
        refine vnil ?_
        refine vseq ?_
        refine vregion ?_
        refine vone rfl (vxq (vmv rfl) rfl rfl ?_)
        refine vone rfl (vxq (vmv rfl) rfl rfl ?_)
        refine vone rfl (vxq (veql rfl rfl) rfl rfl ?_)
        refine vknow (d := 141) (b' := true) rfl (decide_eq_true (rfl)) ?_
        refine vone rfl (vxq (vmv rfl) rfl rfl ?_)
        refine vyes rfl rfl rfl (vxq (vmv rfl) rfl rfl ?_)
        refine vyes rfl rfl rfl (vxq (vmv rfl) rfl rfl ?_)
        refine vyes rfl rfl rfl (vxq (vcq rfl rfl rfl (c_AlikeB (dangerE w s).1 (dangerE w s).1 oa1 oa2 (dangerE w s).1.length (dangerE w s).1.length c1 c2 rfl rfl (by have := danger_len w s; omega) _)) rfl rfl ?_)
        refine vknow (d := 145) (b' := true) rfl (decide_eq_true (rfl)) ?_
        refine vone rfl (vxq (vpkt rfl rfl) rfl rfl ?_)
        refine vone rfl (vxq (vmv rfl) rfl rfl ?_)
        refine vyes rfl rfl rfl (vxq (vcq rfl rfl rfl (c_works _)) rfl rfl ?_)
        refine vknow (d := 148) (b' := true) rfl rfl ?_
        refine vone rfl (vxq (vpkt rfl rfl) rfl rfl ?_)
        refine vone rfl (vxq (vas rfl) rfl rfl ?_)
        refine vnil ?_
        refine vret (vr1 (H' := H) Tryd.func11 rfl (.tmp rfl) sb2 ?_)
        exact ⟨rfl, rfl⟩

end Go.Proofs.YtaplkoimhecacaaDoor
