/-
  Walks of octants, of sightings' regions, of what is known of animals.
-/
import Derived.Test.YtaplkoimhecacaaDoorTb11
namespace Go.Proofs.YtaplkoimhecacaaDoor
open Go
set_option maxRecDepth 100000

attribute [local irreducible] tightP hullP rootP farP rows endsOf
abbrev clCn (a : Rg) (n hf : Int) : List Value := [I a.x.lo, I a.x.hi, I a.y.lo, I a.y.hi, I a.s.lo, I a.s.hi, I a.d.lo, I a.d.hi, I n, I hf]
abbrev vCn (a : Rg) (n hf : Int) : Value := .agg (clCn a n hf).toArray

/-- (paravane/watch.cone).octant0 -/
theorem h_oct0 (a r : Rg) (n hf : Int) (ha : a.sm 65536) (hn : 0 ≤ n ∧ n ≤ 65536) (hh : 0 ≤ hf ∧ hf ≤ 65536) (b : Nat) : VHas Tryd.prog 145 [vCn a n hf, ptr b] (tup []) ([(b, blk (clR r) 55)]) ([(b, blk (clR (⟨up r.x (a.x.lo + hf), up r.y a.y.lo, up r.s (a.s.lo + n), up r.d a.d.lo⟩ : Rg)) 55)]) := by
 unfold Rg.sm Bd.sm at ha
 refine vcall_of_vrun Tryd.func145 rfl (N := 66) rfl rfl ?_
 refine vseq ?_
 refine vregion ?_
 refine vone rfl (vxa (vbox rfl rfl) rfl rfl (fun b1 => ?_))
 refine vnil ?_
 refine vseq ?_
 refine vdraw1 (d := 1) rfl [(.q, 0), (.q, 1), (.q, 2), (.q, 3), (.q, 4), (.q, 5), (.q, 7), (.q, 8), (.q, 9), (.q, 10), (.q, 12), (.q, 13), (.q, 14), (.q, 15), (.q, 17), (.q, 18), (.q, 19), (.q, 20), (.n, 6), (.q, 11), (.n, 16), (.q, 21), (.q, 22), (.q, 23), (.q, 24), (.s, 25), (.q, 26), (.q, 27), (.q, 28), (.s, 29)] Tryd.mixed (by kernel_rfl) (allocOk_of _ (by kernel_rfl)) ?_
 refine vdq (mone rfl) (vmv rfl) rfl rfl ?_
 refine vdq (mone rfl) (vmv rfl) rfl rfl ?_
 refine vdq (mone rfl) (vmv rfl) rfl rfl ?_
 refine vdq (mone rfl) (vnc rfl) rfl rfl ?_
 refine vdq (mone rfl) (vfa rfl) rfl rfl ?_
 refine vdq (mone rfl) (vfa rfl) rfl rfl ?_
 refine vdq (mone rfl) (vfa rfl) rfl rfl ?_
 refine vdq (mone rfl) (vfa rfl) rfl rfl ?_
 refine vdq (mone rfl) (vfa rfl) rfl rfl ?_
 refine vdq (mone rfl) (vld1 rfl rfl) rfl rfl ?_
 refine vdq (mone rfl) (vmv rfl) rfl rfl ?_
 refine vdq (mone rfl) (vnc rfl) rfl rfl ?_
 refine vdq (mone rfl) (vfa rfl) rfl rfl ?_
 refine vdq (mone rfl) (vfa rfl) rfl rfl ?_
 refine vdq (mone rfl) (vfa rfl) rfl rfl ?_
 refine vdq (mone rfl) (vfa rfl) rfl rfl ?_
 refine vdq (mone rfl) (vfa rfl) rfl rfl ?_
 refine vdq (mone rfl) (vld1 rfl rfl) rfl rfl ?_
 refine vdn rfl (mone rfl) (vld1 rfl rfl) rfl rfl ?_
 refine vdq (mone rfl) (vmax2 rfl rfl) rfl rfl ?_
 refine vdn rfl (mone rfl) (vld1 rfl rfl) rfl rfl ?_
 refine vdq (mone rfl) (vmax2 rfl rfl) rfl rfl ?_
 refine vdq (mone rfl) (vnc rfl) rfl rfl ?_
 refine vdq (mone rfl) (vfa rfl) rfl rfl ?_
 refine vdq (mone rfl) (vfa rfl) rfl rfl ?_
 refine vds (mone rfl) (vst1 rfl rfl rfl rfl) rfl ?_
 refine vdq (mone rfl) (vnc rfl) rfl rfl ?_
 refine vdq (mone rfl) (vfa rfl) rfl rfl ?_
 refine vdq (mone rfl) (vfa rfl) rfl rfl ?_
 refine vds (mone rfl) (vst1 rfl rfl rfl rfl) rfl ?_
 refine vdend rfl ?_
 refine vdraw1 (d := 1) rfl [(.q, 0), (.q, 1), (.q, 2), (.q, 3), (.q, 4), (.q, 5), (.q, 7), (.q, 8), (.q, 9), (.q, 10), (.q, 11), (.q, 12), (.q, 13), (.q, 15), (.q, 16), (.q, 17), (.q, 18), (.q, 20), (.q, 21), (.q, 22), (.q, 23), (.q, 24), (.q, 25), (.q, 26), (.n, 6), (.q, 14), (.n, 19), (.q, 27), (.q, 28), (.q, 29), (.q, 30), (.s, 31), (.q, 32), (.q, 33), (.q, 34), (.s, 35)] Tryd.mixed (by kernel_rfl) (allocOk_of _ (by kernel_rfl)) ?_
 refine vdq (mone rfl) (vmv rfl) rfl rfl ?_
 refine vdq (mone rfl) (vmv rfl) rfl rfl ?_
 refine vdq (mone rfl) (vmv rfl) rfl rfl ?_
 refine vdq (mone rfl) (vnc rfl) rfl rfl ?_
 refine vdq (mone rfl) (vfa rfl) rfl rfl ?_
 refine vdq (mone rfl) (vfa rfl) rfl rfl ?_
 refine vdq (mone rfl) (vfa rfl) rfl rfl ?_
 refine vdq (mone rfl) (vfa rfl) rfl rfl ?_
 refine vdq (mone rfl) (vfa rfl) rfl rfl ?_
 refine vdq (mone rfl) (vld1 rfl rfl) rfl rfl ?_
 refine vdq (mone rfl) (vfa rfl) rfl rfl ?_
 refine vdq (mone rfl) (vld1 rfl rfl) rfl rfl ?_
 refine vdq (mone rfl) (vadd rfl rfl (by unfold InR; omega)) rfl rfl ?_
 refine vdq (mone rfl) (vmv rfl) rfl rfl ?_
 refine vdq (mone rfl) (vnc rfl) rfl rfl ?_
 refine vdq (mone rfl) (vfa rfl) rfl rfl ?_
 refine vdq (mone rfl) (vfa rfl) rfl rfl ?_
 refine vdq (mone rfl) (vfa rfl) rfl rfl ?_
 refine vdq (mone rfl) (vfa rfl) rfl rfl ?_
 refine vdq (mone rfl) (vfa rfl) rfl rfl ?_
 refine vdq (mone rfl) (vld1 rfl rfl) rfl rfl ?_
 refine vdq (mone rfl) (vfa rfl) rfl rfl ?_
 refine vdq (mone rfl) (vld1 rfl rfl) rfl rfl ?_
 refine vdq (mone rfl) (vadd rfl rfl (by unfold InR; omega)) rfl rfl ?_
 refine vdn rfl (mone rfl) (vld1 rfl rfl) rfl rfl ?_
 refine vdq (mone rfl) (vmax2 rfl rfl) rfl rfl ?_
 refine vdn rfl (mone rfl) (vld1 rfl rfl) rfl rfl ?_
 refine vdq (mone rfl) (vmax2 rfl rfl) rfl rfl ?_
 refine vdq (mone rfl) (vnc rfl) rfl rfl ?_
 refine vdq (mone rfl) (vfa rfl) rfl rfl ?_
 refine vdq (mone rfl) (vfa rfl) rfl rfl ?_
 refine vds (mone rfl) (vst1 rfl rfl rfl rfl) rfl ?_
 refine vdq (mone rfl) (vnc rfl) rfl rfl ?_
 refine vdq (mone rfl) (vfa rfl) rfl rfl ?_
 refine vdq (mone rfl) (vfa rfl) rfl rfl ?_
 refine vds (mone rfl) (vst1 rfl rfl rfl rfl) rfl ?_
 refine vdend rfl ?_
 refine vend (vr0 (H' := [(b, _)]) Tryd.func145 rfl  sb ?_)
 exact ⟨rfl, rfl⟩
/-- (paravane/watch.cone).octant1 -/
theorem h_oct1 (a r : Rg) (n hf : Int) (ha : a.sm 65536) (hn : 0 ≤ n ∧ n ≤ 65536) (hh : 0 ≤ hf ∧ hf ≤ 65536) (b : Nat) : VHas Tryd.prog 147 [vCn a n hf, ptr b] (tup []) ([(b, blk (clR r) 55)]) ([(b, blk (clR (⟨up r.x a.x.lo, up r.y (a.y.lo + hf), up r.s (a.s.lo + n), dn r.d a.d.hi⟩ : Rg)) 55)]) := by
 unfold Rg.sm Bd.sm at ha
 refine vcall_of_vrun Tryd.func147 rfl (N := 66) rfl rfl ?_
 refine vseq ?_
 refine vregion ?_
 refine vone rfl (vxa (vbox rfl rfl) rfl rfl (fun b1 => ?_))
 refine vnil ?_
 refine vseq ?_
 refine vdraw1 (d := 1) rfl [(.q, 0), (.q, 1), (.q, 2), (.q, 3), (.q, 4), (.q, 5), (.q, 7), (.q, 8), (.q, 9), (.q, 10), (.q, 12), (.q, 13), (.q, 14), (.q, 15), (.q, 17), (.q, 18), (.q, 19), (.q, 20), (.n, 6), (.q, 11), (.n, 16), (.q, 21), (.q, 22), (.q, 23), (.q, 24), (.s, 25), (.q, 26), (.q, 27), (.q, 28), (.s, 29)] Tryd.mixed (by kernel_rfl) (allocOk_of _ (by kernel_rfl)) ?_
 refine vdq (mone rfl) (vmv rfl) rfl rfl ?_
 refine vdq (mone rfl) (vmv rfl) rfl rfl ?_
 refine vdq (mone rfl) (vmv rfl) rfl rfl ?_
 refine vdq (mone rfl) (vnc rfl) rfl rfl ?_
 refine vdq (mone rfl) (vfa rfl) rfl rfl ?_
 refine vdq (mone rfl) (vfa rfl) rfl rfl ?_
 refine vdq (mone rfl) (vfa rfl) rfl rfl ?_
 refine vdq (mone rfl) (vfa rfl) rfl rfl ?_
 refine vdq (mone rfl) (vfa rfl) rfl rfl ?_
 refine vdq (mone rfl) (vld1 rfl rfl) rfl rfl ?_
 refine vdq (mone rfl) (vmv rfl) rfl rfl ?_
 refine vdq (mone rfl) (vnc rfl) rfl rfl ?_
 refine vdq (mone rfl) (vfa rfl) rfl rfl ?_
 refine vdq (mone rfl) (vfa rfl) rfl rfl ?_
 refine vdq (mone rfl) (vfa rfl) rfl rfl ?_
 refine vdq (mone rfl) (vfa rfl) rfl rfl ?_
 refine vdq (mone rfl) (vfa rfl) rfl rfl ?_
 refine vdq (mone rfl) (vld1 rfl rfl) rfl rfl ?_
 refine vdn rfl (mone rfl) (vld1 rfl rfl) rfl rfl ?_
 refine vdq (mone rfl) (vmax2 rfl rfl) rfl rfl ?_
 refine vdn rfl (mone rfl) (vld1 rfl rfl) rfl rfl ?_
 refine vdq (mone rfl) (vmin2 rfl rfl) rfl rfl ?_
 refine vdq (mone rfl) (vnc rfl) rfl rfl ?_
 refine vdq (mone rfl) (vfa rfl) rfl rfl ?_
 refine vdq (mone rfl) (vfa rfl) rfl rfl ?_
 refine vds (mone rfl) (vst1 rfl rfl rfl rfl) rfl ?_
 refine vdq (mone rfl) (vnc rfl) rfl rfl ?_
 refine vdq (mone rfl) (vfa rfl) rfl rfl ?_
 refine vdq (mone rfl) (vfa rfl) rfl rfl ?_
 refine vds (mone rfl) (vst1 rfl rfl rfl rfl) rfl ?_
 refine vdend rfl ?_
 refine vdraw1 (d := 1) rfl [(.q, 0), (.q, 1), (.q, 2), (.q, 3), (.q, 4), (.q, 5), (.q, 7), (.q, 8), (.q, 9), (.q, 10), (.q, 11), (.q, 12), (.q, 13), (.q, 15), (.q, 16), (.q, 17), (.q, 18), (.q, 20), (.q, 21), (.q, 22), (.q, 23), (.q, 24), (.q, 25), (.q, 26), (.n, 6), (.q, 14), (.n, 19), (.q, 27), (.q, 28), (.q, 29), (.q, 30), (.s, 31), (.q, 32), (.q, 33), (.q, 34), (.s, 35)] Tryd.mixed (by kernel_rfl) (allocOk_of _ (by kernel_rfl)) ?_
 refine vdq (mone rfl) (vmv rfl) rfl rfl ?_
 refine vdq (mone rfl) (vmv rfl) rfl rfl ?_
 refine vdq (mone rfl) (vmv rfl) rfl rfl ?_
 refine vdq (mone rfl) (vnc rfl) rfl rfl ?_
 refine vdq (mone rfl) (vfa rfl) rfl rfl ?_
 refine vdq (mone rfl) (vfa rfl) rfl rfl ?_
 refine vdq (mone rfl) (vfa rfl) rfl rfl ?_
 refine vdq (mone rfl) (vfa rfl) rfl rfl ?_
 refine vdq (mone rfl) (vfa rfl) rfl rfl ?_
 refine vdq (mone rfl) (vld1 rfl rfl) rfl rfl ?_
 refine vdq (mone rfl) (vfa rfl) rfl rfl ?_
 refine vdq (mone rfl) (vld1 rfl rfl) rfl rfl ?_
 refine vdq (mone rfl) (vadd rfl rfl (by unfold InR; omega)) rfl rfl ?_
 refine vdq (mone rfl) (vmv rfl) rfl rfl ?_
 refine vdq (mone rfl) (vnc rfl) rfl rfl ?_
 refine vdq (mone rfl) (vfa rfl) rfl rfl ?_
 refine vdq (mone rfl) (vfa rfl) rfl rfl ?_
 refine vdq (mone rfl) (vfa rfl) rfl rfl ?_
 refine vdq (mone rfl) (vfa rfl) rfl rfl ?_
 refine vdq (mone rfl) (vfa rfl) rfl rfl ?_
 refine vdq (mone rfl) (vld1 rfl rfl) rfl rfl ?_
 refine vdq (mone rfl) (vfa rfl) rfl rfl ?_
 refine vdq (mone rfl) (vld1 rfl rfl) rfl rfl ?_
 refine vdq (mone rfl) (vadd rfl rfl (by unfold InR; omega)) rfl rfl ?_
 refine vdn rfl (mone rfl) (vld1 rfl rfl) rfl rfl ?_
 refine vdq (mone rfl) (vmax2 rfl rfl) rfl rfl ?_
 refine vdn rfl (mone rfl) (vld1 rfl rfl) rfl rfl ?_
 refine vdq (mone rfl) (vmax2 rfl rfl) rfl rfl ?_
 refine vdq (mone rfl) (vnc rfl) rfl rfl ?_
 refine vdq (mone rfl) (vfa rfl) rfl rfl ?_
 refine vdq (mone rfl) (vfa rfl) rfl rfl ?_
 refine vds (mone rfl) (vst1 rfl rfl rfl rfl) rfl ?_
 refine vdq (mone rfl) (vnc rfl) rfl rfl ?_
 refine vdq (mone rfl) (vfa rfl) rfl rfl ?_
 refine vdq (mone rfl) (vfa rfl) rfl rfl ?_
 refine vds (mone rfl) (vst1 rfl rfl rfl rfl) rfl ?_
 refine vdend rfl ?_
 refine vend (vr0 (H' := [(b, _)]) Tryd.func147 rfl  sb ?_)
 exact ⟨rfl, rfl⟩
/-- (paravane/watch.cone).octant2 -/
theorem h_oct2 (a r : Rg) (n hf : Int) (ha : a.sm 65536) (hn : 0 ≤ n ∧ n ≤ 65536) (hh : 0 ≤ hf ∧ hf ≤ 65536) (b : Nat) : VHas Tryd.prog 148 [vCn a n hf, ptr b] (tup []) ([(b, blk (clR r) 55)]) ([(b, blk (clR (⟨dn r.x a.x.hi, up r.y (a.y.lo + hf), up r.s a.s.lo, dn r.d (a.d.hi - n)⟩ : Rg)) 55)]) := by
 unfold Rg.sm Bd.sm at ha
 refine vcall_of_vrun Tryd.func148 rfl (N := 66) rfl rfl ?_
 refine vseq ?_
 refine vregion ?_
 refine vone rfl (vxa (vbox rfl rfl) rfl rfl (fun b1 => ?_))
 refine vnil ?_
 refine vseq ?_
 refine vdraw1 (d := 1) rfl [(.q, 0), (.q, 1), (.q, 2), (.q, 3), (.q, 4), (.q, 5), (.q, 7), (.q, 8), (.q, 9), (.q, 10), (.q, 12), (.q, 13), (.q, 14), (.q, 15), (.q, 17), (.q, 18), (.q, 19), (.q, 20), (.n, 6), (.q, 11), (.n, 16), (.q, 21), (.q, 22), (.q, 23), (.q, 24), (.s, 25), (.q, 26), (.q, 27), (.q, 28), (.s, 29)] Tryd.mixed (by kernel_rfl) (allocOk_of _ (by kernel_rfl)) ?_
 refine vdq (mone rfl) (vmv rfl) rfl rfl ?_
 refine vdq (mone rfl) (vmv rfl) rfl rfl ?_
 refine vdq (mone rfl) (vmv rfl) rfl rfl ?_
 refine vdq (mone rfl) (vnc rfl) rfl rfl ?_
 refine vdq (mone rfl) (vfa rfl) rfl rfl ?_
 refine vdq (mone rfl) (vfa rfl) rfl rfl ?_
 refine vdq (mone rfl) (vfa rfl) rfl rfl ?_
 refine vdq (mone rfl) (vfa rfl) rfl rfl ?_
 refine vdq (mone rfl) (vfa rfl) rfl rfl ?_
 refine vdq (mone rfl) (vld1 rfl rfl) rfl rfl ?_
 refine vdq (mone rfl) (vmv rfl) rfl rfl ?_
 refine vdq (mone rfl) (vnc rfl) rfl rfl ?_
 refine vdq (mone rfl) (vfa rfl) rfl rfl ?_
 refine vdq (mone rfl) (vfa rfl) rfl rfl ?_
 refine vdq (mone rfl) (vfa rfl) rfl rfl ?_
 refine vdq (mone rfl) (vfa rfl) rfl rfl ?_
 refine vdq (mone rfl) (vfa rfl) rfl rfl ?_
 refine vdq (mone rfl) (vld1 rfl rfl) rfl rfl ?_
 refine vdn rfl (mone rfl) (vld1 rfl rfl) rfl rfl ?_
 refine vdq (mone rfl) (vmin2 rfl rfl) rfl rfl ?_
 refine vdn rfl (mone rfl) (vld1 rfl rfl) rfl rfl ?_
 refine vdq (mone rfl) (vmax2 rfl rfl) rfl rfl ?_
 refine vdq (mone rfl) (vnc rfl) rfl rfl ?_
 refine vdq (mone rfl) (vfa rfl) rfl rfl ?_
 refine vdq (mone rfl) (vfa rfl) rfl rfl ?_
 refine vds (mone rfl) (vst1 rfl rfl rfl rfl) rfl ?_
 refine vdq (mone rfl) (vnc rfl) rfl rfl ?_
 refine vdq (mone rfl) (vfa rfl) rfl rfl ?_
 refine vdq (mone rfl) (vfa rfl) rfl rfl ?_
 refine vds (mone rfl) (vst1 rfl rfl rfl rfl) rfl ?_
 refine vdend rfl ?_
 refine vdraw1 (d := 1) rfl [(.q, 0), (.q, 1), (.q, 2), (.q, 3), (.q, 4), (.q, 5), (.q, 7), (.q, 8), (.q, 9), (.q, 10), (.q, 11), (.q, 12), (.q, 13), (.q, 15), (.q, 16), (.q, 17), (.q, 18), (.q, 20), (.q, 21), (.q, 22), (.q, 23), (.q, 24), (.q, 25), (.q, 26), (.n, 6), (.q, 14), (.n, 19), (.q, 27), (.q, 28), (.q, 29), (.q, 30), (.s, 31), (.q, 32), (.q, 33), (.q, 34), (.s, 35)] Tryd.mixed (by kernel_rfl) (allocOk_of _ (by kernel_rfl)) ?_
 refine vdq (mone rfl) (vmv rfl) rfl rfl ?_
 refine vdq (mone rfl) (vmv rfl) rfl rfl ?_
 refine vdq (mone rfl) (vmv rfl) rfl rfl ?_
 refine vdq (mone rfl) (vnc rfl) rfl rfl ?_
 refine vdq (mone rfl) (vfa rfl) rfl rfl ?_
 refine vdq (mone rfl) (vfa rfl) rfl rfl ?_
 refine vdq (mone rfl) (vfa rfl) rfl rfl ?_
 refine vdq (mone rfl) (vfa rfl) rfl rfl ?_
 refine vdq (mone rfl) (vfa rfl) rfl rfl ?_
 refine vdq (mone rfl) (vld1 rfl rfl) rfl rfl ?_
 refine vdq (mone rfl) (vfa rfl) rfl rfl ?_
 refine vdq (mone rfl) (vld1 rfl rfl) rfl rfl ?_
 refine vdq (mone rfl) (vadd rfl rfl (by unfold InR; omega)) rfl rfl ?_
 refine vdq (mone rfl) (vmv rfl) rfl rfl ?_
 refine vdq (mone rfl) (vnc rfl) rfl rfl ?_
 refine vdq (mone rfl) (vfa rfl) rfl rfl ?_
 refine vdq (mone rfl) (vfa rfl) rfl rfl ?_
 refine vdq (mone rfl) (vfa rfl) rfl rfl ?_
 refine vdq (mone rfl) (vfa rfl) rfl rfl ?_
 refine vdq (mone rfl) (vfa rfl) rfl rfl ?_
 refine vdq (mone rfl) (vld1 rfl rfl) rfl rfl ?_
 refine vdq (mone rfl) (vfa rfl) rfl rfl ?_
 refine vdq (mone rfl) (vld1 rfl rfl) rfl rfl ?_
 refine vdq (mone rfl) (vsub rfl rfl (by unfold InR; omega)) rfl rfl ?_
 refine vdn rfl (mone rfl) (vld1 rfl rfl) rfl rfl ?_
 refine vdq (mone rfl) (vmax2 rfl rfl) rfl rfl ?_
 refine vdn rfl (mone rfl) (vld1 rfl rfl) rfl rfl ?_
 refine vdq (mone rfl) (vmin2 rfl rfl) rfl rfl ?_
 refine vdq (mone rfl) (vnc rfl) rfl rfl ?_
 refine vdq (mone rfl) (vfa rfl) rfl rfl ?_
 refine vdq (mone rfl) (vfa rfl) rfl rfl ?_
 refine vds (mone rfl) (vst1 rfl rfl rfl rfl) rfl ?_
 refine vdq (mone rfl) (vnc rfl) rfl rfl ?_
 refine vdq (mone rfl) (vfa rfl) rfl rfl ?_
 refine vdq (mone rfl) (vfa rfl) rfl rfl ?_
 refine vds (mone rfl) (vst1 rfl rfl rfl rfl) rfl ?_
 refine vdend rfl ?_
 refine vend (vr0 (H' := [(b, _)]) Tryd.func148 rfl  sb ?_)
 exact ⟨rfl, rfl⟩
/-- (paravane/watch.cone).octant3 -/
theorem h_oct3 (a r : Rg) (n hf : Int) (ha : a.sm 65536) (hn : 0 ≤ n ∧ n ≤ 65536) (hh : 0 ≤ hf ∧ hf ≤ 65536) (b : Nat) : VHas Tryd.prog 149 [vCn a n hf, ptr b] (tup []) ([(b, blk (clR r) 55)]) ([(b, blk (clR (⟨dn r.x (a.x.hi - hf), up r.y a.y.lo, dn r.s a.s.hi, dn r.d (a.d.hi - n)⟩ : Rg)) 55)]) := by
 unfold Rg.sm Bd.sm at ha
 refine vcall_of_vrun Tryd.func149 rfl (N := 66) rfl rfl ?_
 refine vseq ?_
 refine vregion ?_
 refine vone rfl (vxa (vbox rfl rfl) rfl rfl (fun b1 => ?_))
 refine vnil ?_
 refine vseq ?_
 refine vdraw1 (d := 1) rfl [(.q, 0), (.q, 1), (.q, 2), (.q, 3), (.q, 4), (.q, 5), (.q, 7), (.q, 8), (.q, 9), (.q, 10), (.q, 12), (.q, 13), (.q, 14), (.q, 15), (.q, 17), (.q, 18), (.q, 19), (.q, 20), (.n, 6), (.q, 11), (.n, 16), (.q, 21), (.q, 22), (.q, 23), (.q, 24), (.s, 25), (.q, 26), (.q, 27), (.q, 28), (.s, 29)] Tryd.mixed (by kernel_rfl) (allocOk_of _ (by kernel_rfl)) ?_
 refine vdq (mone rfl) (vmv rfl) rfl rfl ?_
 refine vdq (mone rfl) (vmv rfl) rfl rfl ?_
 refine vdq (mone rfl) (vmv rfl) rfl rfl ?_
 refine vdq (mone rfl) (vnc rfl) rfl rfl ?_
 refine vdq (mone rfl) (vfa rfl) rfl rfl ?_
 refine vdq (mone rfl) (vfa rfl) rfl rfl ?_
 refine vdq (mone rfl) (vfa rfl) rfl rfl ?_
 refine vdq (mone rfl) (vfa rfl) rfl rfl ?_
 refine vdq (mone rfl) (vfa rfl) rfl rfl ?_
 refine vdq (mone rfl) (vld1 rfl rfl) rfl rfl ?_
 refine vdq (mone rfl) (vmv rfl) rfl rfl ?_
 refine vdq (mone rfl) (vnc rfl) rfl rfl ?_
 refine vdq (mone rfl) (vfa rfl) rfl rfl ?_
 refine vdq (mone rfl) (vfa rfl) rfl rfl ?_
 refine vdq (mone rfl) (vfa rfl) rfl rfl ?_
 refine vdq (mone rfl) (vfa rfl) rfl rfl ?_
 refine vdq (mone rfl) (vfa rfl) rfl rfl ?_
 refine vdq (mone rfl) (vld1 rfl rfl) rfl rfl ?_
 refine vdn rfl (mone rfl) (vld1 rfl rfl) rfl rfl ?_
 refine vdq (mone rfl) (vmax2 rfl rfl) rfl rfl ?_
 refine vdn rfl (mone rfl) (vld1 rfl rfl) rfl rfl ?_
 refine vdq (mone rfl) (vmin2 rfl rfl) rfl rfl ?_
 refine vdq (mone rfl) (vnc rfl) rfl rfl ?_
 refine vdq (mone rfl) (vfa rfl) rfl rfl ?_
 refine vdq (mone rfl) (vfa rfl) rfl rfl ?_
 refine vds (mone rfl) (vst1 rfl rfl rfl rfl) rfl ?_
 refine vdq (mone rfl) (vnc rfl) rfl rfl ?_
 refine vdq (mone rfl) (vfa rfl) rfl rfl ?_
 refine vdq (mone rfl) (vfa rfl) rfl rfl ?_
 refine vds (mone rfl) (vst1 rfl rfl rfl rfl) rfl ?_
 refine vdend rfl ?_
 refine vdraw1 (d := 1) rfl [(.q, 0), (.q, 1), (.q, 2), (.q, 3), (.q, 4), (.q, 5), (.q, 7), (.q, 8), (.q, 9), (.q, 10), (.q, 11), (.q, 12), (.q, 13), (.q, 15), (.q, 16), (.q, 17), (.q, 18), (.q, 20), (.q, 21), (.q, 22), (.q, 23), (.q, 24), (.q, 25), (.q, 26), (.n, 6), (.q, 14), (.n, 19), (.q, 27), (.q, 28), (.q, 29), (.q, 30), (.s, 31), (.q, 32), (.q, 33), (.q, 34), (.s, 35)] Tryd.mixed (by kernel_rfl) (allocOk_of _ (by kernel_rfl)) ?_
 refine vdq (mone rfl) (vmv rfl) rfl rfl ?_
 refine vdq (mone rfl) (vmv rfl) rfl rfl ?_
 refine vdq (mone rfl) (vmv rfl) rfl rfl ?_
 refine vdq (mone rfl) (vnc rfl) rfl rfl ?_
 refine vdq (mone rfl) (vfa rfl) rfl rfl ?_
 refine vdq (mone rfl) (vfa rfl) rfl rfl ?_
 refine vdq (mone rfl) (vfa rfl) rfl rfl ?_
 refine vdq (mone rfl) (vfa rfl) rfl rfl ?_
 refine vdq (mone rfl) (vfa rfl) rfl rfl ?_
 refine vdq (mone rfl) (vld1 rfl rfl) rfl rfl ?_
 refine vdq (mone rfl) (vfa rfl) rfl rfl ?_
 refine vdq (mone rfl) (vld1 rfl rfl) rfl rfl ?_
 refine vdq (mone rfl) (vsub rfl rfl (by unfold InR; omega)) rfl rfl ?_
 refine vdq (mone rfl) (vmv rfl) rfl rfl ?_
 refine vdq (mone rfl) (vnc rfl) rfl rfl ?_
 refine vdq (mone rfl) (vfa rfl) rfl rfl ?_
 refine vdq (mone rfl) (vfa rfl) rfl rfl ?_
 refine vdq (mone rfl) (vfa rfl) rfl rfl ?_
 refine vdq (mone rfl) (vfa rfl) rfl rfl ?_
 refine vdq (mone rfl) (vfa rfl) rfl rfl ?_
 refine vdq (mone rfl) (vld1 rfl rfl) rfl rfl ?_
 refine vdq (mone rfl) (vfa rfl) rfl rfl ?_
 refine vdq (mone rfl) (vld1 rfl rfl) rfl rfl ?_
 refine vdq (mone rfl) (vsub rfl rfl (by unfold InR; omega)) rfl rfl ?_
 refine vdn rfl (mone rfl) (vld1 rfl rfl) rfl rfl ?_
 refine vdq (mone rfl) (vmin2 rfl rfl) rfl rfl ?_
 refine vdn rfl (mone rfl) (vld1 rfl rfl) rfl rfl ?_
 refine vdq (mone rfl) (vmin2 rfl rfl) rfl rfl ?_
 refine vdq (mone rfl) (vnc rfl) rfl rfl ?_
 refine vdq (mone rfl) (vfa rfl) rfl rfl ?_
 refine vdq (mone rfl) (vfa rfl) rfl rfl ?_
 refine vds (mone rfl) (vst1 rfl rfl rfl rfl) rfl ?_
 refine vdq (mone rfl) (vnc rfl) rfl rfl ?_
 refine vdq (mone rfl) (vfa rfl) rfl rfl ?_
 refine vdq (mone rfl) (vfa rfl) rfl rfl ?_
 refine vds (mone rfl) (vst1 rfl rfl rfl rfl) rfl ?_
 refine vdend rfl ?_
 refine vend (vr0 (H' := [(b, _)]) Tryd.func149 rfl  sb ?_)
 exact ⟨rfl, rfl⟩
/-- (paravane/watch.cone).octant4 -/
theorem h_oct4 (a r : Rg) (n hf : Int) (ha : a.sm 65536) (hn : 0 ≤ n ∧ n ≤ 65536) (hh : 0 ≤ hf ∧ hf ≤ 65536) (b : Nat) : VHas Tryd.prog 150 [vCn a n hf, ptr b] (tup []) ([(b, blk (clR r) 55)]) ([(b, blk (clR (⟨dn r.x (a.x.hi - hf), dn r.y a.y.hi, dn r.s (a.s.hi - n), dn r.d a.d.hi⟩ : Rg)) 55)]) := by
 unfold Rg.sm Bd.sm at ha
 refine vcall_of_vrun Tryd.func150 rfl (N := 66) rfl rfl ?_
 refine vseq ?_
 refine vregion ?_
 refine vone rfl (vxa (vbox rfl rfl) rfl rfl (fun b1 => ?_))
 refine vnil ?_
 refine vseq ?_
 refine vdraw1 (d := 1) rfl [(.q, 0), (.q, 1), (.q, 2), (.q, 3), (.q, 4), (.q, 5), (.q, 7), (.q, 8), (.q, 9), (.q, 10), (.q, 12), (.q, 13), (.q, 14), (.q, 15), (.q, 17), (.q, 18), (.q, 19), (.q, 20), (.n, 6), (.q, 11), (.n, 16), (.q, 21), (.q, 22), (.q, 23), (.q, 24), (.s, 25), (.q, 26), (.q, 27), (.q, 28), (.s, 29)] Tryd.mixed (by kernel_rfl) (allocOk_of _ (by kernel_rfl)) ?_
 refine vdq (mone rfl) (vmv rfl) rfl rfl ?_
 refine vdq (mone rfl) (vmv rfl) rfl rfl ?_
 refine vdq (mone rfl) (vmv rfl) rfl rfl ?_
 refine vdq (mone rfl) (vnc rfl) rfl rfl ?_
 refine vdq (mone rfl) (vfa rfl) rfl rfl ?_
 refine vdq (mone rfl) (vfa rfl) rfl rfl ?_
 refine vdq (mone rfl) (vfa rfl) rfl rfl ?_
 refine vdq (mone rfl) (vfa rfl) rfl rfl ?_
 refine vdq (mone rfl) (vfa rfl) rfl rfl ?_
 refine vdq (mone rfl) (vld1 rfl rfl) rfl rfl ?_
 refine vdq (mone rfl) (vmv rfl) rfl rfl ?_
 refine vdq (mone rfl) (vnc rfl) rfl rfl ?_
 refine vdq (mone rfl) (vfa rfl) rfl rfl ?_
 refine vdq (mone rfl) (vfa rfl) rfl rfl ?_
 refine vdq (mone rfl) (vfa rfl) rfl rfl ?_
 refine vdq (mone rfl) (vfa rfl) rfl rfl ?_
 refine vdq (mone rfl) (vfa rfl) rfl rfl ?_
 refine vdq (mone rfl) (vld1 rfl rfl) rfl rfl ?_
 refine vdn rfl (mone rfl) (vld1 rfl rfl) rfl rfl ?_
 refine vdq (mone rfl) (vmin2 rfl rfl) rfl rfl ?_
 refine vdn rfl (mone rfl) (vld1 rfl rfl) rfl rfl ?_
 refine vdq (mone rfl) (vmin2 rfl rfl) rfl rfl ?_
 refine vdq (mone rfl) (vnc rfl) rfl rfl ?_
 refine vdq (mone rfl) (vfa rfl) rfl rfl ?_
 refine vdq (mone rfl) (vfa rfl) rfl rfl ?_
 refine vds (mone rfl) (vst1 rfl rfl rfl rfl) rfl ?_
 refine vdq (mone rfl) (vnc rfl) rfl rfl ?_
 refine vdq (mone rfl) (vfa rfl) rfl rfl ?_
 refine vdq (mone rfl) (vfa rfl) rfl rfl ?_
 refine vds (mone rfl) (vst1 rfl rfl rfl rfl) rfl ?_
 refine vdend rfl ?_
 refine vdraw1 (d := 1) rfl [(.q, 0), (.q, 1), (.q, 2), (.q, 3), (.q, 4), (.q, 5), (.q, 7), (.q, 8), (.q, 9), (.q, 10), (.q, 11), (.q, 12), (.q, 13), (.q, 15), (.q, 16), (.q, 17), (.q, 18), (.q, 20), (.q, 21), (.q, 22), (.q, 23), (.q, 24), (.q, 25), (.q, 26), (.n, 6), (.q, 14), (.n, 19), (.q, 27), (.q, 28), (.q, 29), (.q, 30), (.s, 31), (.q, 32), (.q, 33), (.q, 34), (.s, 35)] Tryd.mixed (by kernel_rfl) (allocOk_of _ (by kernel_rfl)) ?_
 refine vdq (mone rfl) (vmv rfl) rfl rfl ?_
 refine vdq (mone rfl) (vmv rfl) rfl rfl ?_
 refine vdq (mone rfl) (vmv rfl) rfl rfl ?_
 refine vdq (mone rfl) (vnc rfl) rfl rfl ?_
 refine vdq (mone rfl) (vfa rfl) rfl rfl ?_
 refine vdq (mone rfl) (vfa rfl) rfl rfl ?_
 refine vdq (mone rfl) (vfa rfl) rfl rfl ?_
 refine vdq (mone rfl) (vfa rfl) rfl rfl ?_
 refine vdq (mone rfl) (vfa rfl) rfl rfl ?_
 refine vdq (mone rfl) (vld1 rfl rfl) rfl rfl ?_
 refine vdq (mone rfl) (vfa rfl) rfl rfl ?_
 refine vdq (mone rfl) (vld1 rfl rfl) rfl rfl ?_
 refine vdq (mone rfl) (vsub rfl rfl (by unfold InR; omega)) rfl rfl ?_
 refine vdq (mone rfl) (vmv rfl) rfl rfl ?_
 refine vdq (mone rfl) (vnc rfl) rfl rfl ?_
 refine vdq (mone rfl) (vfa rfl) rfl rfl ?_
 refine vdq (mone rfl) (vfa rfl) rfl rfl ?_
 refine vdq (mone rfl) (vfa rfl) rfl rfl ?_
 refine vdq (mone rfl) (vfa rfl) rfl rfl ?_
 refine vdq (mone rfl) (vfa rfl) rfl rfl ?_
 refine vdq (mone rfl) (vld1 rfl rfl) rfl rfl ?_
 refine vdq (mone rfl) (vfa rfl) rfl rfl ?_
 refine vdq (mone rfl) (vld1 rfl rfl) rfl rfl ?_
 refine vdq (mone rfl) (vsub rfl rfl (by unfold InR; omega)) rfl rfl ?_
 refine vdn rfl (mone rfl) (vld1 rfl rfl) rfl rfl ?_
 refine vdq (mone rfl) (vmin2 rfl rfl) rfl rfl ?_
 refine vdn rfl (mone rfl) (vld1 rfl rfl) rfl rfl ?_
 refine vdq (mone rfl) (vmin2 rfl rfl) rfl rfl ?_
 refine vdq (mone rfl) (vnc rfl) rfl rfl ?_
 refine vdq (mone rfl) (vfa rfl) rfl rfl ?_
 refine vdq (mone rfl) (vfa rfl) rfl rfl ?_
 refine vds (mone rfl) (vst1 rfl rfl rfl rfl) rfl ?_
 refine vdq (mone rfl) (vnc rfl) rfl rfl ?_
 refine vdq (mone rfl) (vfa rfl) rfl rfl ?_
 refine vdq (mone rfl) (vfa rfl) rfl rfl ?_
 refine vds (mone rfl) (vst1 rfl rfl rfl rfl) rfl ?_
 refine vdend rfl ?_
 refine vend (vr0 (H' := [(b, _)]) Tryd.func150 rfl  sb ?_)
 exact ⟨rfl, rfl⟩
/-- (paravane/watch.cone).octant5 -/
theorem h_oct5 (a r : Rg) (n hf : Int) (ha : a.sm 65536) (hn : 0 ≤ n ∧ n ≤ 65536) (hh : 0 ≤ hf ∧ hf ≤ 65536) (b : Nat) : VHas Tryd.prog 151 [vCn a n hf, ptr b] (tup []) ([(b, blk (clR r) 55)]) ([(b, blk (clR (⟨dn r.x a.x.hi, dn r.y (a.y.hi - hf), dn r.s (a.s.hi - n), up r.d a.d.lo⟩ : Rg)) 55)]) := by
 unfold Rg.sm Bd.sm at ha
 refine vcall_of_vrun Tryd.func151 rfl (N := 66) rfl rfl ?_
 refine vseq ?_
 refine vregion ?_
 refine vone rfl (vxa (vbox rfl rfl) rfl rfl (fun b1 => ?_))
 refine vnil ?_
 refine vseq ?_
 refine vdraw1 (d := 1) rfl [(.q, 0), (.q, 1), (.q, 2), (.q, 3), (.q, 4), (.q, 5), (.q, 7), (.q, 8), (.q, 9), (.q, 10), (.q, 12), (.q, 13), (.q, 14), (.q, 15), (.q, 17), (.q, 18), (.q, 19), (.q, 20), (.n, 6), (.q, 11), (.n, 16), (.q, 21), (.q, 22), (.q, 23), (.q, 24), (.s, 25), (.q, 26), (.q, 27), (.q, 28), (.s, 29)] Tryd.mixed (by kernel_rfl) (allocOk_of _ (by kernel_rfl)) ?_
 refine vdq (mone rfl) (vmv rfl) rfl rfl ?_
 refine vdq (mone rfl) (vmv rfl) rfl rfl ?_
 refine vdq (mone rfl) (vmv rfl) rfl rfl ?_
 refine vdq (mone rfl) (vnc rfl) rfl rfl ?_
 refine vdq (mone rfl) (vfa rfl) rfl rfl ?_
 refine vdq (mone rfl) (vfa rfl) rfl rfl ?_
 refine vdq (mone rfl) (vfa rfl) rfl rfl ?_
 refine vdq (mone rfl) (vfa rfl) rfl rfl ?_
 refine vdq (mone rfl) (vfa rfl) rfl rfl ?_
 refine vdq (mone rfl) (vld1 rfl rfl) rfl rfl ?_
 refine vdq (mone rfl) (vmv rfl) rfl rfl ?_
 refine vdq (mone rfl) (vnc rfl) rfl rfl ?_
 refine vdq (mone rfl) (vfa rfl) rfl rfl ?_
 refine vdq (mone rfl) (vfa rfl) rfl rfl ?_
 refine vdq (mone rfl) (vfa rfl) rfl rfl ?_
 refine vdq (mone rfl) (vfa rfl) rfl rfl ?_
 refine vdq (mone rfl) (vfa rfl) rfl rfl ?_
 refine vdq (mone rfl) (vld1 rfl rfl) rfl rfl ?_
 refine vdn rfl (mone rfl) (vld1 rfl rfl) rfl rfl ?_
 refine vdq (mone rfl) (vmin2 rfl rfl) rfl rfl ?_
 refine vdn rfl (mone rfl) (vld1 rfl rfl) rfl rfl ?_
 refine vdq (mone rfl) (vmax2 rfl rfl) rfl rfl ?_
 refine vdq (mone rfl) (vnc rfl) rfl rfl ?_
 refine vdq (mone rfl) (vfa rfl) rfl rfl ?_
 refine vdq (mone rfl) (vfa rfl) rfl rfl ?_
 refine vds (mone rfl) (vst1 rfl rfl rfl rfl) rfl ?_
 refine vdq (mone rfl) (vnc rfl) rfl rfl ?_
 refine vdq (mone rfl) (vfa rfl) rfl rfl ?_
 refine vdq (mone rfl) (vfa rfl) rfl rfl ?_
 refine vds (mone rfl) (vst1 rfl rfl rfl rfl) rfl ?_
 refine vdend rfl ?_
 refine vdraw1 (d := 1) rfl [(.q, 0), (.q, 1), (.q, 2), (.q, 3), (.q, 4), (.q, 5), (.q, 7), (.q, 8), (.q, 9), (.q, 10), (.q, 11), (.q, 12), (.q, 13), (.q, 15), (.q, 16), (.q, 17), (.q, 18), (.q, 20), (.q, 21), (.q, 22), (.q, 23), (.q, 24), (.q, 25), (.q, 26), (.n, 6), (.q, 14), (.n, 19), (.q, 27), (.q, 28), (.q, 29), (.q, 30), (.s, 31), (.q, 32), (.q, 33), (.q, 34), (.s, 35)] Tryd.mixed (by kernel_rfl) (allocOk_of _ (by kernel_rfl)) ?_
 refine vdq (mone rfl) (vmv rfl) rfl rfl ?_
 refine vdq (mone rfl) (vmv rfl) rfl rfl ?_
 refine vdq (mone rfl) (vmv rfl) rfl rfl ?_
 refine vdq (mone rfl) (vnc rfl) rfl rfl ?_
 refine vdq (mone rfl) (vfa rfl) rfl rfl ?_
 refine vdq (mone rfl) (vfa rfl) rfl rfl ?_
 refine vdq (mone rfl) (vfa rfl) rfl rfl ?_
 refine vdq (mone rfl) (vfa rfl) rfl rfl ?_
 refine vdq (mone rfl) (vfa rfl) rfl rfl ?_
 refine vdq (mone rfl) (vld1 rfl rfl) rfl rfl ?_
 refine vdq (mone rfl) (vfa rfl) rfl rfl ?_
 refine vdq (mone rfl) (vld1 rfl rfl) rfl rfl ?_
 refine vdq (mone rfl) (vsub rfl rfl (by unfold InR; omega)) rfl rfl ?_
 refine vdq (mone rfl) (vmv rfl) rfl rfl ?_
 refine vdq (mone rfl) (vnc rfl) rfl rfl ?_
 refine vdq (mone rfl) (vfa rfl) rfl rfl ?_
 refine vdq (mone rfl) (vfa rfl) rfl rfl ?_
 refine vdq (mone rfl) (vfa rfl) rfl rfl ?_
 refine vdq (mone rfl) (vfa rfl) rfl rfl ?_
 refine vdq (mone rfl) (vfa rfl) rfl rfl ?_
 refine vdq (mone rfl) (vld1 rfl rfl) rfl rfl ?_
 refine vdq (mone rfl) (vfa rfl) rfl rfl ?_
 refine vdq (mone rfl) (vld1 rfl rfl) rfl rfl ?_
 refine vdq (mone rfl) (vsub rfl rfl (by unfold InR; omega)) rfl rfl ?_
 refine vdn rfl (mone rfl) (vld1 rfl rfl) rfl rfl ?_
 refine vdq (mone rfl) (vmin2 rfl rfl) rfl rfl ?_
 refine vdn rfl (mone rfl) (vld1 rfl rfl) rfl rfl ?_
 refine vdq (mone rfl) (vmin2 rfl rfl) rfl rfl ?_
 refine vdq (mone rfl) (vnc rfl) rfl rfl ?_
 refine vdq (mone rfl) (vfa rfl) rfl rfl ?_
 refine vdq (mone rfl) (vfa rfl) rfl rfl ?_
 refine vds (mone rfl) (vst1 rfl rfl rfl rfl) rfl ?_
 refine vdq (mone rfl) (vnc rfl) rfl rfl ?_
 refine vdq (mone rfl) (vfa rfl) rfl rfl ?_
 refine vdq (mone rfl) (vfa rfl) rfl rfl ?_
 refine vds (mone rfl) (vst1 rfl rfl rfl rfl) rfl ?_
 refine vdend rfl ?_
 refine vend (vr0 (H' := [(b, _)]) Tryd.func151 rfl  sb ?_)
 exact ⟨rfl, rfl⟩
/-- (paravane/watch.cone).octant6 -/
theorem h_oct6 (a r : Rg) (n hf : Int) (ha : a.sm 65536) (hn : 0 ≤ n ∧ n ≤ 65536) (hh : 0 ≤ hf ∧ hf ≤ 65536) (b : Nat) : VHas Tryd.prog 152 [vCn a n hf, ptr b] (tup []) ([(b, blk (clR r) 55)]) ([(b, blk (clR (⟨up r.x a.x.lo, dn r.y (a.y.hi - hf), dn r.s a.s.hi, up r.d (a.d.lo + n)⟩ : Rg)) 55)]) := by
 unfold Rg.sm Bd.sm at ha
 refine vcall_of_vrun Tryd.func152 rfl (N := 66) rfl rfl ?_
 refine vseq ?_
 refine vregion ?_
 refine vone rfl (vxa (vbox rfl rfl) rfl rfl (fun b1 => ?_))
 refine vnil ?_
 refine vseq ?_
 refine vdraw1 (d := 1) rfl [(.q, 0), (.q, 1), (.q, 2), (.q, 3), (.q, 4), (.q, 5), (.q, 7), (.q, 8), (.q, 9), (.q, 10), (.q, 12), (.q, 13), (.q, 14), (.q, 15), (.q, 17), (.q, 18), (.q, 19), (.q, 20), (.n, 6), (.q, 11), (.n, 16), (.q, 21), (.q, 22), (.q, 23), (.q, 24), (.s, 25), (.q, 26), (.q, 27), (.q, 28), (.s, 29)] Tryd.mixed (by kernel_rfl) (allocOk_of _ (by kernel_rfl)) ?_
 refine vdq (mone rfl) (vmv rfl) rfl rfl ?_
 refine vdq (mone rfl) (vmv rfl) rfl rfl ?_
 refine vdq (mone rfl) (vmv rfl) rfl rfl ?_
 refine vdq (mone rfl) (vnc rfl) rfl rfl ?_
 refine vdq (mone rfl) (vfa rfl) rfl rfl ?_
 refine vdq (mone rfl) (vfa rfl) rfl rfl ?_
 refine vdq (mone rfl) (vfa rfl) rfl rfl ?_
 refine vdq (mone rfl) (vfa rfl) rfl rfl ?_
 refine vdq (mone rfl) (vfa rfl) rfl rfl ?_
 refine vdq (mone rfl) (vld1 rfl rfl) rfl rfl ?_
 refine vdq (mone rfl) (vmv rfl) rfl rfl ?_
 refine vdq (mone rfl) (vnc rfl) rfl rfl ?_
 refine vdq (mone rfl) (vfa rfl) rfl rfl ?_
 refine vdq (mone rfl) (vfa rfl) rfl rfl ?_
 refine vdq (mone rfl) (vfa rfl) rfl rfl ?_
 refine vdq (mone rfl) (vfa rfl) rfl rfl ?_
 refine vdq (mone rfl) (vfa rfl) rfl rfl ?_
 refine vdq (mone rfl) (vld1 rfl rfl) rfl rfl ?_
 refine vdn rfl (mone rfl) (vld1 rfl rfl) rfl rfl ?_
 refine vdq (mone rfl) (vmax2 rfl rfl) rfl rfl ?_
 refine vdn rfl (mone rfl) (vld1 rfl rfl) rfl rfl ?_
 refine vdq (mone rfl) (vmin2 rfl rfl) rfl rfl ?_
 refine vdq (mone rfl) (vnc rfl) rfl rfl ?_
 refine vdq (mone rfl) (vfa rfl) rfl rfl ?_
 refine vdq (mone rfl) (vfa rfl) rfl rfl ?_
 refine vds (mone rfl) (vst1 rfl rfl rfl rfl) rfl ?_
 refine vdq (mone rfl) (vnc rfl) rfl rfl ?_
 refine vdq (mone rfl) (vfa rfl) rfl rfl ?_
 refine vdq (mone rfl) (vfa rfl) rfl rfl ?_
 refine vds (mone rfl) (vst1 rfl rfl rfl rfl) rfl ?_
 refine vdend rfl ?_
 refine vdraw1 (d := 1) rfl [(.q, 0), (.q, 1), (.q, 2), (.q, 3), (.q, 4), (.q, 5), (.q, 7), (.q, 8), (.q, 9), (.q, 10), (.q, 11), (.q, 12), (.q, 13), (.q, 15), (.q, 16), (.q, 17), (.q, 18), (.q, 20), (.q, 21), (.q, 22), (.q, 23), (.q, 24), (.q, 25), (.q, 26), (.n, 6), (.q, 14), (.n, 19), (.q, 27), (.q, 28), (.q, 29), (.q, 30), (.s, 31), (.q, 32), (.q, 33), (.q, 34), (.s, 35)] Tryd.mixed (by kernel_rfl) (allocOk_of _ (by kernel_rfl)) ?_
 refine vdq (mone rfl) (vmv rfl) rfl rfl ?_
 refine vdq (mone rfl) (vmv rfl) rfl rfl ?_
 refine vdq (mone rfl) (vmv rfl) rfl rfl ?_
 refine vdq (mone rfl) (vnc rfl) rfl rfl ?_
 refine vdq (mone rfl) (vfa rfl) rfl rfl ?_
 refine vdq (mone rfl) (vfa rfl) rfl rfl ?_
 refine vdq (mone rfl) (vfa rfl) rfl rfl ?_
 refine vdq (mone rfl) (vfa rfl) rfl rfl ?_
 refine vdq (mone rfl) (vfa rfl) rfl rfl ?_
 refine vdq (mone rfl) (vld1 rfl rfl) rfl rfl ?_
 refine vdq (mone rfl) (vfa rfl) rfl rfl ?_
 refine vdq (mone rfl) (vld1 rfl rfl) rfl rfl ?_
 refine vdq (mone rfl) (vsub rfl rfl (by unfold InR; omega)) rfl rfl ?_
 refine vdq (mone rfl) (vmv rfl) rfl rfl ?_
 refine vdq (mone rfl) (vnc rfl) rfl rfl ?_
 refine vdq (mone rfl) (vfa rfl) rfl rfl ?_
 refine vdq (mone rfl) (vfa rfl) rfl rfl ?_
 refine vdq (mone rfl) (vfa rfl) rfl rfl ?_
 refine vdq (mone rfl) (vfa rfl) rfl rfl ?_
 refine vdq (mone rfl) (vfa rfl) rfl rfl ?_
 refine vdq (mone rfl) (vld1 rfl rfl) rfl rfl ?_
 refine vdq (mone rfl) (vfa rfl) rfl rfl ?_
 refine vdq (mone rfl) (vld1 rfl rfl) rfl rfl ?_
 refine vdq (mone rfl) (vadd rfl rfl (by unfold InR; omega)) rfl rfl ?_
 refine vdn rfl (mone rfl) (vld1 rfl rfl) rfl rfl ?_
 refine vdq (mone rfl) (vmin2 rfl rfl) rfl rfl ?_
 refine vdn rfl (mone rfl) (vld1 rfl rfl) rfl rfl ?_
 refine vdq (mone rfl) (vmax2 rfl rfl) rfl rfl ?_
 refine vdq (mone rfl) (vnc rfl) rfl rfl ?_
 refine vdq (mone rfl) (vfa rfl) rfl rfl ?_
 refine vdq (mone rfl) (vfa rfl) rfl rfl ?_
 refine vds (mone rfl) (vst1 rfl rfl rfl rfl) rfl ?_
 refine vdq (mone rfl) (vnc rfl) rfl rfl ?_
 refine vdq (mone rfl) (vfa rfl) rfl rfl ?_
 refine vdq (mone rfl) (vfa rfl) rfl rfl ?_
 refine vds (mone rfl) (vst1 rfl rfl rfl rfl) rfl ?_
 refine vdend rfl ?_
 refine vend (vr0 (H' := [(b, _)]) Tryd.func152 rfl  sb ?_)
 exact ⟨rfl, rfl⟩
/-- (paravane/watch.cone).octant7 -/
theorem h_oct7 (a r : Rg) (n hf : Int) (ha : a.sm 65536) (hn : 0 ≤ n ∧ n ≤ 65536) (hh : 0 ≤ hf ∧ hf ≤ 65536) (b : Nat) : VHas Tryd.prog 153 [vCn a n hf, ptr b] (tup []) ([(b, blk (clR r) 55)]) ([(b, blk (clR (⟨up r.x (a.x.lo + hf), dn r.y a.y.hi, up r.s a.s.lo, up r.d (a.d.lo + n)⟩ : Rg)) 55)]) := by
 unfold Rg.sm Bd.sm at ha
 refine vcall_of_vrun Tryd.func153 rfl (N := 66) rfl rfl ?_
 refine vseq ?_
 refine vregion ?_
 refine vone rfl (vxa (vbox rfl rfl) rfl rfl (fun b1 => ?_))
 refine vnil ?_
 refine vseq ?_
 refine vdraw1 (d := 1) rfl [(.q, 0), (.q, 1), (.q, 2), (.q, 3), (.q, 4), (.q, 5), (.q, 7), (.q, 8), (.q, 9), (.q, 10), (.q, 12), (.q, 13), (.q, 14), (.q, 15), (.q, 17), (.q, 18), (.q, 19), (.q, 20), (.n, 6), (.q, 11), (.n, 16), (.q, 21), (.q, 22), (.q, 23), (.q, 24), (.s, 25), (.q, 26), (.q, 27), (.q, 28), (.s, 29)] Tryd.mixed (by kernel_rfl) (allocOk_of _ (by kernel_rfl)) ?_
 refine vdq (mone rfl) (vmv rfl) rfl rfl ?_
 refine vdq (mone rfl) (vmv rfl) rfl rfl ?_
 refine vdq (mone rfl) (vmv rfl) rfl rfl ?_
 refine vdq (mone rfl) (vnc rfl) rfl rfl ?_
 refine vdq (mone rfl) (vfa rfl) rfl rfl ?_
 refine vdq (mone rfl) (vfa rfl) rfl rfl ?_
 refine vdq (mone rfl) (vfa rfl) rfl rfl ?_
 refine vdq (mone rfl) (vfa rfl) rfl rfl ?_
 refine vdq (mone rfl) (vfa rfl) rfl rfl ?_
 refine vdq (mone rfl) (vld1 rfl rfl) rfl rfl ?_
 refine vdq (mone rfl) (vmv rfl) rfl rfl ?_
 refine vdq (mone rfl) (vnc rfl) rfl rfl ?_
 refine vdq (mone rfl) (vfa rfl) rfl rfl ?_
 refine vdq (mone rfl) (vfa rfl) rfl rfl ?_
 refine vdq (mone rfl) (vfa rfl) rfl rfl ?_
 refine vdq (mone rfl) (vfa rfl) rfl rfl ?_
 refine vdq (mone rfl) (vfa rfl) rfl rfl ?_
 refine vdq (mone rfl) (vld1 rfl rfl) rfl rfl ?_
 refine vdn rfl (mone rfl) (vld1 rfl rfl) rfl rfl ?_
 refine vdq (mone rfl) (vmin2 rfl rfl) rfl rfl ?_
 refine vdn rfl (mone rfl) (vld1 rfl rfl) rfl rfl ?_
 refine vdq (mone rfl) (vmax2 rfl rfl) rfl rfl ?_
 refine vdq (mone rfl) (vnc rfl) rfl rfl ?_
 refine vdq (mone rfl) (vfa rfl) rfl rfl ?_
 refine vdq (mone rfl) (vfa rfl) rfl rfl ?_
 refine vds (mone rfl) (vst1 rfl rfl rfl rfl) rfl ?_
 refine vdq (mone rfl) (vnc rfl) rfl rfl ?_
 refine vdq (mone rfl) (vfa rfl) rfl rfl ?_
 refine vdq (mone rfl) (vfa rfl) rfl rfl ?_
 refine vds (mone rfl) (vst1 rfl rfl rfl rfl) rfl ?_
 refine vdend rfl ?_
 refine vdraw1 (d := 1) rfl [(.q, 0), (.q, 1), (.q, 2), (.q, 3), (.q, 4), (.q, 5), (.q, 7), (.q, 8), (.q, 9), (.q, 10), (.q, 11), (.q, 12), (.q, 13), (.q, 15), (.q, 16), (.q, 17), (.q, 18), (.q, 20), (.q, 21), (.q, 22), (.q, 23), (.q, 24), (.q, 25), (.q, 26), (.n, 6), (.q, 14), (.n, 19), (.q, 27), (.q, 28), (.q, 29), (.q, 30), (.s, 31), (.q, 32), (.q, 33), (.q, 34), (.s, 35)] Tryd.mixed (by kernel_rfl) (allocOk_of _ (by kernel_rfl)) ?_
 refine vdq (mone rfl) (vmv rfl) rfl rfl ?_
 refine vdq (mone rfl) (vmv rfl) rfl rfl ?_
 refine vdq (mone rfl) (vmv rfl) rfl rfl ?_
 refine vdq (mone rfl) (vnc rfl) rfl rfl ?_
 refine vdq (mone rfl) (vfa rfl) rfl rfl ?_
 refine vdq (mone rfl) (vfa rfl) rfl rfl ?_
 refine vdq (mone rfl) (vfa rfl) rfl rfl ?_
 refine vdq (mone rfl) (vfa rfl) rfl rfl ?_
 refine vdq (mone rfl) (vfa rfl) rfl rfl ?_
 refine vdq (mone rfl) (vld1 rfl rfl) rfl rfl ?_
 refine vdq (mone rfl) (vfa rfl) rfl rfl ?_
 refine vdq (mone rfl) (vld1 rfl rfl) rfl rfl ?_
 refine vdq (mone rfl) (vadd rfl rfl (by unfold InR; omega)) rfl rfl ?_
 refine vdq (mone rfl) (vmv rfl) rfl rfl ?_
 refine vdq (mone rfl) (vnc rfl) rfl rfl ?_
 refine vdq (mone rfl) (vfa rfl) rfl rfl ?_
 refine vdq (mone rfl) (vfa rfl) rfl rfl ?_
 refine vdq (mone rfl) (vfa rfl) rfl rfl ?_
 refine vdq (mone rfl) (vfa rfl) rfl rfl ?_
 refine vdq (mone rfl) (vfa rfl) rfl rfl ?_
 refine vdq (mone rfl) (vld1 rfl rfl) rfl rfl ?_
 refine vdq (mone rfl) (vfa rfl) rfl rfl ?_
 refine vdq (mone rfl) (vld1 rfl rfl) rfl rfl ?_
 refine vdq (mone rfl) (vadd rfl rfl (by unfold InR; omega)) rfl rfl ?_
 refine vdn rfl (mone rfl) (vld1 rfl rfl) rfl rfl ?_
 refine vdq (mone rfl) (vmax2 rfl rfl) rfl rfl ?_
 refine vdn rfl (mone rfl) (vld1 rfl rfl) rfl rfl ?_
 refine vdq (mone rfl) (vmax2 rfl rfl) rfl rfl ?_
 refine vdq (mone rfl) (vnc rfl) rfl rfl ?_
 refine vdq (mone rfl) (vfa rfl) rfl rfl ?_
 refine vdq (mone rfl) (vfa rfl) rfl rfl ?_
 refine vds (mone rfl) (vst1 rfl rfl rfl rfl) rfl ?_
 refine vdq (mone rfl) (vnc rfl) rfl rfl ?_
 refine vdq (mone rfl) (vfa rfl) rfl rfl ?_
 refine vdq (mone rfl) (vfa rfl) rfl rfl ?_
 refine vds (mone rfl) (vst1 rfl rfl rfl rfl) rfl ?_
 refine vdend rfl ?_
 refine vend (vr0 (H' := [(b, _)]) Tryd.func153 rfl  sb ?_)
 exact ⟨rfl, rfl⟩

theorem c_TightG {z : Rg} (h : smallR z) : VPure Tryd.prog 102 [vR z] (tup [vR (tgR z), I 0]) := by
  obtain ⟨h1, _, _, h4⟩ := h
  obtain ⟨t, ht⟩ := Option.isSome_iff_exists.1 h4
  have e : tightE z = (tgR z, 0) := by unfold tightE tgR; rw [if_pos h1, ht]; rfl
  have := c_Tight z
  rw [e] at this; exact this
theorem c_ReachG {r : Rg} {n : Int} (h : Tgt1 r) (hn : 0 ≤ n ∧ n ≤ 32768) : VPure Tryd.prog 99 [vR r, I n] (tup [vR (reachR r n), I 0]) := by
  obtain ⟨w, _, h2, h3, _⟩ := reach_good h hn
  have := c_Reach r n
  rw [h2] at this; rw [h3]; exact this
theorem small_tgt {z : Rg} (h : smallR z) : Tgt1 (tgR z) := by
  obtain ⟨t, ht⟩ := Option.isSome_iff_exists.1 h.2.2.2
  unfold tgR; rw [ht]; exact Tgt1.of ht h.1
theorem up_fits {b : Bd} {n l z : Int} (h : b.fits l) (hz : (up b n).lo ≤ z ∧ z ≤ (up b n).hi) : (up b n).fits l := by unfold Bd.fits up at *; simp only at *; omega
theorem dn_fits {b : Bd} {n l z : Int} (h : b.fits l) (hz : (dn b n).lo ≤ z ∧ z ≤ (dn b n).hi) : (dn b n).fits l := by unfold Bd.fits dn at *; simp only at *; omega
theorem cone_ok {r a : Rg} {oc n : Int} (hr : r.ok) {p : Pt} (hp : inR (coneR r a oc n) p) : (coneR r a oc n).ok := by
  have key : ∀ c : Rg, coneR r a oc n = c → inR c p → c.ok := by
    intro c hc hp
    obtain ⟨k1, k2, k3, k4⟩ := hr
    unfold coneR at hc
    repeat' split at hc
    all_goals
      subst hc
      obtain ⟨g1, g2, g3, g4⟩ := hp
      refine ⟨?_, ?_, ?_, ?_⟩ <;> first | exact up_fits (by assumption) (by assumption) | exact dn_fits (by assumption) (by assumption) | assumption
  exact key _ rfl hp
theorem sight_cone {s : Sc} {x : Sg} {c : Rg} (hc : coneR (reachR (tgR (atR s.ship x.st.toNat)) x.fr) (tgR (atR s.ship x.st.toNat)) x.oc x.nr = c) (hsm : smallR (atR s.ship x.st.toNat)) (hf : 0 ≤ x.fr ∧ x.fr ≤ 256) : (tightE c).1 = (sightP s x).getD zR ∧ decide ((tightE c).2 = 0) = (sightP s x).isSome := by
  have hrc := reach_tgt (small_tgt hsm) (show 0 ≤ x.fr ∧ x.fr ≤ 32768 by omega)
  subst hc
  unfold sightP
  by_cases h : (coneR (reachR (tgR (atR s.ship x.st.toNat)) x.fr) (tgR (atR s.ship x.st.toNat)) x.oc x.nr).ok
  · unfold tightE
    rw [if_pos h]
    cases ht : tightP (coneR (reachR (tgR (atR s.ship x.st.toNat)) x.fr) (tgR (atR s.ship x.st.toNat)) x.oc x.nr) with
    | none => exact ⟨rfl, rfl⟩
    | some t => exact ⟨rfl, rfl⟩
  · have hn : tightP (coneR (reachR (tgR (atR s.ship x.st.toNat)) x.fr) (tgR (atR s.ship x.st.toNat)) x.oc x.nr) = none := by
      rw [tight_none]
      exact fun p hp => h (cone_ok hrc.ok hp)
    unfold tightE
    rw [if_neg h, hn]
    exact ⟨rfl, rfl⟩
theorem sq_bd {n : Int} (h : 0 ≤ n ∧ n ≤ 512) : 0 ≤ n * n ∧ n * n ≤ 262144 := by
  have := mul_bd (a := n) (b := n) (m := 512) (by omega) (by omega); omega
theorem half_step {n h : Int} (h0 : 0 ≤ h) (hl : ∀ j, 0 ≤ j → j < h → 2 * j * j < n * n) (hb : 2 * h * h < n * n) : ∀ j, 0 ≤ j → j < h + 1 → 2 * j * j < n * n := fun j hj hlt => by
  by_cases e : j = h
  · subst e; exact hb
  · exact hl j hj (by omega)
theorem half_bd {n h : Int} (hn : 0 ≤ n) (_h0 : 0 ≤ h) (hl : ∀ j, 0 ≤ j → j < h → 2 * j * j < n * n) : h ≤ n := by
  rcases Int.lt_or_le n h with h1 | h1
  · have := hl n hn h1
    have h2 := sq_nn n
    rw [Int.mul_assoc] at this; omega
  · exact h1
theorem oI2 {a b : Value} {c d : Bool} (h1 : a = b) (h2 : c = d) : Out.val (tup [a, .bool c]) = Out.val (tup [b, .bool d]) := by rw [h1, h2]

/-- (paravane/watch.scene).sighted -/
theorem c_sighted (h : SH) (s : Sc) (H : Heap) [hsc : ScO H h s] [hgl : Glob H] (st : Int) (nm : ByteArray) (oc nr fr : Int) (hst : 0 ≤ st ∧ st < s.ship.length) (hsm : smallR (atR s.ship st.toNat)) (hnr : 0 ≤ nr ∧ nr ≤ fr ∧ fr ≤ 256) (hoc : oc = 0 ∨ oc = 1 ∨ oc = 2 ∨ oc = 3 ∨ oc = 4 ∨ oc = 5 ∨ oc = 6 ∨ oc = 7 ∨ oc = -1) : VHas Tryd.prog 66 [vSc h s, vSg ⟨st, nm, oc, nr, fr⟩] (tup [vR ((sightP s ⟨st, nm, oc, nr, fr⟩).getD zR), .bool (sightP s ⟨st, nm, oc, nr, fr⟩).isSome]) (H) (H) := by
 have hbd := hsc.bd
 have hsq := sq_bd (n := nr) (by omega)
 obtain ⟨z, hz⟩ := get_of_lt s.ship (i := st.toNat) (by omega)
 have hza := atR_of hz
 rw [hza] at hsm
 have htg := small_tgt hsm
 have hsmb := htg.ok.sm
 refine vcall_of_vrun Tryd.func66 rfl (N := 64) rfl rfl ?_
 refine vseq ?_
 refine vregion ?_
 refine vone rfl (vxa (vbox rfl rfl) rfl rfl (fun b1 => ?_))
 refine vone rfl (vxa (vbox rfl rfl) rfl rfl (fun b2 => ?_))
 refine vone rfl (vxa valloc rfl rfl (fun b3 => ?_))
 refine vone rfl (vxq (vas rfl) rfl rfl ?_)
 refine vnil ?_
 refine vseq ?_
 refine vregion ?_
 refine vone rfl (vxq (vfa rfl) rfl rfl ?_)
 refine vone rfl (vxq (vfa rfl) rfl rfl ?_)
 refine vone rfl (vxq (vld1 rfl rfl) rfl rfl ?_)
 refine vone rfl (vxq (vfa rfl) rfl rfl ?_)
 refine vone rfl (vxq (vld1 rfl rfl) rfl rfl ?_)
 refine vone rfl (vxq (visg (enc := clR) rfl rfl (by omega) hz) rfl rfl ?_)
 refine vone rfl (vxq (vldS (enc := clR) rfl hz) rfl rfl ?_)
 refine vone rfl (vxq (vcp rfl rfl rfl (c_TightG hsm)) rfl rfl ?_)
 refine vone rfl (vxq (vmv rfl) rfl rfl ?_)
 refine vone rfl (vxq (vex rfl rfl) rfl rfl ?_)
 refine vone rfl (vxq (vex rfl rfl) rfl rfl ?_)
 refine vone rfl (vxa valloc rfl rfl (fun b4 => ?_))
 refine vone rfl (vxs (vstn rfl rfl rfl rfl rfl) rfl ?_)
 refine vone rfl (vxq (vas rfl) rfl rfl ?_)
 refine vnil ?_
 refine vseq ?_
 refine vregion ?_
 refine vone rfl (vxq (vldn rfl rfl) rfl rfl ?_)
 refine vone rfl (vxq (vfa rfl) rfl rfl ?_)
 refine vone rfl (vxq (vld1 rfl rfl) rfl rfl ?_)
 refine vone rfl (vxq (vcp rfl rfl rfl (c_ReachG htg (by (try simp only); omega))) rfl rfl ?_)
 refine vone rfl (vxq (vmv rfl) rfl rfl ?_)
 refine vone rfl (vxq (vex rfl rfl) rfl rfl ?_)
 refine vone rfl (vxq (vex rfl rfl) rfl rfl ?_)
 refine vone rfl (vxa valloc rfl rfl (fun b5 => ?_))
 refine vone rfl (vxs (vstn rfl rfl rfl rfl rfl) rfl ?_)
 refine vone rfl (vxq (vas rfl) rfl rfl ?_)
 refine vnil ?_
 refine vseq ?_
 refine vseq ?_
 refine vregion ?_
 refine vone rfl (vxq (vfa rfl) rfl rfl ?_)
 refine vone rfl (vxq (vld1 rfl rfl) rfl rfl ?_)
 refine vone rfl (vxq (vneq rfl rfl) rfl rfl ?_)
 refine vnil ?_
 refine vcondd rfl (fun h33 => ?_) (fun h33 => ?_)
 ·
  refine vseq ?_
  refine vregion ?_
  refine vone rfl (vxq (vas rfl) rfl rfl ?_)
  refine vnil ?_
  refine vseq ?_
  refine vblock ?_
  refine vwhile (σ := Int) (fun hf => (nr + 1 - hf).toNat) (fun hf => [(2, ptr b1), (3, ptr b2), (4, ptr b3), (6, ptr b4), (8, ptr b5), (10, I hf)]) (fun hf => (b5, blk (clR (reachR (tgR z) fr)) 55) :: (b4, blk (clR (tgR z)) 55) :: (b3, blk (clR zR) 55) :: (b2, blk (clSg ⟨st, nm, oc, nr, fr⟩) 49) :: (b1, blk (clSc h s) 106) :: H) (fun hf => 0 ≤ hf ∧ ∀ j, 0 ≤ j → j < hf → 2 * j * j < nr * nr) 0 ⟨by omega, fun j h1 h2 => by omega⟩ ⟨rfl, rfl, rfl, rfl, rfl, rfl, True.intro⟩ sb ?_
  rintro hf ⟨hf0, hfl⟩ IH
  change VRun _ _ _ _ _ [(2, ptr b1), (3, ptr b2), (4, ptr b3), (6, ptr b4), (8, ptr b5), (10, I hf)] _ ((b5, blk (clR (reachR (tgR z) fr)) 55) :: (b4, blk (clR (tgR z)) 55) :: (b3, blk (clR zR) 55) :: (b2, blk (clSg ⟨st, nm, oc, nr, fr⟩) 49) :: (b1, blk (clSc h s) 106) :: H) _
  have hfb := half_bd hnr.1 hf0 hfl
  have hq := sq_bd (n := hf) (by omega)
  have hqq : 2 * hf * hf = 2 * (hf * hf) := Int.mul_assoc _ _ _
  refine vseq ?_
  refine vseq ?_
  refine vregion ?_
  refine vone rfl (vxq (vmv rfl) rfl rfl ?_)
  refine vone rfl (vxq (vmul rfl rfl (by unfold InR; (try simp only); omega)) rfl rfl ?_)
  refine vone rfl (vxq (vmv rfl) rfl rfl ?_)
  refine vone rfl (vxq (vmul rfl rfl (by unfold InR; (try simp only); omega)) rfl rfl ?_)
  refine vone rfl (vxq (vfa rfl) rfl rfl ?_)
  refine vone rfl (vxq (vld1 rfl rfl) rfl rfl ?_)
  refine vone rfl (vxq (vfa rfl) rfl rfl ?_)
  refine vone rfl (vxq (vld1 rfl rfl) rfl rfl ?_)
  refine vone rfl (vxq (vmul rfl rfl (by unfold InR; (try simp only); omega)) rfl rfl ?_)
  refine vone rfl (vxq (vlss rfl rfl) rfl rfl ?_)
  refine vnil ?_
  refine vcondd rfl (fun h43 => ?_) (fun h43 => ?_)
  ·
   refine vskip ?_
   refine vblock ?_
   refine vregion ?_
   refine vone rfl (vxq (vmv rfl) rfl rfl ?_)
   refine vone rfl (vxq (vadd rfl rfl (by unfold InR; (try simp only); omega)) rfl rfl ?_)
   refine vone rfl (vxq (vas rfl) rfl rfl ?_)
   refine vnil ?_
   refine vinblock ?_
   exact vback (IH (hf + 1) ⟨by omega, half_step hf0 hfl h43⟩ (by show (_ : Int).toNat < (_ : Int).toNat; omega)) ⟨rfl, rfl, rfl, rfl, rfl, rfl, True.intro⟩ sb
  ·
   have hfe := halfP_eq hnr.1 hf0 (Int.not_lt.1 h43) hfl
   subst hfe
   refine vexit (k' := _) rfl ?_
   refine vdraw0 [(.q, 0), (.q, 1), (.q, 2), (.q, 3), (.q, 4), (.q, 5), (.q, 6), (.q, 7), (.q, 8), (.w, 9)] Tryd.mixed (by kernel_rfl) (by kernel_rfl) ?_
   refine vdq (mone rfl) (vfa rfl) rfl rfl ?_
   refine vdq (mone rfl) (vld1 rfl rfl) rfl rfl ?_
   rcases hoc with rfl | rfl | rfl | rfl | rfl | rfl | rfl | rfl | rfl
   ·
    refine vdq (mone rfl) (via rfl rfl (by (try simp only); omega)) rfl rfl ?_
    refine vdq (mone rfl) (vglO rfl rfl) rfl rfl ?_
    refine vdq (mone rfl) (vldn rfl rfl) rfl rfl ?_
    refine vdq (mone rfl) (vfa rfl) rfl rfl ?_
    refine vdq (mone rfl) (vld1 rfl rfl) rfl rfl ?_
    refine vdq (mone rfl) (vmv rfl) rfl rfl ?_
    refine vdq (mone rfl) (vbd rfl rfl) rfl rfl ?_
    refine vdw rfl (mone rfl) (vch rfl rfl rfl ((by first | exact (h_oct0 _ _ _ _ hsmb (by (try simp only); omega) (by omega) b5).at1 | exact (h_oct1 _ _ _ _ hsmb (by (try simp only); omega) (by omega) b5).at1 | exact (h_oct2 _ _ _ _ hsmb (by (try simp only); omega) (by omega) b5).at1 | exact (h_oct3 _ _ _ _ hsmb (by (try simp only); omega) (by omega) b5).at1 | exact (h_oct4 _ _ _ _ hsmb (by (try simp only); omega) (by omega) b5).at1 | exact (h_oct5 _ _ _ _ hsmb (by (try simp only); omega) (by omega) b5).at1 | exact (h_oct6 _ _ _ _ hsmb (by (try simp only); omega) (by omega) b5).at1 | exact (h_oct7 _ _ _ _ hsmb (by (try simp only); omega) (by omega) b5).at1))) rfl rfl ?_
    rintro _ _ ⟨rfl, rfl⟩
    refine vdend rfl ?_
    refine vseq ?_
    refine vregion ?_
    refine vone rfl (vxq (vldn rfl rfl) rfl rfl ?_)
    refine vone rfl (vxq (vcp rfl rfl rfl (c_Tight _)) rfl rfl ?_)
    refine vone rfl (vxq (vmv rfl) rfl rfl ?_)
    refine vone rfl (vxq (vex rfl rfl) rfl rfl ?_)
    refine vone rfl (vxq (vex rfl rfl) rfl rfl ?_)
    refine vone rfl (vxa valloc rfl rfl (fun b6 => ?_))
    refine vone rfl (vxs (vstn rfl rfl rfl rfl rfl) rfl ?_)
    refine vone rfl (vxq (vas rfl) rfl rfl ?_)
    refine vnil ?_
    refine vseq ?_
    refine vregion ?_
    refine vone rfl (vxq (vldn rfl rfl) rfl rfl ?_)
    refine vone rfl (vxq (vmv rfl) rfl rfl ?_)
    refine vone rfl (vxq (veql rfl rfl) rfl rfl ?_)
    refine vone rfl (vxs (vstn rfl rfl rfl rfl rfl) rfl ?_)
    refine vone rfl (vxq (vas rfl) rfl rfl ?_)
    refine vnil ?_
    refine vret (vr2 (H' := H) Tryd.func66 rfl (.celln rfl rfl) (.tmp rfl) sb ?_)
    first | (have e := Classical.not_not.1 h33; subst e; have hh := sight_cone (s := s) (x := ⟨st, nm, (-1), nr, fr⟩) rfl (by rw [hza]; exact hsm) (by (try simp only); omega); simp only [hza] at hh; exact ⟨oI2 (congrArg vR hh.1) hh.2, rfl⟩) | (have hh := sight_cone (s := s) (x := ⟨st, nm, 0, nr, fr⟩) rfl (by rw [hza]; exact hsm) (by (try simp only); omega); simp only [hza] at hh; exact ⟨oI2 (congrArg vR hh.1) hh.2, rfl⟩) | (have hh := sight_cone (s := s) (x := ⟨st, nm, 1, nr, fr⟩) rfl (by rw [hza]; exact hsm) (by (try simp only); omega); simp only [hza] at hh; exact ⟨oI2 (congrArg vR hh.1) hh.2, rfl⟩) | (have hh := sight_cone (s := s) (x := ⟨st, nm, 2, nr, fr⟩) rfl (by rw [hza]; exact hsm) (by (try simp only); omega); simp only [hza] at hh; exact ⟨oI2 (congrArg vR hh.1) hh.2, rfl⟩) | (have hh := sight_cone (s := s) (x := ⟨st, nm, 3, nr, fr⟩) rfl (by rw [hza]; exact hsm) (by (try simp only); omega); simp only [hza] at hh; exact ⟨oI2 (congrArg vR hh.1) hh.2, rfl⟩) | (have hh := sight_cone (s := s) (x := ⟨st, nm, 4, nr, fr⟩) rfl (by rw [hza]; exact hsm) (by (try simp only); omega); simp only [hza] at hh; exact ⟨oI2 (congrArg vR hh.1) hh.2, rfl⟩) | (have hh := sight_cone (s := s) (x := ⟨st, nm, 5, nr, fr⟩) rfl (by rw [hza]; exact hsm) (by (try simp only); omega); simp only [hza] at hh; exact ⟨oI2 (congrArg vR hh.1) hh.2, rfl⟩) | (have hh := sight_cone (s := s) (x := ⟨st, nm, 6, nr, fr⟩) rfl (by rw [hza]; exact hsm) (by (try simp only); omega); simp only [hza] at hh; exact ⟨oI2 (congrArg vR hh.1) hh.2, rfl⟩) | (have hh := sight_cone (s := s) (x := ⟨st, nm, 7, nr, fr⟩) rfl (by rw [hza]; exact hsm) (by (try simp only); omega); simp only [hza] at hh; exact ⟨oI2 (congrArg vR hh.1) hh.2, rfl⟩)
   ·
    refine vdq (mone rfl) (via rfl rfl (by (try simp only); omega)) rfl rfl ?_
    refine vdq (mone rfl) (vglO rfl rfl) rfl rfl ?_
    refine vdq (mone rfl) (vldn rfl rfl) rfl rfl ?_
    refine vdq (mone rfl) (vfa rfl) rfl rfl ?_
    refine vdq (mone rfl) (vld1 rfl rfl) rfl rfl ?_
    refine vdq (mone rfl) (vmv rfl) rfl rfl ?_
    refine vdq (mone rfl) (vbd rfl rfl) rfl rfl ?_
    refine vdw rfl (mone rfl) (vch rfl rfl rfl ((by first | exact (h_oct0 _ _ _ _ hsmb (by (try simp only); omega) (by omega) b5).at1 | exact (h_oct1 _ _ _ _ hsmb (by (try simp only); omega) (by omega) b5).at1 | exact (h_oct2 _ _ _ _ hsmb (by (try simp only); omega) (by omega) b5).at1 | exact (h_oct3 _ _ _ _ hsmb (by (try simp only); omega) (by omega) b5).at1 | exact (h_oct4 _ _ _ _ hsmb (by (try simp only); omega) (by omega) b5).at1 | exact (h_oct5 _ _ _ _ hsmb (by (try simp only); omega) (by omega) b5).at1 | exact (h_oct6 _ _ _ _ hsmb (by (try simp only); omega) (by omega) b5).at1 | exact (h_oct7 _ _ _ _ hsmb (by (try simp only); omega) (by omega) b5).at1))) rfl rfl ?_
    rintro _ _ ⟨rfl, rfl⟩
    refine vdend rfl ?_
    refine vseq ?_
    refine vregion ?_
    refine vone rfl (vxq (vldn rfl rfl) rfl rfl ?_)
    refine vone rfl (vxq (vcp rfl rfl rfl (c_Tight _)) rfl rfl ?_)
    refine vone rfl (vxq (vmv rfl) rfl rfl ?_)
    refine vone rfl (vxq (vex rfl rfl) rfl rfl ?_)
    refine vone rfl (vxq (vex rfl rfl) rfl rfl ?_)
    refine vone rfl (vxa valloc rfl rfl (fun b7 => ?_))
    refine vone rfl (vxs (vstn rfl rfl rfl rfl rfl) rfl ?_)
    refine vone rfl (vxq (vas rfl) rfl rfl ?_)
    refine vnil ?_
    refine vseq ?_
    refine vregion ?_
    refine vone rfl (vxq (vldn rfl rfl) rfl rfl ?_)
    refine vone rfl (vxq (vmv rfl) rfl rfl ?_)
    refine vone rfl (vxq (veql rfl rfl) rfl rfl ?_)
    refine vone rfl (vxs (vstn rfl rfl rfl rfl rfl) rfl ?_)
    refine vone rfl (vxq (vas rfl) rfl rfl ?_)
    refine vnil ?_
    refine vret (vr2 (H' := H) Tryd.func66 rfl (.celln rfl rfl) (.tmp rfl) sb ?_)
    first | (have e := Classical.not_not.1 h33; subst e; have hh := sight_cone (s := s) (x := ⟨st, nm, (-1), nr, fr⟩) rfl (by rw [hza]; exact hsm) (by (try simp only); omega); simp only [hza] at hh; exact ⟨oI2 (congrArg vR hh.1) hh.2, rfl⟩) | (have hh := sight_cone (s := s) (x := ⟨st, nm, 0, nr, fr⟩) rfl (by rw [hza]; exact hsm) (by (try simp only); omega); simp only [hza] at hh; exact ⟨oI2 (congrArg vR hh.1) hh.2, rfl⟩) | (have hh := sight_cone (s := s) (x := ⟨st, nm, 1, nr, fr⟩) rfl (by rw [hza]; exact hsm) (by (try simp only); omega); simp only [hza] at hh; exact ⟨oI2 (congrArg vR hh.1) hh.2, rfl⟩) | (have hh := sight_cone (s := s) (x := ⟨st, nm, 2, nr, fr⟩) rfl (by rw [hza]; exact hsm) (by (try simp only); omega); simp only [hza] at hh; exact ⟨oI2 (congrArg vR hh.1) hh.2, rfl⟩) | (have hh := sight_cone (s := s) (x := ⟨st, nm, 3, nr, fr⟩) rfl (by rw [hza]; exact hsm) (by (try simp only); omega); simp only [hza] at hh; exact ⟨oI2 (congrArg vR hh.1) hh.2, rfl⟩) | (have hh := sight_cone (s := s) (x := ⟨st, nm, 4, nr, fr⟩) rfl (by rw [hza]; exact hsm) (by (try simp only); omega); simp only [hza] at hh; exact ⟨oI2 (congrArg vR hh.1) hh.2, rfl⟩) | (have hh := sight_cone (s := s) (x := ⟨st, nm, 5, nr, fr⟩) rfl (by rw [hza]; exact hsm) (by (try simp only); omega); simp only [hza] at hh; exact ⟨oI2 (congrArg vR hh.1) hh.2, rfl⟩) | (have hh := sight_cone (s := s) (x := ⟨st, nm, 6, nr, fr⟩) rfl (by rw [hza]; exact hsm) (by (try simp only); omega); simp only [hza] at hh; exact ⟨oI2 (congrArg vR hh.1) hh.2, rfl⟩) | (have hh := sight_cone (s := s) (x := ⟨st, nm, 7, nr, fr⟩) rfl (by rw [hza]; exact hsm) (by (try simp only); omega); simp only [hza] at hh; exact ⟨oI2 (congrArg vR hh.1) hh.2, rfl⟩)
   ·
    refine vdq (mone rfl) (via rfl rfl (by (try simp only); omega)) rfl rfl ?_
    refine vdq (mone rfl) (vglO rfl rfl) rfl rfl ?_
    refine vdq (mone rfl) (vldn rfl rfl) rfl rfl ?_
    refine vdq (mone rfl) (vfa rfl) rfl rfl ?_
    refine vdq (mone rfl) (vld1 rfl rfl) rfl rfl ?_
    refine vdq (mone rfl) (vmv rfl) rfl rfl ?_
    refine vdq (mone rfl) (vbd rfl rfl) rfl rfl ?_
    refine vdw rfl (mone rfl) (vch rfl rfl rfl ((by first | exact (h_oct0 _ _ _ _ hsmb (by (try simp only); omega) (by omega) b5).at1 | exact (h_oct1 _ _ _ _ hsmb (by (try simp only); omega) (by omega) b5).at1 | exact (h_oct2 _ _ _ _ hsmb (by (try simp only); omega) (by omega) b5).at1 | exact (h_oct3 _ _ _ _ hsmb (by (try simp only); omega) (by omega) b5).at1 | exact (h_oct4 _ _ _ _ hsmb (by (try simp only); omega) (by omega) b5).at1 | exact (h_oct5 _ _ _ _ hsmb (by (try simp only); omega) (by omega) b5).at1 | exact (h_oct6 _ _ _ _ hsmb (by (try simp only); omega) (by omega) b5).at1 | exact (h_oct7 _ _ _ _ hsmb (by (try simp only); omega) (by omega) b5).at1))) rfl rfl ?_
    rintro _ _ ⟨rfl, rfl⟩
    refine vdend rfl ?_
    refine vseq ?_
    refine vregion ?_
    refine vone rfl (vxq (vldn rfl rfl) rfl rfl ?_)
    refine vone rfl (vxq (vcp rfl rfl rfl (c_Tight _)) rfl rfl ?_)
    refine vone rfl (vxq (vmv rfl) rfl rfl ?_)
    refine vone rfl (vxq (vex rfl rfl) rfl rfl ?_)
    refine vone rfl (vxq (vex rfl rfl) rfl rfl ?_)
    refine vone rfl (vxa valloc rfl rfl (fun b8 => ?_))
    refine vone rfl (vxs (vstn rfl rfl rfl rfl rfl) rfl ?_)
    refine vone rfl (vxq (vas rfl) rfl rfl ?_)
    refine vnil ?_
    refine vseq ?_
    refine vregion ?_
    refine vone rfl (vxq (vldn rfl rfl) rfl rfl ?_)
    refine vone rfl (vxq (vmv rfl) rfl rfl ?_)
    refine vone rfl (vxq (veql rfl rfl) rfl rfl ?_)
    refine vone rfl (vxs (vstn rfl rfl rfl rfl rfl) rfl ?_)
    refine vone rfl (vxq (vas rfl) rfl rfl ?_)
    refine vnil ?_
    refine vret (vr2 (H' := H) Tryd.func66 rfl (.celln rfl rfl) (.tmp rfl) sb ?_)
    first | (have e := Classical.not_not.1 h33; subst e; have hh := sight_cone (s := s) (x := ⟨st, nm, (-1), nr, fr⟩) rfl (by rw [hza]; exact hsm) (by (try simp only); omega); simp only [hza] at hh; exact ⟨oI2 (congrArg vR hh.1) hh.2, rfl⟩) | (have hh := sight_cone (s := s) (x := ⟨st, nm, 0, nr, fr⟩) rfl (by rw [hza]; exact hsm) (by (try simp only); omega); simp only [hza] at hh; exact ⟨oI2 (congrArg vR hh.1) hh.2, rfl⟩) | (have hh := sight_cone (s := s) (x := ⟨st, nm, 1, nr, fr⟩) rfl (by rw [hza]; exact hsm) (by (try simp only); omega); simp only [hza] at hh; exact ⟨oI2 (congrArg vR hh.1) hh.2, rfl⟩) | (have hh := sight_cone (s := s) (x := ⟨st, nm, 2, nr, fr⟩) rfl (by rw [hza]; exact hsm) (by (try simp only); omega); simp only [hza] at hh; exact ⟨oI2 (congrArg vR hh.1) hh.2, rfl⟩) | (have hh := sight_cone (s := s) (x := ⟨st, nm, 3, nr, fr⟩) rfl (by rw [hza]; exact hsm) (by (try simp only); omega); simp only [hza] at hh; exact ⟨oI2 (congrArg vR hh.1) hh.2, rfl⟩) | (have hh := sight_cone (s := s) (x := ⟨st, nm, 4, nr, fr⟩) rfl (by rw [hza]; exact hsm) (by (try simp only); omega); simp only [hza] at hh; exact ⟨oI2 (congrArg vR hh.1) hh.2, rfl⟩) | (have hh := sight_cone (s := s) (x := ⟨st, nm, 5, nr, fr⟩) rfl (by rw [hza]; exact hsm) (by (try simp only); omega); simp only [hza] at hh; exact ⟨oI2 (congrArg vR hh.1) hh.2, rfl⟩) | (have hh := sight_cone (s := s) (x := ⟨st, nm, 6, nr, fr⟩) rfl (by rw [hza]; exact hsm) (by (try simp only); omega); simp only [hza] at hh; exact ⟨oI2 (congrArg vR hh.1) hh.2, rfl⟩) | (have hh := sight_cone (s := s) (x := ⟨st, nm, 7, nr, fr⟩) rfl (by rw [hza]; exact hsm) (by (try simp only); omega); simp only [hza] at hh; exact ⟨oI2 (congrArg vR hh.1) hh.2, rfl⟩)
   ·
    refine vdq (mone rfl) (via rfl rfl (by (try simp only); omega)) rfl rfl ?_
    refine vdq (mone rfl) (vglO rfl rfl) rfl rfl ?_
    refine vdq (mone rfl) (vldn rfl rfl) rfl rfl ?_
    refine vdq (mone rfl) (vfa rfl) rfl rfl ?_
    refine vdq (mone rfl) (vld1 rfl rfl) rfl rfl ?_
    refine vdq (mone rfl) (vmv rfl) rfl rfl ?_
    refine vdq (mone rfl) (vbd rfl rfl) rfl rfl ?_
    refine vdw rfl (mone rfl) (vch rfl rfl rfl ((by first | exact (h_oct0 _ _ _ _ hsmb (by (try simp only); omega) (by omega) b5).at1 | exact (h_oct1 _ _ _ _ hsmb (by (try simp only); omega) (by omega) b5).at1 | exact (h_oct2 _ _ _ _ hsmb (by (try simp only); omega) (by omega) b5).at1 | exact (h_oct3 _ _ _ _ hsmb (by (try simp only); omega) (by omega) b5).at1 | exact (h_oct4 _ _ _ _ hsmb (by (try simp only); omega) (by omega) b5).at1 | exact (h_oct5 _ _ _ _ hsmb (by (try simp only); omega) (by omega) b5).at1 | exact (h_oct6 _ _ _ _ hsmb (by (try simp only); omega) (by omega) b5).at1 | exact (h_oct7 _ _ _ _ hsmb (by (try simp only); omega) (by omega) b5).at1))) rfl rfl ?_
    rintro _ _ ⟨rfl, rfl⟩
    refine vdend rfl ?_
    refine vseq ?_
    refine vregion ?_
    refine vone rfl (vxq (vldn rfl rfl) rfl rfl ?_)
    refine vone rfl (vxq (vcp rfl rfl rfl (c_Tight _)) rfl rfl ?_)
    refine vone rfl (vxq (vmv rfl) rfl rfl ?_)
    refine vone rfl (vxq (vex rfl rfl) rfl rfl ?_)
    refine vone rfl (vxq (vex rfl rfl) rfl rfl ?_)
    refine vone rfl (vxa valloc rfl rfl (fun b9 => ?_))
    refine vone rfl (vxs (vstn rfl rfl rfl rfl rfl) rfl ?_)
    refine vone rfl (vxq (vas rfl) rfl rfl ?_)
    refine vnil ?_
    refine vseq ?_
    refine vregion ?_
    refine vone rfl (vxq (vldn rfl rfl) rfl rfl ?_)
    refine vone rfl (vxq (vmv rfl) rfl rfl ?_)
    refine vone rfl (vxq (veql rfl rfl) rfl rfl ?_)
    refine vone rfl (vxs (vstn rfl rfl rfl rfl rfl) rfl ?_)
    refine vone rfl (vxq (vas rfl) rfl rfl ?_)
    refine vnil ?_
    refine vret (vr2 (H' := H) Tryd.func66 rfl (.celln rfl rfl) (.tmp rfl) sb ?_)
    first | (have e := Classical.not_not.1 h33; subst e; have hh := sight_cone (s := s) (x := ⟨st, nm, (-1), nr, fr⟩) rfl (by rw [hza]; exact hsm) (by (try simp only); omega); simp only [hza] at hh; exact ⟨oI2 (congrArg vR hh.1) hh.2, rfl⟩) | (have hh := sight_cone (s := s) (x := ⟨st, nm, 0, nr, fr⟩) rfl (by rw [hza]; exact hsm) (by (try simp only); omega); simp only [hza] at hh; exact ⟨oI2 (congrArg vR hh.1) hh.2, rfl⟩) | (have hh := sight_cone (s := s) (x := ⟨st, nm, 1, nr, fr⟩) rfl (by rw [hza]; exact hsm) (by (try simp only); omega); simp only [hza] at hh; exact ⟨oI2 (congrArg vR hh.1) hh.2, rfl⟩) | (have hh := sight_cone (s := s) (x := ⟨st, nm, 2, nr, fr⟩) rfl (by rw [hza]; exact hsm) (by (try simp only); omega); simp only [hza] at hh; exact ⟨oI2 (congrArg vR hh.1) hh.2, rfl⟩) | (have hh := sight_cone (s := s) (x := ⟨st, nm, 3, nr, fr⟩) rfl (by rw [hza]; exact hsm) (by (try simp only); omega); simp only [hza] at hh; exact ⟨oI2 (congrArg vR hh.1) hh.2, rfl⟩) | (have hh := sight_cone (s := s) (x := ⟨st, nm, 4, nr, fr⟩) rfl (by rw [hza]; exact hsm) (by (try simp only); omega); simp only [hza] at hh; exact ⟨oI2 (congrArg vR hh.1) hh.2, rfl⟩) | (have hh := sight_cone (s := s) (x := ⟨st, nm, 5, nr, fr⟩) rfl (by rw [hza]; exact hsm) (by (try simp only); omega); simp only [hza] at hh; exact ⟨oI2 (congrArg vR hh.1) hh.2, rfl⟩) | (have hh := sight_cone (s := s) (x := ⟨st, nm, 6, nr, fr⟩) rfl (by rw [hza]; exact hsm) (by (try simp only); omega); simp only [hza] at hh; exact ⟨oI2 (congrArg vR hh.1) hh.2, rfl⟩) | (have hh := sight_cone (s := s) (x := ⟨st, nm, 7, nr, fr⟩) rfl (by rw [hza]; exact hsm) (by (try simp only); omega); simp only [hza] at hh; exact ⟨oI2 (congrArg vR hh.1) hh.2, rfl⟩)
   ·
    refine vdq (mone rfl) (via rfl rfl (by (try simp only); omega)) rfl rfl ?_
    refine vdq (mone rfl) (vglO rfl rfl) rfl rfl ?_
    refine vdq (mone rfl) (vldn rfl rfl) rfl rfl ?_
    refine vdq (mone rfl) (vfa rfl) rfl rfl ?_
    refine vdq (mone rfl) (vld1 rfl rfl) rfl rfl ?_
    refine vdq (mone rfl) (vmv rfl) rfl rfl ?_
    refine vdq (mone rfl) (vbd rfl rfl) rfl rfl ?_
    refine vdw rfl (mone rfl) (vch rfl rfl rfl ((by first | exact (h_oct0 _ _ _ _ hsmb (by (try simp only); omega) (by omega) b5).at1 | exact (h_oct1 _ _ _ _ hsmb (by (try simp only); omega) (by omega) b5).at1 | exact (h_oct2 _ _ _ _ hsmb (by (try simp only); omega) (by omega) b5).at1 | exact (h_oct3 _ _ _ _ hsmb (by (try simp only); omega) (by omega) b5).at1 | exact (h_oct4 _ _ _ _ hsmb (by (try simp only); omega) (by omega) b5).at1 | exact (h_oct5 _ _ _ _ hsmb (by (try simp only); omega) (by omega) b5).at1 | exact (h_oct6 _ _ _ _ hsmb (by (try simp only); omega) (by omega) b5).at1 | exact (h_oct7 _ _ _ _ hsmb (by (try simp only); omega) (by omega) b5).at1))) rfl rfl ?_
    rintro _ _ ⟨rfl, rfl⟩
    refine vdend rfl ?_
    refine vseq ?_
    refine vregion ?_
    refine vone rfl (vxq (vldn rfl rfl) rfl rfl ?_)
    refine vone rfl (vxq (vcp rfl rfl rfl (c_Tight _)) rfl rfl ?_)
    refine vone rfl (vxq (vmv rfl) rfl rfl ?_)
    refine vone rfl (vxq (vex rfl rfl) rfl rfl ?_)
    refine vone rfl (vxq (vex rfl rfl) rfl rfl ?_)
    refine vone rfl (vxa valloc rfl rfl (fun b10 => ?_))
    refine vone rfl (vxs (vstn rfl rfl rfl rfl rfl) rfl ?_)
    refine vone rfl (vxq (vas rfl) rfl rfl ?_)
    refine vnil ?_
    refine vseq ?_
    refine vregion ?_
    refine vone rfl (vxq (vldn rfl rfl) rfl rfl ?_)
    refine vone rfl (vxq (vmv rfl) rfl rfl ?_)
    refine vone rfl (vxq (veql rfl rfl) rfl rfl ?_)
    refine vone rfl (vxs (vstn rfl rfl rfl rfl rfl) rfl ?_)
    refine vone rfl (vxq (vas rfl) rfl rfl ?_)
    refine vnil ?_
    refine vret (vr2 (H' := H) Tryd.func66 rfl (.celln rfl rfl) (.tmp rfl) sb ?_)
    first | (have e := Classical.not_not.1 h33; subst e; have hh := sight_cone (s := s) (x := ⟨st, nm, (-1), nr, fr⟩) rfl (by rw [hza]; exact hsm) (by (try simp only); omega); simp only [hza] at hh; exact ⟨oI2 (congrArg vR hh.1) hh.2, rfl⟩) | (have hh := sight_cone (s := s) (x := ⟨st, nm, 0, nr, fr⟩) rfl (by rw [hza]; exact hsm) (by (try simp only); omega); simp only [hza] at hh; exact ⟨oI2 (congrArg vR hh.1) hh.2, rfl⟩) | (have hh := sight_cone (s := s) (x := ⟨st, nm, 1, nr, fr⟩) rfl (by rw [hza]; exact hsm) (by (try simp only); omega); simp only [hza] at hh; exact ⟨oI2 (congrArg vR hh.1) hh.2, rfl⟩) | (have hh := sight_cone (s := s) (x := ⟨st, nm, 2, nr, fr⟩) rfl (by rw [hza]; exact hsm) (by (try simp only); omega); simp only [hza] at hh; exact ⟨oI2 (congrArg vR hh.1) hh.2, rfl⟩) | (have hh := sight_cone (s := s) (x := ⟨st, nm, 3, nr, fr⟩) rfl (by rw [hza]; exact hsm) (by (try simp only); omega); simp only [hza] at hh; exact ⟨oI2 (congrArg vR hh.1) hh.2, rfl⟩) | (have hh := sight_cone (s := s) (x := ⟨st, nm, 4, nr, fr⟩) rfl (by rw [hza]; exact hsm) (by (try simp only); omega); simp only [hza] at hh; exact ⟨oI2 (congrArg vR hh.1) hh.2, rfl⟩) | (have hh := sight_cone (s := s) (x := ⟨st, nm, 5, nr, fr⟩) rfl (by rw [hza]; exact hsm) (by (try simp only); omega); simp only [hza] at hh; exact ⟨oI2 (congrArg vR hh.1) hh.2, rfl⟩) | (have hh := sight_cone (s := s) (x := ⟨st, nm, 6, nr, fr⟩) rfl (by rw [hza]; exact hsm) (by (try simp only); omega); simp only [hza] at hh; exact ⟨oI2 (congrArg vR hh.1) hh.2, rfl⟩) | (have hh := sight_cone (s := s) (x := ⟨st, nm, 7, nr, fr⟩) rfl (by rw [hza]; exact hsm) (by (try simp only); omega); simp only [hza] at hh; exact ⟨oI2 (congrArg vR hh.1) hh.2, rfl⟩)
   ·
    refine vdq (mone rfl) (via rfl rfl (by (try simp only); omega)) rfl rfl ?_
    refine vdq (mone rfl) (vglO rfl rfl) rfl rfl ?_
    refine vdq (mone rfl) (vldn rfl rfl) rfl rfl ?_
    refine vdq (mone rfl) (vfa rfl) rfl rfl ?_
    refine vdq (mone rfl) (vld1 rfl rfl) rfl rfl ?_
    refine vdq (mone rfl) (vmv rfl) rfl rfl ?_
    refine vdq (mone rfl) (vbd rfl rfl) rfl rfl ?_
    refine vdw rfl (mone rfl) (vch rfl rfl rfl ((by first | exact (h_oct0 _ _ _ _ hsmb (by (try simp only); omega) (by omega) b5).at1 | exact (h_oct1 _ _ _ _ hsmb (by (try simp only); omega) (by omega) b5).at1 | exact (h_oct2 _ _ _ _ hsmb (by (try simp only); omega) (by omega) b5).at1 | exact (h_oct3 _ _ _ _ hsmb (by (try simp only); omega) (by omega) b5).at1 | exact (h_oct4 _ _ _ _ hsmb (by (try simp only); omega) (by omega) b5).at1 | exact (h_oct5 _ _ _ _ hsmb (by (try simp only); omega) (by omega) b5).at1 | exact (h_oct6 _ _ _ _ hsmb (by (try simp only); omega) (by omega) b5).at1 | exact (h_oct7 _ _ _ _ hsmb (by (try simp only); omega) (by omega) b5).at1))) rfl rfl ?_
    rintro _ _ ⟨rfl, rfl⟩
    refine vdend rfl ?_
    refine vseq ?_
    refine vregion ?_
    refine vone rfl (vxq (vldn rfl rfl) rfl rfl ?_)
    refine vone rfl (vxq (vcp rfl rfl rfl (c_Tight _)) rfl rfl ?_)
    refine vone rfl (vxq (vmv rfl) rfl rfl ?_)
    refine vone rfl (vxq (vex rfl rfl) rfl rfl ?_)
    refine vone rfl (vxq (vex rfl rfl) rfl rfl ?_)
    refine vone rfl (vxa valloc rfl rfl (fun b11 => ?_))
    refine vone rfl (vxs (vstn rfl rfl rfl rfl rfl) rfl ?_)
    refine vone rfl (vxq (vas rfl) rfl rfl ?_)
    refine vnil ?_
    refine vseq ?_
    refine vregion ?_
    refine vone rfl (vxq (vldn rfl rfl) rfl rfl ?_)
    refine vone rfl (vxq (vmv rfl) rfl rfl ?_)
    refine vone rfl (vxq (veql rfl rfl) rfl rfl ?_)
    refine vone rfl (vxs (vstn rfl rfl rfl rfl rfl) rfl ?_)
    refine vone rfl (vxq (vas rfl) rfl rfl ?_)
    refine vnil ?_
    refine vret (vr2 (H' := H) Tryd.func66 rfl (.celln rfl rfl) (.tmp rfl) sb ?_)
    first | (have e := Classical.not_not.1 h33; subst e; have hh := sight_cone (s := s) (x := ⟨st, nm, (-1), nr, fr⟩) rfl (by rw [hza]; exact hsm) (by (try simp only); omega); simp only [hza] at hh; exact ⟨oI2 (congrArg vR hh.1) hh.2, rfl⟩) | (have hh := sight_cone (s := s) (x := ⟨st, nm, 0, nr, fr⟩) rfl (by rw [hza]; exact hsm) (by (try simp only); omega); simp only [hza] at hh; exact ⟨oI2 (congrArg vR hh.1) hh.2, rfl⟩) | (have hh := sight_cone (s := s) (x := ⟨st, nm, 1, nr, fr⟩) rfl (by rw [hza]; exact hsm) (by (try simp only); omega); simp only [hza] at hh; exact ⟨oI2 (congrArg vR hh.1) hh.2, rfl⟩) | (have hh := sight_cone (s := s) (x := ⟨st, nm, 2, nr, fr⟩) rfl (by rw [hza]; exact hsm) (by (try simp only); omega); simp only [hza] at hh; exact ⟨oI2 (congrArg vR hh.1) hh.2, rfl⟩) | (have hh := sight_cone (s := s) (x := ⟨st, nm, 3, nr, fr⟩) rfl (by rw [hza]; exact hsm) (by (try simp only); omega); simp only [hza] at hh; exact ⟨oI2 (congrArg vR hh.1) hh.2, rfl⟩) | (have hh := sight_cone (s := s) (x := ⟨st, nm, 4, nr, fr⟩) rfl (by rw [hza]; exact hsm) (by (try simp only); omega); simp only [hza] at hh; exact ⟨oI2 (congrArg vR hh.1) hh.2, rfl⟩) | (have hh := sight_cone (s := s) (x := ⟨st, nm, 5, nr, fr⟩) rfl (by rw [hza]; exact hsm) (by (try simp only); omega); simp only [hza] at hh; exact ⟨oI2 (congrArg vR hh.1) hh.2, rfl⟩) | (have hh := sight_cone (s := s) (x := ⟨st, nm, 6, nr, fr⟩) rfl (by rw [hza]; exact hsm) (by (try simp only); omega); simp only [hza] at hh; exact ⟨oI2 (congrArg vR hh.1) hh.2, rfl⟩) | (have hh := sight_cone (s := s) (x := ⟨st, nm, 7, nr, fr⟩) rfl (by rw [hza]; exact hsm) (by (try simp only); omega); simp only [hza] at hh; exact ⟨oI2 (congrArg vR hh.1) hh.2, rfl⟩)
   ·
    refine vdq (mone rfl) (via rfl rfl (by (try simp only); omega)) rfl rfl ?_
    refine vdq (mone rfl) (vglO rfl rfl) rfl rfl ?_
    refine vdq (mone rfl) (vldn rfl rfl) rfl rfl ?_
    refine vdq (mone rfl) (vfa rfl) rfl rfl ?_
    refine vdq (mone rfl) (vld1 rfl rfl) rfl rfl ?_
    refine vdq (mone rfl) (vmv rfl) rfl rfl ?_
    refine vdq (mone rfl) (vbd rfl rfl) rfl rfl ?_
    refine vdw rfl (mone rfl) (vch rfl rfl rfl ((by first | exact (h_oct0 _ _ _ _ hsmb (by (try simp only); omega) (by omega) b5).at1 | exact (h_oct1 _ _ _ _ hsmb (by (try simp only); omega) (by omega) b5).at1 | exact (h_oct2 _ _ _ _ hsmb (by (try simp only); omega) (by omega) b5).at1 | exact (h_oct3 _ _ _ _ hsmb (by (try simp only); omega) (by omega) b5).at1 | exact (h_oct4 _ _ _ _ hsmb (by (try simp only); omega) (by omega) b5).at1 | exact (h_oct5 _ _ _ _ hsmb (by (try simp only); omega) (by omega) b5).at1 | exact (h_oct6 _ _ _ _ hsmb (by (try simp only); omega) (by omega) b5).at1 | exact (h_oct7 _ _ _ _ hsmb (by (try simp only); omega) (by omega) b5).at1))) rfl rfl ?_
    rintro _ _ ⟨rfl, rfl⟩
    refine vdend rfl ?_
    refine vseq ?_
    refine vregion ?_
    refine vone rfl (vxq (vldn rfl rfl) rfl rfl ?_)
    refine vone rfl (vxq (vcp rfl rfl rfl (c_Tight _)) rfl rfl ?_)
    refine vone rfl (vxq (vmv rfl) rfl rfl ?_)
    refine vone rfl (vxq (vex rfl rfl) rfl rfl ?_)
    refine vone rfl (vxq (vex rfl rfl) rfl rfl ?_)
    refine vone rfl (vxa valloc rfl rfl (fun b12 => ?_))
    refine vone rfl (vxs (vstn rfl rfl rfl rfl rfl) rfl ?_)
    refine vone rfl (vxq (vas rfl) rfl rfl ?_)
    refine vnil ?_
    refine vseq ?_
    refine vregion ?_
    refine vone rfl (vxq (vldn rfl rfl) rfl rfl ?_)
    refine vone rfl (vxq (vmv rfl) rfl rfl ?_)
    refine vone rfl (vxq (veql rfl rfl) rfl rfl ?_)
    refine vone rfl (vxs (vstn rfl rfl rfl rfl rfl) rfl ?_)
    refine vone rfl (vxq (vas rfl) rfl rfl ?_)
    refine vnil ?_
    refine vret (vr2 (H' := H) Tryd.func66 rfl (.celln rfl rfl) (.tmp rfl) sb ?_)
    first | (have e := Classical.not_not.1 h33; subst e; have hh := sight_cone (s := s) (x := ⟨st, nm, (-1), nr, fr⟩) rfl (by rw [hza]; exact hsm) (by (try simp only); omega); simp only [hza] at hh; exact ⟨oI2 (congrArg vR hh.1) hh.2, rfl⟩) | (have hh := sight_cone (s := s) (x := ⟨st, nm, 0, nr, fr⟩) rfl (by rw [hza]; exact hsm) (by (try simp only); omega); simp only [hza] at hh; exact ⟨oI2 (congrArg vR hh.1) hh.2, rfl⟩) | (have hh := sight_cone (s := s) (x := ⟨st, nm, 1, nr, fr⟩) rfl (by rw [hza]; exact hsm) (by (try simp only); omega); simp only [hza] at hh; exact ⟨oI2 (congrArg vR hh.1) hh.2, rfl⟩) | (have hh := sight_cone (s := s) (x := ⟨st, nm, 2, nr, fr⟩) rfl (by rw [hza]; exact hsm) (by (try simp only); omega); simp only [hza] at hh; exact ⟨oI2 (congrArg vR hh.1) hh.2, rfl⟩) | (have hh := sight_cone (s := s) (x := ⟨st, nm, 3, nr, fr⟩) rfl (by rw [hza]; exact hsm) (by (try simp only); omega); simp only [hza] at hh; exact ⟨oI2 (congrArg vR hh.1) hh.2, rfl⟩) | (have hh := sight_cone (s := s) (x := ⟨st, nm, 4, nr, fr⟩) rfl (by rw [hza]; exact hsm) (by (try simp only); omega); simp only [hza] at hh; exact ⟨oI2 (congrArg vR hh.1) hh.2, rfl⟩) | (have hh := sight_cone (s := s) (x := ⟨st, nm, 5, nr, fr⟩) rfl (by rw [hza]; exact hsm) (by (try simp only); omega); simp only [hza] at hh; exact ⟨oI2 (congrArg vR hh.1) hh.2, rfl⟩) | (have hh := sight_cone (s := s) (x := ⟨st, nm, 6, nr, fr⟩) rfl (by rw [hza]; exact hsm) (by (try simp only); omega); simp only [hza] at hh; exact ⟨oI2 (congrArg vR hh.1) hh.2, rfl⟩) | (have hh := sight_cone (s := s) (x := ⟨st, nm, 7, nr, fr⟩) rfl (by rw [hza]; exact hsm) (by (try simp only); omega); simp only [hza] at hh; exact ⟨oI2 (congrArg vR hh.1) hh.2, rfl⟩)
   ·
    refine vdq (mone rfl) (via rfl rfl (by (try simp only); omega)) rfl rfl ?_
    refine vdq (mone rfl) (vglO rfl rfl) rfl rfl ?_
    refine vdq (mone rfl) (vldn rfl rfl) rfl rfl ?_
    refine vdq (mone rfl) (vfa rfl) rfl rfl ?_
    refine vdq (mone rfl) (vld1 rfl rfl) rfl rfl ?_
    refine vdq (mone rfl) (vmv rfl) rfl rfl ?_
    refine vdq (mone rfl) (vbd rfl rfl) rfl rfl ?_
    refine vdw rfl (mone rfl) (vch rfl rfl rfl ((by first | exact (h_oct0 _ _ _ _ hsmb (by (try simp only); omega) (by omega) b5).at1 | exact (h_oct1 _ _ _ _ hsmb (by (try simp only); omega) (by omega) b5).at1 | exact (h_oct2 _ _ _ _ hsmb (by (try simp only); omega) (by omega) b5).at1 | exact (h_oct3 _ _ _ _ hsmb (by (try simp only); omega) (by omega) b5).at1 | exact (h_oct4 _ _ _ _ hsmb (by (try simp only); omega) (by omega) b5).at1 | exact (h_oct5 _ _ _ _ hsmb (by (try simp only); omega) (by omega) b5).at1 | exact (h_oct6 _ _ _ _ hsmb (by (try simp only); omega) (by omega) b5).at1 | exact (h_oct7 _ _ _ _ hsmb (by (try simp only); omega) (by omega) b5).at1))) rfl rfl ?_
    rintro _ _ ⟨rfl, rfl⟩
    refine vdend rfl ?_
    refine vseq ?_
    refine vregion ?_
    refine vone rfl (vxq (vldn rfl rfl) rfl rfl ?_)
    refine vone rfl (vxq (vcp rfl rfl rfl (c_Tight _)) rfl rfl ?_)
    refine vone rfl (vxq (vmv rfl) rfl rfl ?_)
    refine vone rfl (vxq (vex rfl rfl) rfl rfl ?_)
    refine vone rfl (vxq (vex rfl rfl) rfl rfl ?_)
    refine vone rfl (vxa valloc rfl rfl (fun b13 => ?_))
    refine vone rfl (vxs (vstn rfl rfl rfl rfl rfl) rfl ?_)
    refine vone rfl (vxq (vas rfl) rfl rfl ?_)
    refine vnil ?_
    refine vseq ?_
    refine vregion ?_
    refine vone rfl (vxq (vldn rfl rfl) rfl rfl ?_)
    refine vone rfl (vxq (vmv rfl) rfl rfl ?_)
    refine vone rfl (vxq (veql rfl rfl) rfl rfl ?_)
    refine vone rfl (vxs (vstn rfl rfl rfl rfl rfl) rfl ?_)
    refine vone rfl (vxq (vas rfl) rfl rfl ?_)
    refine vnil ?_
    refine vret (vr2 (H' := H) Tryd.func66 rfl (.celln rfl rfl) (.tmp rfl) sb ?_)
    first | (have e := Classical.not_not.1 h33; subst e; have hh := sight_cone (s := s) (x := ⟨st, nm, (-1), nr, fr⟩) rfl (by rw [hza]; exact hsm) (by (try simp only); omega); simp only [hza] at hh; exact ⟨oI2 (congrArg vR hh.1) hh.2, rfl⟩) | (have hh := sight_cone (s := s) (x := ⟨st, nm, 0, nr, fr⟩) rfl (by rw [hza]; exact hsm) (by (try simp only); omega); simp only [hza] at hh; exact ⟨oI2 (congrArg vR hh.1) hh.2, rfl⟩) | (have hh := sight_cone (s := s) (x := ⟨st, nm, 1, nr, fr⟩) rfl (by rw [hza]; exact hsm) (by (try simp only); omega); simp only [hza] at hh; exact ⟨oI2 (congrArg vR hh.1) hh.2, rfl⟩) | (have hh := sight_cone (s := s) (x := ⟨st, nm, 2, nr, fr⟩) rfl (by rw [hza]; exact hsm) (by (try simp only); omega); simp only [hza] at hh; exact ⟨oI2 (congrArg vR hh.1) hh.2, rfl⟩) | (have hh := sight_cone (s := s) (x := ⟨st, nm, 3, nr, fr⟩) rfl (by rw [hza]; exact hsm) (by (try simp only); omega); simp only [hza] at hh; exact ⟨oI2 (congrArg vR hh.1) hh.2, rfl⟩) | (have hh := sight_cone (s := s) (x := ⟨st, nm, 4, nr, fr⟩) rfl (by rw [hza]; exact hsm) (by (try simp only); omega); simp only [hza] at hh; exact ⟨oI2 (congrArg vR hh.1) hh.2, rfl⟩) | (have hh := sight_cone (s := s) (x := ⟨st, nm, 5, nr, fr⟩) rfl (by rw [hza]; exact hsm) (by (try simp only); omega); simp only [hza] at hh; exact ⟨oI2 (congrArg vR hh.1) hh.2, rfl⟩) | (have hh := sight_cone (s := s) (x := ⟨st, nm, 6, nr, fr⟩) rfl (by rw [hza]; exact hsm) (by (try simp only); omega); simp only [hza] at hh; exact ⟨oI2 (congrArg vR hh.1) hh.2, rfl⟩) | (have hh := sight_cone (s := s) (x := ⟨st, nm, 7, nr, fr⟩) rfl (by rw [hza]; exact hsm) (by (try simp only); omega); simp only [hza] at hh; exact ⟨oI2 (congrArg vR hh.1) hh.2, rfl⟩)
   ·
    exact absurd rfl h33
 ·
  refine vskip ?_
  refine vseq ?_
  refine vregion ?_
  refine vone rfl (vxq (vldn rfl rfl) rfl rfl ?_)
  refine vone rfl (vxq (vcp rfl rfl rfl (c_Tight _)) rfl rfl ?_)
  refine vone rfl (vxq (vmv rfl) rfl rfl ?_)
  refine vone rfl (vxq (vex rfl rfl) rfl rfl ?_)
  refine vone rfl (vxq (vex rfl rfl) rfl rfl ?_)
  refine vone rfl (vxa valloc rfl rfl (fun b14 => ?_))
  refine vone rfl (vxs (vstn rfl rfl rfl rfl rfl) rfl ?_)
  refine vone rfl (vxq (vas rfl) rfl rfl ?_)
  refine vnil ?_
  refine vseq ?_
  refine vregion ?_
  refine vone rfl (vxq (vldn rfl rfl) rfl rfl ?_)
  refine vone rfl (vxq (vmv rfl) rfl rfl ?_)
  refine vone rfl (vxq (veql rfl rfl) rfl rfl ?_)
  refine vone rfl (vxs (vstn rfl rfl rfl rfl rfl) rfl ?_)
  refine vone rfl (vxq (vas rfl) rfl rfl ?_)
  refine vnil ?_
  refine vret (vr2 (H' := H) Tryd.func66 rfl (.celln rfl rfl) (.tmp rfl) sb ?_)
  first | (have e := Classical.not_not.1 h33; subst e; have hh := sight_cone (s := s) (x := ⟨st, nm, (-1), nr, fr⟩) rfl (by rw [hza]; exact hsm) (by (try simp only); omega); simp only [hza] at hh; exact ⟨oI2 (congrArg vR hh.1) hh.2, rfl⟩) | (have hh := sight_cone (s := s) (x := ⟨st, nm, 0, nr, fr⟩) rfl (by rw [hza]; exact hsm) (by (try simp only); omega); simp only [hza] at hh; exact ⟨oI2 (congrArg vR hh.1) hh.2, rfl⟩) | (have hh := sight_cone (s := s) (x := ⟨st, nm, 1, nr, fr⟩) rfl (by rw [hza]; exact hsm) (by (try simp only); omega); simp only [hza] at hh; exact ⟨oI2 (congrArg vR hh.1) hh.2, rfl⟩) | (have hh := sight_cone (s := s) (x := ⟨st, nm, 2, nr, fr⟩) rfl (by rw [hza]; exact hsm) (by (try simp only); omega); simp only [hza] at hh; exact ⟨oI2 (congrArg vR hh.1) hh.2, rfl⟩) | (have hh := sight_cone (s := s) (x := ⟨st, nm, 3, nr, fr⟩) rfl (by rw [hza]; exact hsm) (by (try simp only); omega); simp only [hza] at hh; exact ⟨oI2 (congrArg vR hh.1) hh.2, rfl⟩) | (have hh := sight_cone (s := s) (x := ⟨st, nm, 4, nr, fr⟩) rfl (by rw [hza]; exact hsm) (by (try simp only); omega); simp only [hza] at hh; exact ⟨oI2 (congrArg vR hh.1) hh.2, rfl⟩) | (have hh := sight_cone (s := s) (x := ⟨st, nm, 5, nr, fr⟩) rfl (by rw [hza]; exact hsm) (by (try simp only); omega); simp only [hza] at hh; exact ⟨oI2 (congrArg vR hh.1) hh.2, rfl⟩) | (have hh := sight_cone (s := s) (x := ⟨st, nm, 6, nr, fr⟩) rfl (by rw [hza]; exact hsm) (by (try simp only); omega); simp only [hza] at hh; exact ⟨oI2 (congrArg vR hh.1) hh.2, rfl⟩) | (have hh := sight_cone (s := s) (x := ⟨st, nm, 7, nr, fr⟩) rfl (by rw [hza]; exact hsm) (by (try simp only); omega); simp only [hza] at hh; exact ⟨oI2 (congrArg vR hh.1) hh.2, rfl⟩)
end Go.Proofs.YtaplkoimhecacaaDoor
