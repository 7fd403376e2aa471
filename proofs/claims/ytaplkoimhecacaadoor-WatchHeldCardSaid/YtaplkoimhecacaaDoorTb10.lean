/-
  Walks of small functions of package watch: numbers, scenes.
-/
import Derived.Test.YtaplkoimhecacaaDoorTb08
namespace Go.Proofs.YtaplkoimhecacaaDoor
open Go
set_option maxRecDepth 100000

attribute [local irreducible] tightP hullP rootP farP rows endsOf
instance tSg9 : TSg Tryd.prog 9 := ⟨by kernel_rfl⟩
theorem chkW_t {w : Wn} (h : okW w) : chkW w = 0 := if_pos h
theorem chkW_f {w : Wn} (h : ¬ okW w) : chkW w = 60 := if_neg h
theorem chkW_z {w : Wn} : chkW w = 0 ↔ okW w := by unfold chkW; split <;> simp_all
theorem small_z {r : Rg} (h : (tightE r).2 = 0) : r.ok ∧ (tightP r).isSome = true := by
  rcases tight_cases r with ⟨t, h1, h2, h3⟩ | ⟨e, h1, h2⟩
  · exact ⟨h1, by rw [h2]; rfl⟩
  · rw [h2] at h; exact absurd h h1
theorem small_t {r : Rg} (h : smallR r) : (tightE r).2 = 0 := by
  obtain ⟨t, ht⟩ := Option.isSome_iff_exists.1 h.2.2.2
  unfold tightE; rw [if_pos h.1, ht]; rfl
theorem small_bd {r : Rg} (h : (tightE r).2 = 0) : r.sm 65536 := (small_z h).1.sm
theorem name_end {s : ByteArray} (h : ∀ j, j < s.size → goodP s j) : decide (1 ≤ (s.size : Int) ∧ (s.size : Int) ≤ 16) = nameB s := by
  by_cases h1 : 1 ≤ s.size ∧ s.size ≤ 16
  · rw [nameB_t ⟨h1, h⟩, decide_eq_true (by omega)]
  · rw [nameB_f (fun hn => h1 hn.1), decide_eq_false (by omega)]
theorem good_next {s : ByteArray} {i : Nat} (h : ∀ j, j < i → goodP s j) (hi : goodP s i) : ∀ j, j < i + 1 → goodP s j := fun j hj => by
  by_cases e : j = i
  · subst e; exact hi
  · exact h j (by omega)
noncomputable def okSgB (s : Sc) (x : Sg) : Bool := @decide (okSg s x) (Classical.propDecidable _)
theorem okSgB_t {s : Sc} {x : Sg} (h : okSg s x) : okSgB s x = true := by unfold okSgB; exact @decide_eq_true _ (Classical.propDecidable _) h
theorem okSgB_f {s : Sc} {x : Sg} (h : ¬ okSg s x) : okSgB s x = false := by unfold okSgB; exact @decide_eq_false _ (Classical.propDecidable _) h
theorem okSgB_i {s : Sc} {x : Sg} : okSgB s x = true ↔ okSg s x := by
  constructor
  · intro h; rcases Classical.em (okSg s x) with h1 | h1
    · exact h1
    · rw [okSgB_f h1] at h; cases h
  · exact okSgB_t
theorem nameB_i {s : ByteArray} : nameB s = true ↔ nameP s := by
  constructor
  · intro h; rcases Classical.em (nameP s) with h1 | h1
    · exact h1
    · rw [nameB_f h1] at h; cases h
  · exact nameB_t
theorem atB_of {l : List Bool} {i : Int} {z : Bool} (h : l[i.toNat]? = some z) : atB l i = z := by unfold atB; rw [h]; rfl
/-- What is asked of a sighting, out of its parts. -/
theorem sight_fin {s : Sc} {x : Sg} {b : Bool} (h1 : 0 ≤ x.st ∧ x.st ≤ (s.ship.length : Int) - 1) (h2 : nameB x.nm = true) (h3 : ¬ x.nr < 0) (h4 : x.nr ≤ x.fr ∧ x.fr ≤ 256) (h : b = true ↔ ((0 ≤ x.oc ∧ x.oc ≤ 7) ∧ atB s.eyes x.st = true ∨ x.oc = -1 ∧ atB s.ears x.st = true)) : Out.val (.bool b) = Out.val (.bool (okSgB s x)) := by
  congr 2
  rw [Bool.eq_iff_iff, h, okSgB_i]
  constructor
  · exact fun g => ⟨by omega, nameB_i.1 h2, by omega, g⟩
  · exact fun g => g.2.2.2
theorem sight_no {s : Sc} {x : Sg} (h : ¬ okSg s x) : Out.val (.bool false) = Out.val (.bool (okSgB s x)) := by rw [okSgB_f h]

/-- paravane/watch.within -/
theorem c_watch_within (n a b : Int) : VPure Tryd.prog 49 [I n, I a, I b] (.bool (decide (a ≤ n ∧ n ≤ b))) := by
 intro H
 refine vcall_of_vrun Tryd.func49 rfl (N := 15) rfl rfl ?_
 refine vseq ?_
 refine vregion ?_
 refine vone rfl (vxq (vas rfl) rfl rfl ?_)
 refine vnil ?_
 refine vseq ?_
 refine vregion ?_
 refine vone rfl (vxq (vmv rfl) rfl rfl ?_)
 refine vone rfl (vxq (vmv rfl) rfl rfl ?_)
 refine vone rfl (vxq (vgeq rfl rfl) rfl rfl ?_)
 refine vone rfl (vxq (vmv rfl) rfl rfl ?_)
 refine vsplitd (d := 10) rfl (fun h10 => ?_) (fun h10 => ?_)
 ·
  refine vyes rfl rfl rfl (vxq (vmv rfl) rfl rfl ?_)
  refine vyes rfl rfl rfl (vxq (vmv rfl) rfl rfl ?_)
  refine vyes rfl rfl rfl (vxq (vleq rfl rfl) rfl rfl ?_)
  refine vone rfl (vxq (vpkt rfl rfl) rfl rfl ?_)
  refine vone rfl (vxq (vas rfl) rfl rfl ?_)
  refine vnil ?_
  refine vret (vr1 (H' := H) Tryd.func49 rfl (.tmp rfl) sb ?_)
  first | exact ⟨obt (by omega), rfl⟩ | exact ⟨obf (by omega), rfl⟩ | exact ⟨obd (by omega), rfl⟩
 ·
  refine vno rfl rfl rfl rfl rfl ?_
  refine vno rfl rfl rfl rfl rfl ?_
  refine vno rfl rfl rfl rfl rfl ?_
  refine vone rfl (vxq (vpkf rfl rfl) rfl rfl ?_)
  refine vone rfl (vxq (vas rfl) rfl rfl ?_)
  refine vnil ?_
  refine vret (vr1 (H' := H) Tryd.func49 rfl (.tmp rfl) sb ?_)
  first | exact ⟨obt (by omega), rfl⟩ | exact ⟨obf (by omega), rfl⟩ | exact ⟨obd (by omega), rfl⟩
/-- paravane/watch.CheckWatch -/
theorem c_CheckWatch (w : Wn) : VPure Tryd.prog 31 [vWn w] (I (chkW w)) := by
 intro H
 refine vcall_of_vrun Tryd.func31 rfl (N := 37) rfl rfl ?_
 refine vseq ?_
 refine vregion ?_
 refine vone rfl (vxa (vbox rfl rfl) rfl rfl (fun b1 => ?_))
 refine vone rfl (vxq (vas rfl) rfl rfl ?_)
 refine vnil ?_
 refine vseq ?_
 refine vseq ?_
 refine vregion ?_
 refine vone rfl (vxq (vfa rfl) rfl rfl ?_)
 refine vone rfl (vxq (vld1 rfl rfl) rfl rfl ?_)
 refine vone rfl (vxq (vfa rfl) rfl rfl ?_)
 refine vone rfl (vxq (vld1 rfl rfl) rfl rfl ?_)
 refine vone rfl (vxq (vfa rfl) rfl rfl ?_)
 refine vone rfl (vxq (vld1 rfl rfl) rfl rfl ?_)
 refine vone rfl (vxq (vfa rfl) rfl rfl ?_)
 refine vone rfl (vxq (vld1 rfl rfl) rfl rfl ?_)
 refine vone rfl (vxq (vbd rfl rfl) rfl rfl ?_)
 refine vone rfl (vxq (vmv rfl) rfl rfl ?_)
 refine vnil ?_
 refine vblock ?_
 refine vloop1 ?_
 refine vseq ?_
 refine vregion ?_
 refine vone rfl (vxq (vlss rfl rfl) rfl rfl ?_)
 refine vnil ?_
 refine vseq ?_
 refine vcondt rfl ?_
 refine vskip ?_
 refine vseq ?_
 refine vblock ?_
 refine vseq ?_
 refine vregion ?_
 refine vone rfl (vxq (vixa1 rfl rfl (by omega) rfl) rfl rfl ?_)
 refine vone rfl (vxq (vas rfl) rfl rfl ?_)
 refine vnil ?_
 refine vseq ?_
 refine vregion ?_
 refine vone rfl (vxq (vmv rfl) rfl rfl ?_)
 refine vone rfl (vxq (vcp rfl rfl rfl (c_watch_within _ _ _)) rfl rfl ?_)
 refine vone rfl (vxq (vnotd rfl) rfl rfl ?_)
 refine vnil ?_
 refine vcondd rfl (fun h19 => ?_) (fun h19 => ?_)
 ·
  refine vseq ?_
  refine vregion ?_
  refine vone rfl (vxq (vas rfl) rfl rfl ?_)
  refine vnil ?_
  refine vret (vr1 (H' := H) Tryd.func31 rfl (.tmp rfl) sb ?_)
  first | exact ⟨oI (chkW_t (by unfold okW; omega)).symm, rfl⟩ | exact ⟨oI (chkW_f (by unfold okW; omega)).symm, rfl⟩
 ·
  refine vskip ?_
  refine vinblock ?_
  refine vregion ?_
  refine vone rfl (vxq (vadd rfl rfl (by unfold InR; omega)) rfl rfl ?_)
  refine vone rfl (vxq (vmv rfl) rfl rfl ?_)
  refine vnil ?_
  refine vinloop1 ?_
  refine vseq ?_
  refine vregion ?_
  refine vone rfl (vxq (vlss rfl rfl) rfl rfl ?_)
  refine vnil ?_
  refine vseq ?_
  refine vcondt rfl ?_
  refine vskip ?_
  refine vseq ?_
  refine vblock ?_
  refine vseq ?_
  refine vregion ?_
  refine vone rfl (vxq (vixa1 rfl rfl (by omega) rfl) rfl rfl ?_)
  refine vone rfl (vxq (vas rfl) rfl rfl ?_)
  refine vnil ?_
  refine vseq ?_
  refine vregion ?_
  refine vone rfl (vxq (vmv rfl) rfl rfl ?_)
  refine vone rfl (vxq (vcp rfl rfl rfl (c_watch_within _ _ _)) rfl rfl ?_)
  refine vone rfl (vxq (vnotd rfl) rfl rfl ?_)
  refine vnil ?_
  refine vcondd rfl (fun h19 => ?_) (fun h19 => ?_)
  ·
   refine vseq ?_
   refine vregion ?_
   refine vone rfl (vxq (vas rfl) rfl rfl ?_)
   refine vnil ?_
   refine vret (vr1 (H' := H) Tryd.func31 rfl (.tmp rfl) sb ?_)
   first | exact ⟨oI (chkW_t (by unfold okW; omega)).symm, rfl⟩ | exact ⟨oI (chkW_f (by unfold okW; omega)).symm, rfl⟩
  ·
   refine vskip ?_
   refine vinblock ?_
   refine vregion ?_
   refine vone rfl (vxq (vadd rfl rfl (by unfold InR; omega)) rfl rfl ?_)
   refine vone rfl (vxq (vmv rfl) rfl rfl ?_)
   refine vnil ?_
   refine vinloop1 ?_
   refine vseq ?_
   refine vregion ?_
   refine vone rfl (vxq (vlss rfl rfl) rfl rfl ?_)
   refine vnil ?_
   refine vseq ?_
   refine vcondt rfl ?_
   refine vskip ?_
   refine vseq ?_
   refine vblock ?_
   refine vseq ?_
   refine vregion ?_
   refine vone rfl (vxq (vixa1 rfl rfl (by omega) rfl) rfl rfl ?_)
   refine vone rfl (vxq (vas rfl) rfl rfl ?_)
   refine vnil ?_
   refine vseq ?_
   refine vregion ?_
   refine vone rfl (vxq (vmv rfl) rfl rfl ?_)
   refine vone rfl (vxq (vcp rfl rfl rfl (c_watch_within _ _ _)) rfl rfl ?_)
   refine vone rfl (vxq (vnotd rfl) rfl rfl ?_)
   refine vnil ?_
   refine vcondd rfl (fun h19 => ?_) (fun h19 => ?_)
   ·
    refine vseq ?_
    refine vregion ?_
    refine vone rfl (vxq (vas rfl) rfl rfl ?_)
    refine vnil ?_
    refine vret (vr1 (H' := H) Tryd.func31 rfl (.tmp rfl) sb ?_)
    first | exact ⟨oI (chkW_t (by unfold okW; omega)).symm, rfl⟩ | exact ⟨oI (chkW_f (by unfold okW; omega)).symm, rfl⟩
   ·
    refine vskip ?_
    refine vinblock ?_
    refine vregion ?_
    refine vone rfl (vxq (vadd rfl rfl (by unfold InR; omega)) rfl rfl ?_)
    refine vone rfl (vxq (vmv rfl) rfl rfl ?_)
    refine vnil ?_
    refine vinloop1 ?_
    refine vseq ?_
    refine vregion ?_
    refine vone rfl (vxq (vlss rfl rfl) rfl rfl ?_)
    refine vnil ?_
    refine vseq ?_
    refine vcondt rfl ?_
    refine vskip ?_
    refine vseq ?_
    refine vblock ?_
    refine vseq ?_
    refine vregion ?_
    refine vone rfl (vxq (vixa1 rfl rfl (by omega) rfl) rfl rfl ?_)
    refine vone rfl (vxq (vas rfl) rfl rfl ?_)
    refine vnil ?_
    refine vseq ?_
    refine vregion ?_
    refine vone rfl (vxq (vmv rfl) rfl rfl ?_)
    refine vone rfl (vxq (vcp rfl rfl rfl (c_watch_within _ _ _)) rfl rfl ?_)
    refine vone rfl (vxq (vnotd rfl) rfl rfl ?_)
    refine vnil ?_
    refine vcondd rfl (fun h19 => ?_) (fun h19 => ?_)
    ·
     refine vseq ?_
     refine vregion ?_
     refine vone rfl (vxq (vas rfl) rfl rfl ?_)
     refine vnil ?_
     refine vret (vr1 (H' := H) Tryd.func31 rfl (.tmp rfl) sb ?_)
     first | exact ⟨oI (chkW_t (by unfold okW; omega)).symm, rfl⟩ | exact ⟨oI (chkW_f (by unfold okW; omega)).symm, rfl⟩
    ·
     refine vskip ?_
     refine vinblock ?_
     refine vregion ?_
     refine vone rfl (vxq (vadd rfl rfl (by unfold InR; omega)) rfl rfl ?_)
     refine vone rfl (vxq (vmv rfl) rfl rfl ?_)
     refine vnil ?_
     refine vinloop1 ?_
     refine vseq ?_
     refine vregion ?_
     refine vone rfl (vxq (vlss rfl rfl) rfl rfl ?_)
     refine vnil ?_
     refine vseq ?_
     refine vcondf rfl ?_
     refine vexit (k' := _) rfl ?_
     refine vseq ?_
     refine vseq ?_
     refine vregion ?_
     refine vone rfl (vxq (vfa rfl) rfl rfl ?_)
     refine vone rfl (vxq (vld1 rfl rfl) rfl rfl ?_)
     refine vone rfl (vxq (vcp rfl rfl rfl (c_watch_within _ _ _)) rfl rfl ?_)
     refine vone rfl (vxq (vnotd rfl) rfl rfl ?_)
     refine vone rfl (vxq (vmv rfl) rfl rfl ?_)
     refine vsplitd (d := 25) rfl (fun h25 => ?_) (fun h25 => ?_)
     ·
      refine vno rfl rfl rfl rfl rfl ?_
      refine vno rfl rfl rfl rfl rfl ?_
      refine vno rfl rfl rfl rfl rfl ?_
      refine vno rfl rfl rfl rfl rfl ?_
      refine vone rfl (vxq (vpkt rfl rfl) rfl rfl ?_)
      refine vone rfl (vxq (vmv rfl) rfl rfl ?_)
      refine vno rfl rfl rfl rfl rfl ?_
      refine vno rfl rfl rfl rfl rfl ?_
      refine vno rfl rfl rfl rfl rfl ?_
      refine vno rfl rfl rfl rfl rfl ?_
      refine vone rfl (vxq (vpkt rfl rfl) rfl rfl ?_)
      refine vnil ?_
      refine vcondt rfl ?_
      refine vseq ?_
      refine vregion ?_
      refine vone rfl (vxq (vas rfl) rfl rfl ?_)
      refine vnil ?_
      refine vret (vr1 (H' := H) Tryd.func31 rfl (.tmp rfl) sb ?_)
      first | exact ⟨oI (chkW_t (by unfold okW; omega)).symm, rfl⟩ | exact ⟨oI (chkW_f (by unfold okW; omega)).symm, rfl⟩
     ·
      refine vyes rfl rfl rfl (vxq (vfa rfl) rfl rfl ?_)
      refine vyes rfl rfl rfl (vxq (vld1 rfl rfl) rfl rfl ?_)
      refine vyes rfl rfl rfl (vxq (vcp rfl rfl rfl (c_watch_within _ _ _)) rfl rfl ?_)
      refine vyes rfl rfl rfl (vxq (vnotd rfl) rfl rfl ?_)
      refine vone rfl (vxq (vpkf rfl rfl) rfl rfl ?_)
      refine vone rfl (vxq (vmv rfl) rfl rfl ?_)
      refine vsplitd (d := 31) rfl (fun h31 => ?_) (fun h31 => ?_)
      ·
       refine vno rfl rfl rfl rfl rfl ?_
       refine vno rfl rfl rfl rfl rfl ?_
       refine vno rfl rfl rfl rfl rfl ?_
       refine vno rfl rfl rfl rfl rfl ?_
       refine vone rfl (vxq (vpkt rfl rfl) rfl rfl ?_)
       refine vnil ?_
       refine vcondt rfl ?_
       refine vseq ?_
       refine vregion ?_
       refine vone rfl (vxq (vas rfl) rfl rfl ?_)
       refine vnil ?_
       refine vret (vr1 (H' := H) Tryd.func31 rfl (.tmp rfl) sb ?_)
       first | exact ⟨oI (chkW_t (by unfold okW; omega)).symm, rfl⟩ | exact ⟨oI (chkW_f (by unfold okW; omega)).symm, rfl⟩
      ·
       refine vyes rfl rfl rfl (vxq (vfa rfl) rfl rfl ?_)
       refine vyes rfl rfl rfl (vxq (vld1 rfl rfl) rfl rfl ?_)
       refine vyes rfl rfl rfl (vxq (vcp rfl rfl rfl (c_watch_within _ _ _)) rfl rfl ?_)
       refine vyes rfl rfl rfl (vxq (vnotd rfl) rfl rfl ?_)
       refine vone rfl (vxq (vpkf rfl rfl) rfl rfl ?_)
       refine vnil ?_
       refine vcondd rfl (fun h36 => ?_) (fun h36 => ?_)
       ·
        refine vseq ?_
        refine vregion ?_
        refine vone rfl (vxq (vas rfl) rfl rfl ?_)
        refine vnil ?_
        refine vret (vr1 (H' := H) Tryd.func31 rfl (.tmp rfl) sb ?_)
        first | exact ⟨oI (chkW_t (by unfold okW; omega)).symm, rfl⟩ | exact ⟨oI (chkW_f (by unfold okW; omega)).symm, rfl⟩
       ·
        refine vskip ?_
        refine vseq ?_
        refine vregion ?_
        refine vone rfl (vxq (vas rfl) rfl rfl ?_)
        refine vnil ?_
        refine vret (vr1 (H' := H) Tryd.func31 rfl (.tmp rfl) sb ?_)
        first | exact ⟨oI (chkW_t (by unfold okW; omega)).symm, rfl⟩ | exact ⟨oI (chkW_f (by unfold okW; omega)).symm, rfl⟩
/-- (paravane/watch.scene).steps -/
theorem c_steps (h : SH) (s : Sc) : VPure Tryd.prog 59 [vSc h s] (I (s.ship.length : Int)) := by
 intro H
 refine vcall_of_vrun Tryd.func59 rfl (N := 7) rfl rfl ?_
 refine vseq ?_
 refine vregion ?_
 refine vone rfl (vxa (vbox rfl rfl) rfl rfl (fun b1 => ?_))
 refine vone rfl (vxq (vas rfl) rfl rfl ?_)
 refine vnil ?_
 refine vseq ?_
 refine vregion ?_
 refine vone rfl (vxq (vfa rfl) rfl rfl ?_)
 refine vone rfl (vxq (vfa rfl) rfl rfl ?_)
 refine vone rfl (vxq (vld1 rfl rfl) rfl rfl ?_)
 refine vone rfl (vxq (vlen rfl) rfl rfl ?_)
 refine vone rfl (vxq (vas rfl) rfl rfl ?_)
 refine vnil ?_
 refine vret (vr1 (H' := H) Tryd.func59 rfl (.tmp rfl) sb ?_)
 exact ⟨rfl, rfl⟩
/-- paravane/watch.small -/
theorem c_small (r : Rg) : VPure Tryd.prog 107 [vR r] (.bool (decide (smallR r))) := by
 intro H
 refine vcall_of_vrun Tryd.func107 rfl (N := 32) rfl rfl ?_
 refine vseq ?_
 refine vregion ?_
 refine vone rfl (vxa (vbox rfl rfl) rfl rfl (fun b1 => ?_))
 refine vone rfl (vxq (vas rfl) rfl rfl ?_)
 refine vnil ?_
 refine vseq ?_
 refine vregion ?_
 refine vone rfl (vxq (vldn rfl rfl) rfl rfl ?_)
 refine vone rfl (vxq (vcp rfl rfl rfl (c_Tight r)) rfl rfl ?_)
 refine vone rfl (vxq (vmv rfl) rfl rfl ?_)
 refine vone rfl (vxq (vex rfl rfl) rfl rfl ?_)
 refine vone rfl (vxq (vex rfl rfl) rfl rfl ?_)
 refine vone rfl (vxa valloc rfl rfl (fun b2 => ?_))
 refine vone rfl (vxs (vstn rfl rfl rfl rfl rfl) rfl ?_)
 refine vone rfl (vxq (vas rfl) rfl rfl ?_)
 refine vnil ?_
 refine vseq ?_
 refine vregion ?_
 refine vone rfl (vxq (vmv rfl) rfl rfl ?_)
 refine vone rfl (vxq (veql rfl rfl) rfl rfl ?_)
 refine vone rfl (vxq (vmv rfl) rfl rfl ?_)
 refine vsplitd (d := 12) rfl (fun h12 => ?_) (fun h12 => ?_)
 ·
  refine vyes rfl rfl rfl (vxq (vfa rfl) rfl rfl ?_)
  refine vyes rfl rfl rfl (vxq (vfa rfl) rfl rfl ?_)
  refine vyes rfl rfl rfl (vxq (vld1 rfl rfl) rfl rfl ?_)
  refine vyes rfl rfl rfl (vxq (vfa rfl) rfl rfl ?_)
  refine vyes rfl rfl rfl (vxq (vfa rfl) rfl rfl ?_)
  refine vyes rfl rfl rfl (vxq (vld1 rfl rfl) rfl rfl ?_)
  refine vyes rfl rfl rfl (vxq (vsub rfl rfl (by have := small_bd h12; unfold Rg.sm Bd.sm at this; unfold InR; omega)) rfl rfl ?_)
  refine vyes rfl rfl rfl (vxq (vleq rfl rfl) rfl rfl ?_)
  refine vone rfl (vxq (vpkt rfl rfl) rfl rfl ?_)
  refine vone rfl (vxq (vmv rfl) rfl rfl ?_)
  refine vsplitd (d := 22) rfl (fun h22 => ?_) (fun h22 => ?_)
  ·
   refine vyes rfl rfl rfl (vxq (vfa rfl) rfl rfl ?_)
   refine vyes rfl rfl rfl (vxq (vfa rfl) rfl rfl ?_)
   refine vyes rfl rfl rfl (vxq (vld1 rfl rfl) rfl rfl ?_)
   refine vyes rfl rfl rfl (vxq (vfa rfl) rfl rfl ?_)
   refine vyes rfl rfl rfl (vxq (vfa rfl) rfl rfl ?_)
   refine vyes rfl rfl rfl (vxq (vld1 rfl rfl) rfl rfl ?_)
   refine vyes rfl rfl rfl (vxq (vsub rfl rfl (by have := small_bd h12; unfold Rg.sm Bd.sm at this; unfold InR; omega)) rfl rfl ?_)
   refine vyes rfl rfl rfl (vxq (vleq rfl rfl) rfl rfl ?_)
   refine vone rfl (vxq (vpkt rfl rfl) rfl rfl ?_)
   refine vone rfl (vxq (vas rfl) rfl rfl ?_)
   refine vnil ?_
   refine vret (vr1 (H' := H) Tryd.func107 rfl (.tmp rfl) sb ?_)
   first | exact ⟨obf (fun hh => h12 (small_t hh)), rfl⟩ | exact ⟨obf (fun hh => h22 hh.2.1), rfl⟩ | exact ⟨obd ⟨fun hh => ⟨(small_z h12).1, h22, hh, (small_z h12).2⟩, fun hh => hh.2.2.1⟩, rfl⟩
  ·
   refine vno rfl rfl rfl rfl rfl ?_
   refine vno rfl rfl rfl rfl rfl ?_
   refine vno rfl rfl rfl rfl rfl ?_
   refine vno rfl rfl rfl rfl rfl ?_
   refine vno rfl rfl rfl rfl rfl ?_
   refine vno rfl rfl rfl rfl rfl ?_
   refine vno rfl rfl rfl rfl rfl ?_
   refine vno rfl rfl rfl rfl rfl ?_
   refine vone rfl (vxq (vpkf rfl rfl) rfl rfl ?_)
   refine vone rfl (vxq (vas rfl) rfl rfl ?_)
   refine vnil ?_
   refine vret (vr1 (H' := H) Tryd.func107 rfl (.tmp rfl) sb ?_)
   first | exact ⟨obf (fun hh => h12 (small_t hh)), rfl⟩ | exact ⟨obf (fun hh => h22 hh.2.1), rfl⟩ | exact ⟨obd ⟨fun hh => ⟨(small_z h12).1, h22, hh, (small_z h12).2⟩, fun hh => hh.2.2.1⟩, rfl⟩
 ·
  refine vno rfl rfl rfl rfl rfl ?_
  refine vno rfl rfl rfl rfl rfl ?_
  refine vno rfl rfl rfl rfl rfl ?_
  refine vno rfl rfl rfl rfl rfl ?_
  refine vno rfl rfl rfl rfl rfl ?_
  refine vno rfl rfl rfl rfl rfl ?_
  refine vno rfl rfl rfl rfl rfl ?_
  refine vno rfl rfl rfl rfl rfl ?_
  refine vone rfl (vxq (vpkf rfl rfl) rfl rfl ?_)
  refine vone rfl (vxq (vmv rfl) rfl rfl ?_)
  refine vno rfl rfl rfl rfl rfl ?_
  refine vno rfl rfl rfl rfl rfl ?_
  refine vno rfl rfl rfl rfl rfl ?_
  refine vno rfl rfl rfl rfl rfl ?_
  refine vno rfl rfl rfl rfl rfl ?_
  refine vno rfl rfl rfl rfl rfl ?_
  refine vno rfl rfl rfl rfl rfl ?_
  refine vno rfl rfl rfl rfl rfl ?_
  refine vone rfl (vxq (vpkf rfl rfl) rfl rfl ?_)
  refine vone rfl (vxq (vas rfl) rfl rfl ?_)
  refine vnil ?_
  refine vret (vr1 (H' := H) Tryd.func107 rfl (.tmp rfl) sb ?_)
  first | exact ⟨obf (fun hh => h12 (small_t hh)), rfl⟩ | exact ⟨obf (fun hh => h22 hh.2.1), rfl⟩ | exact ⟨obd ⟨fun hh => ⟨(small_z h12).1, h22, hh, (small_z h12).2⟩, fun hh => hh.2.2.1⟩, rfl⟩
/-- paravane/region.IsName -/
theorem c_IsName (s : ByteArray) (hs : s.size ≤ 9223372036854775807) : VPure Tryd.prog 124 [.string s] (.bool (nameB s)) := by
 intro H
 refine vcall_of_vrun Tryd.func124 rfl (N := 42) rfl rfl ?_
 refine vseq ?_
 refine vregion ?_
 refine vone rfl (vxq (vas rfl) rfl rfl ?_)
 refine vnil ?_
 refine vseq ?_
 refine vseq ?_
 refine vregion ?_
 refine vone rfl (vxq (vmv rfl) rfl rfl ?_)
 refine vone rfl (vxq (vlens rfl) rfl rfl ?_)
 refine vone rfl (vxq (vmv rfl) rfl rfl ?_)
 refine vnil ?_
 refine vblock ?_
 refine vwhile (σ := Nat) (fun i => s.size - i) (fun i => [(0, .string s), (2, .bool false), (7, I s.size), (8, I (i : Int))]) (fun i => H) (fun i => ∀ j, j < i → goodP s j) 0 (by omega) ⟨rfl, rfl, rfl, rfl, True.intro⟩ sb ?_
 rintro i hgd IH
 change VRun _ _ _ _ _ [(0, .string s), (2, .bool false), (7, I s.size), (8, I (i : Int))] _ (H) _
 refine vseq ?_
 refine vregion ?_
 refine vone rfl (vxq (vlss rfl rfl) rfl rfl ?_)
 refine vnil ?_
 refine vseq ?_
 refine vcondd rfl (fun h9 => ?_) (fun h9 => ?_)
 ·
  refine vskip ?_
  refine vseq ?_
  refine vblock ?_
  refine vseq ?_
  refine vregion ?_
  refine vone rfl (vxq (vmv rfl) rfl rfl ?_)
  refine vone rfl (vxq (vas rfl) rfl rfl ?_)
  refine vnil ?_
  refine vseq ?_
  refine vregion ?_
  refine vone rfl (vxq (vmv rfl) rfl rfl ?_)
  refine vone rfl (vxq (vmv rfl) rfl rfl ?_)
  refine vone rfl (vxq (vixs rfl rfl (by omega)) rfl rfl ?_)
  refine vone rfl (vxq (vas rfl) rfl rfl ?_)
  refine vnil ?_
  refine vseq ?_
  refine vregion ?_
  refine vone rfl (vxq (vmv rfl) rfl rfl ?_)
  refine vone rfl (vxq (vgeqk rfl rfl) rfl rfl ?_)
  refine vone rfl (vxq (vmv rfl) rfl rfl ?_)
  refine vsplitd (d := 16) rfl (fun h16 => ?_) (fun h16 => ?_)
  ·
   refine vyes rfl rfl rfl (vxq (vmv rfl) rfl rfl ?_)
   refine vyes rfl rfl rfl (vxq (vleqk rfl rfl) rfl rfl ?_)
   refine vone rfl (vxq (vpkt rfl rfl) rfl rfl ?_)
   refine vone rfl (vxq (vas rfl) rfl rfl ?_)
   refine vnil ?_
   refine vseq ?_
   refine vregion ?_
   refine vone rfl (vxq (vmv rfl) rfl rfl ?_)
   refine vone rfl (vxq (vnotd rfl) rfl rfl ?_)
   refine vone rfl (vxq (vmv rfl) rfl rfl ?_)
   refine vsplitd (d := 22) rfl (fun h22 => ?_) (fun h22 => ?_)
   ·
    refine vyes rfl rfl rfl (vxq (vmv rfl) rfl rfl ?_)
    refine vyes rfl rfl rfl (vxq (veql rfl rfl) rfl rfl ?_)
    refine vyes rfl rfl rfl (vxq (vmv rfl) rfl rfl ?_)
    refine vsplitd (d := 25) rfl (fun h25 => ?_) (fun h25 => ?_)
    ·
     refine vno rfl rfl rfl rfl rfl ?_
     refine vno rfl rfl rfl rfl rfl ?_
     refine vno rfl rfl rfl rfl rfl ?_
     refine vnou rfl rfl rfl rfl rfl ?_
     refine vnou rfl rfl rfl rfl rfl ?_
     refine vnou rfl rfl rfl rfl rfl ?_
     refine vnou rfl rfl rfl rfl rfl ?_
     refine vnou rfl rfl rfl rfl rfl ?_
     refine vnou rfl rfl rfl rfl rfl ?_
     refine vno rfl rfl rfl rfl rfl ?_
     refine vyes rfl rfl rfl (vxq (vpkt rfl rfl) rfl rfl ?_)
     refine vone rfl (vxq (vpkt rfl rfl) rfl rfl ?_)
     refine vnil ?_
     refine vcondt rfl ?_
     refine vseq ?_
     refine vregion ?_
     refine vone rfl (vxq (vas rfl) rfl rfl ?_)
     refine vnil ?_
     refine vret (vr1 (H' := H) Tryd.func124 rfl (.tmp rfl) sb ?_)
     first | (exact ⟨oV (by rw [nameB_f (fun hn => by have := hn.1; omega)]), rfl⟩) | (exact ⟨oV (by rw [nameB_f (fun hn => by have hg := hn.2 i (by omega); unfold goodP letP at hg; simp only [Int.toNat_natCast] at *; omega)]), rfl⟩) | exact ⟨oV (by rw [name_end (fun j hj => hgd j (by omega))]), rfl⟩
    ·
     refine vyes rfl rfl rfl (vxq (vmv rfl) rfl rfl ?_)
     refine vyes rfl rfl rfl (vxq (vneq rfl rfl) rfl rfl ?_)
     refine vyes rfl rfl rfl (vxq (vmv rfl) rfl rfl ?_)
     refine vsplitd (d := 28) rfl (fun h28 => ?_) (fun h28 => ?_)
     ·
      refine vyes rfl rfl rfl (vxq (vmv rfl) rfl rfl ?_)
      refine vyes rfl rfl rfl (vxq (vlssk rfl rfl) rfl rfl ?_)
      refine vyes rfl rfl rfl (vxq (vmv rfl) rfl rfl ?_)
      refine vsplitd (d := 31) rfl (fun h31 => ?_) (fun h31 => ?_)
      ·
       refine vno rfl rfl rfl rfl rfl ?_
       refine vno rfl rfl rfl rfl rfl ?_
       refine vyes rfl rfl rfl (vxq (vpkt rfl rfl) rfl rfl ?_)
       refine vyes rfl rfl rfl (vxq (vpkt rfl rfl) rfl rfl ?_)
       refine vyes rfl rfl rfl (vxq (vpkf rfl rfl) rfl rfl ?_)
       refine vone rfl (vxq (vpkt rfl rfl) rfl rfl ?_)
       refine vnil ?_
       refine vcondt rfl ?_
       refine vseq ?_
       refine vregion ?_
       refine vone rfl (vxq (vas rfl) rfl rfl ?_)
       refine vnil ?_
       refine vret (vr1 (H' := H) Tryd.func124 rfl (.tmp rfl) sb ?_)
       first | (exact ⟨oV (by rw [nameB_f (fun hn => by have := hn.1; omega)]), rfl⟩) | (exact ⟨oV (by rw [nameB_f (fun hn => by have hg := hn.2 i (by omega); unfold goodP letP at hg; simp only [Int.toNat_natCast] at *; omega)]), rfl⟩) | exact ⟨oV (by rw [name_end (fun j hj => hgd j (by omega))]), rfl⟩
      ·
       refine vyes rfl rfl rfl (vxq (vmv rfl) rfl rfl ?_)
       refine vyes rfl rfl rfl (vxq (vgtrk rfl rfl) rfl rfl ?_)
       refine vyes rfl rfl rfl (vxq (vpkf rfl rfl) rfl rfl ?_)
       refine vyes rfl rfl rfl (vxq (vpkt rfl rfl) rfl rfl ?_)
       refine vyes rfl rfl rfl (vxq (vpkf rfl rfl) rfl rfl ?_)
       refine vone rfl (vxq (vpkt rfl rfl) rfl rfl ?_)
       refine vnil ?_
       refine vcondd rfl (fun h37 => ?_) (fun h37 => ?_)
       ·
        refine vseq ?_
        refine vregion ?_
        refine vone rfl (vxq (vas rfl) rfl rfl ?_)
        refine vnil ?_
        refine vret (vr1 (H' := H) Tryd.func124 rfl (.tmp rfl) sb ?_)
        first | (exact ⟨oV (by rw [nameB_f (fun hn => by have := hn.1; omega)]), rfl⟩) | (exact ⟨oV (by rw [nameB_f (fun hn => by have hg := hn.2 i (by omega); unfold goodP letP at hg; simp only [Int.toNat_natCast] at *; omega)]), rfl⟩) | exact ⟨oV (by rw [name_end (fun j hj => hgd j (by omega))]), rfl⟩
       ·
        refine vskip ?_
        refine vinblock ?_
        refine vregion ?_
        refine vone rfl (vxq (vadd rfl rfl (by unfold InR; omega)) rfl rfl ?_)
        refine vone rfl (vxq (vmv rfl) rfl rfl ?_)
        refine vnil ?_
        exact vback (IH (i + 1) (good_next hgd (by unfold goodP letP; simp only [Int.toNat_natCast] at *; omega)) (by omega)) ⟨rfl, rfl, rfl, rfl, True.intro⟩ sb
     ·
      refine vno rfl rfl rfl rfl rfl ?_
      refine vno rfl rfl rfl rfl rfl ?_
      refine vno rfl rfl rfl rfl rfl ?_
      refine vnou rfl rfl rfl rfl rfl ?_
      refine vnou rfl rfl rfl rfl rfl ?_
      refine vno rfl rfl rfl rfl rfl ?_
      refine vyes rfl rfl rfl (vxq (vpkf rfl rfl) rfl rfl ?_)
      refine vyes rfl rfl rfl (vxq (vpkf rfl rfl) rfl rfl ?_)
      refine vone rfl (vxq (vpkt rfl rfl) rfl rfl ?_)
      refine vnil ?_
      refine vcondf rfl ?_
      refine vskip ?_
      refine vinblock ?_
      refine vregion ?_
      refine vone rfl (vxq (vadd rfl rfl (by unfold InR; omega)) rfl rfl ?_)
      refine vone rfl (vxq (vmv rfl) rfl rfl ?_)
      refine vnil ?_
      exact vback (IH (i + 1) (good_next hgd (by unfold goodP letP; simp only [Int.toNat_natCast] at *; omega)) (by omega)) ⟨rfl, rfl, rfl, rfl, True.intro⟩ sb
   ·
    refine vno rfl rfl rfl rfl rfl ?_
    refine vno rfl rfl rfl rfl rfl ?_
    refine vno rfl rfl rfl rfl rfl ?_
    refine vnou rfl rfl rfl rfl rfl ?_
    refine vnou rfl rfl rfl rfl rfl ?_
    refine vnou rfl rfl rfl rfl rfl ?_
    refine vnou rfl rfl rfl rfl rfl ?_
    refine vnou rfl rfl rfl rfl rfl ?_
    refine vnou rfl rfl rfl rfl rfl ?_
    refine vnou rfl rfl rfl rfl rfl ?_
    refine vnou rfl rfl rfl rfl rfl ?_
    refine vnou rfl rfl rfl rfl rfl ?_
    refine vnou rfl rfl rfl rfl rfl ?_
    refine vno rfl rfl rfl rfl rfl ?_
    refine vone rfl (vxq (vpkf rfl rfl) rfl rfl ?_)
    refine vnil ?_
    refine vcondf rfl ?_
    refine vskip ?_
    refine vinblock ?_
    refine vregion ?_
    refine vone rfl (vxq (vadd rfl rfl (by unfold InR; omega)) rfl rfl ?_)
    refine vone rfl (vxq (vmv rfl) rfl rfl ?_)
    refine vnil ?_
    exact vback (IH (i + 1) (good_next hgd (by unfold goodP letP; simp only [Int.toNat_natCast] at *; omega)) (by omega)) ⟨rfl, rfl, rfl, rfl, True.intro⟩ sb
  ·
   refine vno rfl rfl rfl rfl rfl ?_
   refine vno rfl rfl rfl rfl rfl ?_
   refine vone rfl (vxq (vpkf rfl rfl) rfl rfl ?_)
   refine vone rfl (vxq (vas rfl) rfl rfl ?_)
   refine vnil ?_
   refine vseq ?_
   refine vregion ?_
   refine vone rfl (vxq (vmv rfl) rfl rfl ?_)
   refine vone rfl (vxq (vnot rfl) rfl rfl ?_)
   refine vone rfl (vxq (vmv rfl) rfl rfl ?_)
   refine vyes rfl rfl rfl (vxq (vmv rfl) rfl rfl ?_)
   refine vyes rfl rfl rfl (vxq (veql rfl rfl) rfl rfl ?_)
   refine vyes rfl rfl rfl (vxq (vmv rfl) rfl rfl ?_)
   refine vsplitd (d := 25) rfl (fun h25 => ?_) (fun h25 => ?_)
   ·
    refine vno rfl rfl rfl rfl rfl ?_
    refine vno rfl rfl rfl rfl rfl ?_
    refine vno rfl rfl rfl rfl rfl ?_
    refine vnou rfl rfl rfl rfl rfl ?_
    refine vnou rfl rfl rfl rfl rfl ?_
    refine vnou rfl rfl rfl rfl rfl ?_
    refine vnou rfl rfl rfl rfl rfl ?_
    refine vnou rfl rfl rfl rfl rfl ?_
    refine vnou rfl rfl rfl rfl rfl ?_
    refine vno rfl rfl rfl rfl rfl ?_
    refine vyes rfl rfl rfl (vxq (vpkt rfl rfl) rfl rfl ?_)
    refine vone rfl (vxq (vpkt rfl rfl) rfl rfl ?_)
    refine vnil ?_
    refine vcondt rfl ?_
    refine vseq ?_
    refine vregion ?_
    refine vone rfl (vxq (vas rfl) rfl rfl ?_)
    refine vnil ?_
    refine vret (vr1 (H' := H) Tryd.func124 rfl (.tmp rfl) sb ?_)
    first | (exact ⟨oV (by rw [nameB_f (fun hn => by have := hn.1; omega)]), rfl⟩) | (exact ⟨oV (by rw [nameB_f (fun hn => by have hg := hn.2 i (by omega); unfold goodP letP at hg; simp only [Int.toNat_natCast] at *; omega)]), rfl⟩) | exact ⟨oV (by rw [name_end (fun j hj => hgd j (by omega))]), rfl⟩
   ·
    refine vyes rfl rfl rfl (vxq (vmv rfl) rfl rfl ?_)
    refine vyes rfl rfl rfl (vxq (vneq rfl rfl) rfl rfl ?_)
    refine vyes rfl rfl rfl (vxq (vmv rfl) rfl rfl ?_)
    refine vsplitd (d := 28) rfl (fun h28 => ?_) (fun h28 => ?_)
    ·
     refine vyes rfl rfl rfl (vxq (vmv rfl) rfl rfl ?_)
     refine vyes rfl rfl rfl (vxq (vlssk rfl rfl) rfl rfl ?_)
     refine vyes rfl rfl rfl (vxq (vmv rfl) rfl rfl ?_)
     refine vsplitd (d := 31) rfl (fun h31 => ?_) (fun h31 => ?_)
     ·
      refine vno rfl rfl rfl rfl rfl ?_
      refine vno rfl rfl rfl rfl rfl ?_
      refine vyes rfl rfl rfl (vxq (vpkt rfl rfl) rfl rfl ?_)
      refine vyes rfl rfl rfl (vxq (vpkt rfl rfl) rfl rfl ?_)
      refine vyes rfl rfl rfl (vxq (vpkf rfl rfl) rfl rfl ?_)
      refine vone rfl (vxq (vpkt rfl rfl) rfl rfl ?_)
      refine vnil ?_
      refine vcondt rfl ?_
      refine vseq ?_
      refine vregion ?_
      refine vone rfl (vxq (vas rfl) rfl rfl ?_)
      refine vnil ?_
      refine vret (vr1 (H' := H) Tryd.func124 rfl (.tmp rfl) sb ?_)
      first | (exact ⟨oV (by rw [nameB_f (fun hn => by have := hn.1; omega)]), rfl⟩) | (exact ⟨oV (by rw [nameB_f (fun hn => by have hg := hn.2 i (by omega); unfold goodP letP at hg; simp only [Int.toNat_natCast] at *; omega)]), rfl⟩) | exact ⟨oV (by rw [name_end (fun j hj => hgd j (by omega))]), rfl⟩
     ·
      refine vyes rfl rfl rfl (vxq (vmv rfl) rfl rfl ?_)
      refine vyes rfl rfl rfl (vxq (vgtrk rfl rfl) rfl rfl ?_)
      refine vyes rfl rfl rfl (vxq (vpkf rfl rfl) rfl rfl ?_)
      refine vyes rfl rfl rfl (vxq (vpkt rfl rfl) rfl rfl ?_)
      refine vyes rfl rfl rfl (vxq (vpkf rfl rfl) rfl rfl ?_)
      refine vone rfl (vxq (vpkt rfl rfl) rfl rfl ?_)
      refine vnil ?_
      refine vcondd rfl (fun h37 => ?_) (fun h37 => ?_)
      ·
       refine vseq ?_
       refine vregion ?_
       refine vone rfl (vxq (vas rfl) rfl rfl ?_)
       refine vnil ?_
       refine vret (vr1 (H' := H) Tryd.func124 rfl (.tmp rfl) sb ?_)
       first | (exact ⟨oV (by rw [nameB_f (fun hn => by have := hn.1; omega)]), rfl⟩) | (exact ⟨oV (by rw [nameB_f (fun hn => by have hg := hn.2 i (by omega); unfold goodP letP at hg; simp only [Int.toNat_natCast] at *; omega)]), rfl⟩) | exact ⟨oV (by rw [name_end (fun j hj => hgd j (by omega))]), rfl⟩
      ·
       refine vskip ?_
       refine vinblock ?_
       refine vregion ?_
       refine vone rfl (vxq (vadd rfl rfl (by unfold InR; omega)) rfl rfl ?_)
       refine vone rfl (vxq (vmv rfl) rfl rfl ?_)
       refine vnil ?_
       exact vback (IH (i + 1) (good_next hgd (by unfold goodP letP; simp only [Int.toNat_natCast] at *; omega)) (by omega)) ⟨rfl, rfl, rfl, rfl, True.intro⟩ sb
    ·
     refine vno rfl rfl rfl rfl rfl ?_
     refine vno rfl rfl rfl rfl rfl ?_
     refine vno rfl rfl rfl rfl rfl ?_
     refine vnou rfl rfl rfl rfl rfl ?_
     refine vnou rfl rfl rfl rfl rfl ?_
     refine vno rfl rfl rfl rfl rfl ?_
     refine vyes rfl rfl rfl (vxq (vpkf rfl rfl) rfl rfl ?_)
     refine vyes rfl rfl rfl (vxq (vpkf rfl rfl) rfl rfl ?_)
     refine vone rfl (vxq (vpkt rfl rfl) rfl rfl ?_)
     refine vnil ?_
     refine vcondf rfl ?_
     refine vskip ?_
     refine vinblock ?_
     refine vregion ?_
     refine vone rfl (vxq (vadd rfl rfl (by unfold InR; omega)) rfl rfl ?_)
     refine vone rfl (vxq (vmv rfl) rfl rfl ?_)
     refine vnil ?_
     exact vback (IH (i + 1) (good_next hgd (by unfold goodP letP; simp only [Int.toNat_natCast] at *; omega)) (by omega)) ⟨rfl, rfl, rfl, rfl, True.intro⟩ sb
 ·
  refine vexit (k' := _) rfl ?_
  refine vseq ?_
  refine vregion ?_
  refine vone rfl (vxq (vmv rfl) rfl rfl ?_)
  refine vone rfl (vxq (vlens rfl) rfl rfl ?_)
  refine vone rfl (vxq (vcp rfl rfl rfl (c_region_within _ _ _)) rfl rfl ?_)
  refine vone rfl (vxq (vas rfl) rfl rfl ?_)
  refine vnil ?_
  refine vret (vr1 (H' := H) Tryd.func124 rfl (.tmp rfl) sb ?_)
  first | (exact ⟨oV (by rw [nameB_f (fun hn => by have := hn.1; omega)]), rfl⟩) | (exact ⟨oV (by rw [nameB_f (fun hn => by have hg := hn.2 i (by omega); unfold goodP letP at hg; simp only [Int.toNat_natCast] at *; omega)]), rfl⟩) | exact ⟨oV (by rw [name_end (fun j hj => hgd j (by omega))]), rfl⟩
/-- (paravane/watch.scene).sight -/
theorem c_sight (h : SH) (s : Sc) (H : Heap) [hsc : ScO H h s] (x : Sg) (hn : x.nm.size ≤ 9223372036854775807) (he : s.eyes.length = s.ship.length ∧ s.ears.length = s.ship.length) : VHas Tryd.prog 108 [vSc h s, vSg x] (.bool (okSgB s x)) (H) (H) := by
 have hbd := hsc.bd
 refine vcall_of_vrun Tryd.func108 rfl (N := 57) rfl rfl ?_
 refine vseq ?_
 refine vregion ?_
 refine vone rfl (vxa (vbox rfl rfl) rfl rfl (fun b1 => ?_))
 refine vone rfl (vxa (vbox rfl rfl) rfl rfl (fun b2 => ?_))
 refine vone rfl (vxq (vas rfl) rfl rfl ?_)
 refine vnil ?_
 refine vseq ?_
 refine vseq ?_
 refine vdraw0 [(.q, 0), (.q, 1), (.q, 2), (.q, 3), (.q, 4), (.q, 5), (.q, 6), (.q, 7), (.q, 8), (.q, 9), (.q, 10), (.q, 11), (.q, 12), (.q, 13), (.q, 14), (.q, 15), (.q, 16), (.q, 17), (.q, 18), (.q, 19), (.q, 20), (.q, 21), (.q, 22), (.q, 23), (.q, 24), (.q, 25)] Tryd.mixed (by kernel_rfl) (by kernel_rfl) ?_
 refine vdq (mone rfl) (vfa rfl) rfl rfl ?_
 refine vdq (mone rfl) (vld1 rfl rfl) rfl rfl ?_
 refine vdq (mone rfl) (vldn rfl rfl) rfl rfl ?_
 refine vdq (mone rfl) (vcp rfl rfl rfl (c_steps h s)) rfl rfl ?_
 refine vdq (mone rfl) (vsub rfl rfl (by unfold InR; omega)) rfl rfl ?_
 refine vdq (mone rfl) (vcp rfl rfl rfl (c_watch_within _ _ _)) rfl rfl ?_
 refine vdq (mone rfl) (vnotd rfl) rfl rfl ?_
 refine vdq (mone rfl) (vmv rfl) rfl rfl ?_
 refine vdsplitd (d := 12) rfl (fun h12 => ?_) (fun h12 => ?_)
 ·
  refine vdno rfl rfl rfl rfl rfl ?_
  refine vdno rfl rfl rfl rfl rfl ?_
  refine vdno rfl rfl rfl rfl rfl ?_
  refine vdno rfl rfl rfl rfl rfl ?_
  refine vdq (mone rfl) (vpkt rfl rfl) rfl rfl ?_
  refine vdq (mone rfl) (vmv rfl) rfl rfl ?_
  refine vdno rfl rfl rfl rfl rfl ?_
  refine vdno rfl rfl rfl rfl rfl ?_
  refine vdno rfl rfl rfl rfl rfl ?_
  refine vdq (mone rfl) (vpkt rfl rfl) rfl rfl ?_
  refine vdq (mone rfl) (vmv rfl) rfl rfl ?_
  refine vdno rfl rfl rfl rfl rfl ?_
  refine vdno rfl rfl rfl rfl rfl ?_
  refine vdno rfl rfl rfl rfl rfl ?_
  refine vdno rfl rfl rfl rfl rfl ?_
  refine vdno rfl rfl rfl rfl rfl ?_
  refine vdno rfl rfl rfl rfl rfl ?_
  refine vdq (mone rfl) (vpkt rfl rfl) rfl rfl ?_
  refine vdend rfl ?_
  refine vcondt rfl ?_
  refine vseq ?_
  refine vregion ?_
  refine vone rfl (vxq (vas rfl) rfl rfl ?_)
  refine vnil ?_
  refine vret (vr1 (H' := H) Tryd.func108 rfl (.tmp rfl) sb ?_)
  first | exact ⟨sight_no (fun hh => h12 ⟨hh.1.1, by have := hh.1.2; omega⟩), rfl⟩ | exact ⟨sight_no (fun hh => by rw [nameB_t hh.2.1] at h18; exact absurd h18 (by decide)), rfl⟩ | exact ⟨sight_no (fun hh => by have := hh.2.2.1; omega), rfl⟩ | exact ⟨sight_fin (by omega) (by simpa using h18) (by omega) (by omega) ⟨fun _ => .inl ⟨by omega, (atB_of hz).trans h43⟩, fun _ => rfl⟩, rfl⟩ | exact ⟨sight_fin (by omega) (by simpa using h18) (by omega) (by omega) ⟨fun e => .inr ⟨h47, (atB_of hz2).trans e⟩, fun g => by rcases g with ⟨g1, g2⟩ | ⟨g1, g2⟩ <;> first | (exfalso; omega) | exact (atB_of hz2).symm.trans g2⟩, rfl⟩ | exact ⟨sight_fin (by omega) (by simpa using h18) (by omega) (by omega) ⟨fun e => (by cases e), fun g => by rcases g with ⟨g1, g2⟩ | ⟨g1, g2⟩ <;> first | (exfalso; omega) | (rw [atB_of hz] at g2; rw [g2] at h43; exact absurd h43 (by decide))⟩, rfl⟩
 ·
  refine vdq (myes rfl rfl rfl) (vfa rfl) rfl rfl ?_
  refine vdq (myes rfl rfl rfl) (vld1 rfl rfl) rfl rfl ?_
  refine vdq (myes rfl rfl rfl) (vcp rfl rfl rfl (c_IsName x.nm hn)) rfl rfl ?_
  refine vdq (myes rfl rfl rfl) (vnot rfl) rfl rfl ?_
  refine vdq (mone rfl) (vpkf rfl rfl) rfl rfl ?_
  refine vdq (mone rfl) (vmv rfl) rfl rfl ?_
  refine vdsplit (d := 18) rfl (fun h18 => ?_) (fun h18 => ?_)
  ·
   refine vdno rfl rfl rfl rfl rfl ?_
   refine vdno rfl rfl rfl rfl rfl ?_
   refine vdno rfl rfl rfl rfl rfl ?_
   refine vdq (mone rfl) (vpkt rfl rfl) rfl rfl ?_
   refine vdq (mone rfl) (vmv rfl) rfl rfl ?_
   refine vdno rfl rfl rfl rfl rfl ?_
   refine vdno rfl rfl rfl rfl rfl ?_
   refine vdno rfl rfl rfl rfl rfl ?_
   refine vdno rfl rfl rfl rfl rfl ?_
   refine vdno rfl rfl rfl rfl rfl ?_
   refine vdno rfl rfl rfl rfl rfl ?_
   refine vdq (mone rfl) (vpkt rfl rfl) rfl rfl ?_
   refine vdend rfl ?_
   refine vcondt rfl ?_
   refine vseq ?_
   refine vregion ?_
   refine vone rfl (vxq (vas rfl) rfl rfl ?_)
   refine vnil ?_
   refine vret (vr1 (H' := H) Tryd.func108 rfl (.tmp rfl) sb ?_)
   first | exact ⟨sight_no (fun hh => h12 ⟨hh.1.1, by have := hh.1.2; omega⟩), rfl⟩ | exact ⟨sight_no (fun hh => by rw [nameB_t hh.2.1] at h18; exact absurd h18 (by decide)), rfl⟩ | exact ⟨sight_no (fun hh => by have := hh.2.2.1; omega), rfl⟩ | exact ⟨sight_fin (by omega) (by simpa using h18) (by omega) (by omega) ⟨fun _ => .inl ⟨by omega, (atB_of hz).trans h43⟩, fun _ => rfl⟩, rfl⟩ | exact ⟨sight_fin (by omega) (by simpa using h18) (by omega) (by omega) ⟨fun e => .inr ⟨h47, (atB_of hz2).trans e⟩, fun g => by rcases g with ⟨g1, g2⟩ | ⟨g1, g2⟩ <;> first | (exfalso; omega) | exact (atB_of hz2).symm.trans g2⟩, rfl⟩ | exact ⟨sight_fin (by omega) (by simpa using h18) (by omega) (by omega) ⟨fun e => (by cases e), fun g => by rcases g with ⟨g1, g2⟩ | ⟨g1, g2⟩ <;> first | (exfalso; omega) | (rw [atB_of hz] at g2; rw [g2] at h43; exact absurd h43 (by decide))⟩, rfl⟩
  ·
   refine vdq (myes rfl rfl rfl) (vfa rfl) rfl rfl ?_
   refine vdq (myes rfl rfl rfl) (vld1 rfl rfl) rfl rfl ?_
   refine vdq (myes rfl rfl rfl) (vlss rfl rfl) rfl rfl ?_
   refine vdq (mone rfl) (vpkf rfl rfl) rfl rfl ?_
   refine vdq (mone rfl) (vmv rfl) rfl rfl ?_
   refine vdsplitd (d := 23) rfl (fun h23 => ?_) (fun h23 => ?_)
   ·
    refine vdno rfl rfl rfl rfl rfl ?_
    refine vdno rfl rfl rfl rfl rfl ?_
    refine vdno rfl rfl rfl rfl rfl ?_
    refine vdno rfl rfl rfl rfl rfl ?_
    refine vdno rfl rfl rfl rfl rfl ?_
    refine vdno rfl rfl rfl rfl rfl ?_
    refine vdq (mone rfl) (vpkt rfl rfl) rfl rfl ?_
    refine vdend rfl ?_
    refine vcondt rfl ?_
    refine vseq ?_
    refine vregion ?_
    refine vone rfl (vxq (vas rfl) rfl rfl ?_)
    refine vnil ?_
    refine vret (vr1 (H' := H) Tryd.func108 rfl (.tmp rfl) sb ?_)
    first | exact ⟨sight_no (fun hh => h12 ⟨hh.1.1, by have := hh.1.2; omega⟩), rfl⟩ | exact ⟨sight_no (fun hh => by rw [nameB_t hh.2.1] at h18; exact absurd h18 (by decide)), rfl⟩ | exact ⟨sight_no (fun hh => by have := hh.2.2.1; omega), rfl⟩ | exact ⟨sight_fin (by omega) (by simpa using h18) (by omega) (by omega) ⟨fun _ => .inl ⟨by omega, (atB_of hz).trans h43⟩, fun _ => rfl⟩, rfl⟩ | exact ⟨sight_fin (by omega) (by simpa using h18) (by omega) (by omega) ⟨fun e => .inr ⟨h47, (atB_of hz2).trans e⟩, fun g => by rcases g with ⟨g1, g2⟩ | ⟨g1, g2⟩ <;> first | (exfalso; omega) | exact (atB_of hz2).symm.trans g2⟩, rfl⟩ | exact ⟨sight_fin (by omega) (by simpa using h18) (by omega) (by omega) ⟨fun e => (by cases e), fun g => by rcases g with ⟨g1, g2⟩ | ⟨g1, g2⟩ <;> first | (exfalso; omega) | (rw [atB_of hz] at g2; rw [g2] at h43; exact absurd h43 (by decide))⟩, rfl⟩
   ·
    refine vdq (myes rfl rfl rfl) (vfa rfl) rfl rfl ?_
    refine vdq (myes rfl rfl rfl) (vld1 rfl rfl) rfl rfl ?_
    refine vdq (myes rfl rfl rfl) (vfa rfl) rfl rfl ?_
    refine vdq (myes rfl rfl rfl) (vld1 rfl rfl) rfl rfl ?_
    refine vdq (myes rfl rfl rfl) (vcp rfl rfl rfl (c_watch_within _ _ _)) rfl rfl ?_
    refine vdq (myes rfl rfl rfl) (vnotd rfl) rfl rfl ?_
    refine vdq (mone rfl) (vpkf rfl rfl) rfl rfl ?_
    refine vdend rfl ?_
    refine vcondd rfl (fun h30 => ?_) (fun h30 => ?_)
    ·
     refine vseq ?_
     refine vregion ?_
     refine vone rfl (vxq (vas rfl) rfl rfl ?_)
     refine vnil ?_
     refine vret (vr1 (H' := H) Tryd.func108 rfl (.tmp rfl) sb ?_)
     first | exact ⟨sight_no (fun hh => h12 ⟨hh.1.1, by have := hh.1.2; omega⟩), rfl⟩ | exact ⟨sight_no (fun hh => by rw [nameB_t hh.2.1] at h18; exact absurd h18 (by decide)), rfl⟩ | exact ⟨sight_no (fun hh => by have := hh.2.2.1; omega), rfl⟩ | exact ⟨sight_fin (by omega) (by simpa using h18) (by omega) (by omega) ⟨fun _ => .inl ⟨by omega, (atB_of hz).trans h43⟩, fun _ => rfl⟩, rfl⟩ | exact ⟨sight_fin (by omega) (by simpa using h18) (by omega) (by omega) ⟨fun e => .inr ⟨h47, (atB_of hz2).trans e⟩, fun g => by rcases g with ⟨g1, g2⟩ | ⟨g1, g2⟩ <;> first | (exfalso; omega) | exact (atB_of hz2).symm.trans g2⟩, rfl⟩ | exact ⟨sight_fin (by omega) (by simpa using h18) (by omega) (by omega) ⟨fun e => (by cases e), fun g => by rcases g with ⟨g1, g2⟩ | ⟨g1, g2⟩ <;> first | (exfalso; omega) | (rw [atB_of hz] at g2; rw [g2] at h43; exact absurd h43 (by decide))⟩, rfl⟩
    ·
     refine vskip ?_
     refine vseq ?_
     refine vregion ?_
     refine vone rfl (vxq (vfa rfl) rfl rfl ?_)
     refine vone rfl (vxq (vld1 rfl rfl) rfl rfl ?_)
     refine vone rfl (vxq (vcp rfl rfl rfl (c_watch_within _ _ _)) rfl rfl ?_)
     refine vone rfl (vxq (vmv rfl) rfl rfl ?_)
     refine vsplitd (d := 34) rfl (fun h34 => ?_) (fun h34 => ?_)
     ·
      refine vyes rfl rfl rfl (vxq (vfa rfl) rfl rfl ?_)
      refine vyes rfl rfl rfl (vxq (vfa rfl) rfl rfl ?_)
      refine vyes rfl rfl rfl (vxq (vld1 rfl rfl) rfl rfl ?_)
      refine vyes rfl rfl rfl (vxq (vfa rfl) rfl rfl ?_)
      refine vyes rfl rfl rfl (vxq (vld1 rfl rfl) rfl rfl ?_)
      obtain ⟨z, hz⟩ := get_of_lt s.eyes (i := x.st.toNat) (by omega)
      refine vyes rfl rfl rfl (vxq (visg (enc := encB) rfl rfl (by omega) hz) rfl rfl ?_)
      refine vyes rfl rfl rfl (vxq (vldS1 (enc := encB) rfl hz rfl) rfl rfl ?_)
      refine vone rfl (vxq (vpkt rfl rfl) rfl rfl ?_)
      refine vone rfl (vxq (vmv rfl) rfl rfl ?_)
      refine vsplit (d := 43) rfl (fun h43 => ?_) (fun h43 => ?_)
      ·
       refine vno rfl rfl rfl rfl rfl ?_
       refine vno rfl rfl rfl rfl rfl ?_
       refine vno rfl rfl rfl rfl rfl ?_
       refine vno rfl rfl rfl rfl rfl ?_
       refine vnou rfl rfl rfl rfl rfl ?_
       refine vnou rfl rfl rfl rfl rfl ?_
       refine vnou rfl rfl rfl rfl rfl ?_
       refine vnou rfl rfl rfl rfl rfl ?_
       refine vnou rfl rfl rfl rfl rfl ?_
       refine vnou rfl rfl rfl rfl rfl ?_
       refine vnou rfl rfl rfl rfl rfl ?_
       refine vno rfl rfl rfl rfl rfl ?_
       refine vone rfl (vxq (vpkt rfl rfl) rfl rfl ?_)
       refine vone rfl (vxq (vas rfl) rfl rfl ?_)
       refine vnil ?_
       refine vret (vr1 (H' := H) Tryd.func108 rfl (.tmp rfl) sb ?_)
       first | exact ⟨sight_no (fun hh => h12 ⟨hh.1.1, by have := hh.1.2; omega⟩), rfl⟩ | exact ⟨sight_no (fun hh => by rw [nameB_t hh.2.1] at h18; exact absurd h18 (by decide)), rfl⟩ | exact ⟨sight_no (fun hh => by have := hh.2.2.1; omega), rfl⟩ | exact ⟨sight_fin (by omega) (by simpa using h18) (by omega) (by omega) ⟨fun _ => .inl ⟨by omega, (atB_of hz).trans h43⟩, fun _ => rfl⟩, rfl⟩ | exact ⟨sight_fin (by omega) (by simpa using h18) (by omega) (by omega) ⟨fun e => .inr ⟨h47, (atB_of hz2).trans e⟩, fun g => by rcases g with ⟨g1, g2⟩ | ⟨g1, g2⟩ <;> first | (exfalso; omega) | exact (atB_of hz2).symm.trans g2⟩, rfl⟩ | exact ⟨sight_fin (by omega) (by simpa using h18) (by omega) (by omega) ⟨fun e => (by cases e), fun g => by rcases g with ⟨g1, g2⟩ | ⟨g1, g2⟩ <;> first | (exfalso; omega) | (rw [atB_of hz] at g2; rw [g2] at h43; exact absurd h43 (by decide))⟩, rfl⟩
      ·
       refine vyes rfl rfl rfl (vxq (vfa rfl) rfl rfl ?_)
       refine vyes rfl rfl rfl (vxq (vld1 rfl rfl) rfl rfl ?_)
       refine vyes rfl rfl rfl (vxq (veql rfl rfl) rfl rfl ?_)
       refine vyes rfl rfl rfl (vxq (vmv rfl) rfl rfl ?_)
       refine vsplitd (d := 47) rfl (fun h47 => ?_) (fun h47 => ?_)
       ·
        refine vyes rfl rfl rfl (vxq (vfa rfl) rfl rfl ?_)
        refine vyes rfl rfl rfl (vxq (vfa rfl) rfl rfl ?_)
        refine vyes rfl rfl rfl (vxq (vld1 rfl rfl) rfl rfl ?_)
        refine vyes rfl rfl rfl (vxq (vfa rfl) rfl rfl ?_)
        refine vyes rfl rfl rfl (vxq (vld1 rfl rfl) rfl rfl ?_)
        obtain ⟨z2, hz2⟩ := get_of_lt s.ears (i := x.st.toNat) (by omega)
        refine vyes rfl rfl rfl (vxq (visg (enc := encB) rfl rfl (by omega) hz2) rfl rfl ?_)
        refine vyes rfl rfl rfl (vxq (vldS1 (enc := encB) rfl hz2 rfl) rfl rfl ?_)
        refine vyes rfl rfl rfl (vxq (vpkt rfl rfl) rfl rfl ?_)
        refine vone rfl (vxq (vpkf rfl rfl) rfl rfl ?_)
        refine vone rfl (vxq (vas rfl) rfl rfl ?_)
        refine vnil ?_
        refine vret (vr1 (H' := H) Tryd.func108 rfl (.tmp rfl) sb ?_)
        first | exact ⟨sight_no (fun hh => h12 ⟨hh.1.1, by have := hh.1.2; omega⟩), rfl⟩ | exact ⟨sight_no (fun hh => by rw [nameB_t hh.2.1] at h18; exact absurd h18 (by decide)), rfl⟩ | exact ⟨sight_no (fun hh => by have := hh.2.2.1; omega), rfl⟩ | exact ⟨sight_fin (by omega) (by simpa using h18) (by omega) (by omega) ⟨fun _ => .inl ⟨by omega, (atB_of hz).trans h43⟩, fun _ => rfl⟩, rfl⟩ | exact ⟨sight_fin (by omega) (by simpa using h18) (by omega) (by omega) ⟨fun e => .inr ⟨h47, (atB_of hz2).trans e⟩, fun g => by rcases g with ⟨g1, g2⟩ | ⟨g1, g2⟩ <;> first | (exfalso; omega) | exact (atB_of hz2).symm.trans g2⟩, rfl⟩ | exact ⟨sight_fin (by omega) (by simpa using h18) (by omega) (by omega) ⟨fun e => (by cases e), fun g => by rcases g with ⟨g1, g2⟩ | ⟨g1, g2⟩ <;> first | (exfalso; omega) | (rw [atB_of hz] at g2; rw [g2] at h43; exact absurd h43 (by decide))⟩, rfl⟩
       ·
        refine vno rfl rfl rfl rfl rfl ?_
        refine vno rfl rfl rfl rfl rfl ?_
        refine vno rfl rfl rfl rfl rfl ?_
        refine vno rfl rfl rfl rfl rfl ?_
        refine vno rfl rfl rfl rfl rfl ?_
        refine vno rfl rfl rfl rfl rfl ?_
        refine vno rfl rfl rfl rfl rfl ?_
        refine vyes rfl rfl rfl (vxq (vpkf rfl rfl) rfl rfl ?_)
        refine vone rfl (vxq (vpkf rfl rfl) rfl rfl ?_)
        refine vone rfl (vxq (vas rfl) rfl rfl ?_)
        refine vnil ?_
        refine vret (vr1 (H' := H) Tryd.func108 rfl (.tmp rfl) sb ?_)
        first | exact ⟨sight_no (fun hh => h12 ⟨hh.1.1, by have := hh.1.2; omega⟩), rfl⟩ | exact ⟨sight_no (fun hh => by rw [nameB_t hh.2.1] at h18; exact absurd h18 (by decide)), rfl⟩ | exact ⟨sight_no (fun hh => by have := hh.2.2.1; omega), rfl⟩ | exact ⟨sight_fin (by omega) (by simpa using h18) (by omega) (by omega) ⟨fun _ => .inl ⟨by omega, (atB_of hz).trans h43⟩, fun _ => rfl⟩, rfl⟩ | exact ⟨sight_fin (by omega) (by simpa using h18) (by omega) (by omega) ⟨fun e => .inr ⟨h47, (atB_of hz2).trans e⟩, fun g => by rcases g with ⟨g1, g2⟩ | ⟨g1, g2⟩ <;> first | (exfalso; omega) | exact (atB_of hz2).symm.trans g2⟩, rfl⟩ | exact ⟨sight_fin (by omega) (by simpa using h18) (by omega) (by omega) ⟨fun e => (by cases e), fun g => by rcases g with ⟨g1, g2⟩ | ⟨g1, g2⟩ <;> first | (exfalso; omega) | (rw [atB_of hz] at g2; rw [g2] at h43; exact absurd h43 (by decide))⟩, rfl⟩
     ·
      refine vno rfl rfl rfl rfl rfl ?_
      refine vno rfl rfl rfl rfl rfl ?_
      refine vno rfl rfl rfl rfl rfl ?_
      refine vno rfl rfl rfl rfl rfl ?_
      refine vno rfl rfl rfl rfl rfl ?_
      refine vno rfl rfl rfl rfl rfl ?_
      refine vno rfl rfl rfl rfl rfl ?_
      refine vone rfl (vxq (vpkf rfl rfl) rfl rfl ?_)
      refine vone rfl (vxq (vmv rfl) rfl rfl ?_)
      refine vyes rfl rfl rfl (vxq (vfa rfl) rfl rfl ?_)
      refine vyes rfl rfl rfl (vxq (vld1 rfl rfl) rfl rfl ?_)
      refine vyes rfl rfl rfl (vxq (veql rfl rfl) rfl rfl ?_)
      refine vyes rfl rfl rfl (vxq (vmv rfl) rfl rfl ?_)
      refine vsplitd (d := 47) rfl (fun h47 => ?_) (fun h47 => ?_)
      ·
       refine vyes rfl rfl rfl (vxq (vfa rfl) rfl rfl ?_)
       refine vyes rfl rfl rfl (vxq (vfa rfl) rfl rfl ?_)
       refine vyes rfl rfl rfl (vxq (vld1 rfl rfl) rfl rfl ?_)
       refine vyes rfl rfl rfl (vxq (vfa rfl) rfl rfl ?_)
       refine vyes rfl rfl rfl (vxq (vld1 rfl rfl) rfl rfl ?_)
       obtain ⟨z2, hz2⟩ := get_of_lt s.ears (i := x.st.toNat) (by omega)
       refine vyes rfl rfl rfl (vxq (visg (enc := encB) rfl rfl (by omega) hz2) rfl rfl ?_)
       refine vyes rfl rfl rfl (vxq (vldS1 (enc := encB) rfl hz2 rfl) rfl rfl ?_)
       refine vyes rfl rfl rfl (vxq (vpkt rfl rfl) rfl rfl ?_)
       refine vone rfl (vxq (vpkf rfl rfl) rfl rfl ?_)
       refine vone rfl (vxq (vas rfl) rfl rfl ?_)
       refine vnil ?_
       refine vret (vr1 (H' := H) Tryd.func108 rfl (.tmp rfl) sb ?_)
       first | exact ⟨sight_no (fun hh => h12 ⟨hh.1.1, by have := hh.1.2; omega⟩), rfl⟩ | exact ⟨sight_no (fun hh => by rw [nameB_t hh.2.1] at h18; exact absurd h18 (by decide)), rfl⟩ | exact ⟨sight_no (fun hh => by have := hh.2.2.1; omega), rfl⟩ | exact ⟨sight_fin (by omega) (by simpa using h18) (by omega) (by omega) ⟨fun _ => .inl ⟨by omega, (atB_of hz).trans h43⟩, fun _ => rfl⟩, rfl⟩ | exact ⟨sight_fin (by omega) (by simpa using h18) (by omega) (by omega) ⟨fun e => .inr ⟨h47, (atB_of hz2).trans e⟩, fun g => by rcases g with ⟨g1, g2⟩ | ⟨g1, g2⟩ <;> first | (exfalso; omega) | exact (atB_of hz2).symm.trans g2⟩, rfl⟩ | exact ⟨sight_fin (by omega) (by simpa using h18) (by omega) (by omega) ⟨fun e => (by cases e), fun g => by rcases g with ⟨g1, g2⟩ | ⟨g1, g2⟩ <;> first | (exfalso; omega) | (rw [atB_of hz] at g2; rw [g2] at h43; exact absurd h43 (by decide))⟩, rfl⟩
      ·
       refine vno rfl rfl rfl rfl rfl ?_
       refine vno rfl rfl rfl rfl rfl ?_
       refine vno rfl rfl rfl rfl rfl ?_
       refine vno rfl rfl rfl rfl rfl ?_
       refine vno rfl rfl rfl rfl rfl ?_
       refine vno rfl rfl rfl rfl rfl ?_
       refine vno rfl rfl rfl rfl rfl ?_
       refine vyes rfl rfl rfl (vxq (vpkf rfl rfl) rfl rfl ?_)
       refine vone rfl (vxq (vpkf rfl rfl) rfl rfl ?_)
       refine vone rfl (vxq (vas rfl) rfl rfl ?_)
       refine vnil ?_
       refine vret (vr1 (H' := H) Tryd.func108 rfl (.tmp rfl) sb ?_)
       first | exact ⟨sight_no (fun hh => h12 ⟨hh.1.1, by have := hh.1.2; omega⟩), rfl⟩ | exact ⟨sight_no (fun hh => by rw [nameB_t hh.2.1] at h18; exact absurd h18 (by decide)), rfl⟩ | exact ⟨sight_no (fun hh => by have := hh.2.2.1; omega), rfl⟩ | exact ⟨sight_fin (by omega) (by simpa using h18) (by omega) (by omega) ⟨fun _ => .inl ⟨by omega, (atB_of hz).trans h43⟩, fun _ => rfl⟩, rfl⟩ | exact ⟨sight_fin (by omega) (by simpa using h18) (by omega) (by omega) ⟨fun e => .inr ⟨h47, (atB_of hz2).trans e⟩, fun g => by rcases g with ⟨g1, g2⟩ | ⟨g1, g2⟩ <;> first | (exfalso; omega) | exact (atB_of hz2).symm.trans g2⟩, rfl⟩ | exact ⟨sight_fin (by omega) (by simpa using h18) (by omega) (by omega) ⟨fun e => (by cases e), fun g => by rcases g with ⟨g1, g2⟩ | ⟨g1, g2⟩ <;> first | (exfalso; omega) | (rw [atB_of hz] at g2; rw [g2] at h43; exact absurd h43 (by decide))⟩, rfl⟩
end Go.Proofs.YtaplkoimhecacaaDoor
