/-
  Walks of CheckScene, Sighted and Guard.
-/
import Derived.Test.YtaplkoimhecacaaDoorTb10
namespace Go.Proofs.YtaplkoimhecacaaDoor
open Go
set_option maxRecDepth 100000
attribute [local irreducible] tightP hullP rootP farP rows endsOf
instance tFg49_0 : TFg Tryd.prog 49 0 0 := mkTFg (by kernel_rfl)
instance tFg49_1 : TFg Tryd.prog 49 1 1 := mkTFg (by kernel_rfl)
instance tFg49_2 : TFg Tryd.prog 49 2 2 := mkTFg (by kernel_rfl)
instance tFg49_3 : TFg Tryd.prog 49 3 3 := mkTFg (by kernel_rfl)
instance tFg49_4 : TFg Tryd.prog 49 4 4 := mkTFg (by kernel_rfl)

noncomputable def okScB (s : Sc) : Bool := @decide (okSc s) (Classical.propDecidable _)
theorem okScB_t {s : Sc} (h : okSc s) : okScB s = true := by unfold okScB; exact @decide_eq_true _ (Classical.propDecidable _) h
theorem okScB_f {s : Sc} (h : ¬ okSc s) : okScB s = false := by unfold okScB; exact @decide_eq_false _ (Classical.propDecidable _) h
theorem okScB_i {s : Sc} : okScB s = true ↔ okSc s := by
  constructor
  · intro h; rcases Classical.em (okSc s) with h1 | h1
    · exact h1
    · rw [okScB_f h1] at h; cases h
  · exact okScB_t
theorem chkS_t {s : Sc} (h : okSc s) : chkS s = 0 := by unfold chkS; exact @if_pos _ (Classical.propDecidable _) h _ _ _
theorem chkS_f {s : Sc} (h : ¬ okSc s) : chkS s = 61 := by unfold chkS; exact @if_neg _ (Classical.propDecidable _) h _ _ _
theorem chkS_z {s : Sc} : chkS s = 0 ↔ okSc s := by
  constructor
  · intro h; rcases Classical.em (okSc s) with h1 | h1
    · exact h1
    · rw [chkS_f h1] at h; cases h
  · exact chkS_t
theorem scene_no {s : Sc} (h : ¬ okSc s) : Out.val (.bool false) = Out.val (.bool (okScB s)) := by rw [okScB_f h]
theorem scene_yes {s : Sc} (h : okSc s) : Out.val (.bool true) = Out.val (.bool (okScB s)) := by rw [okScB_t h]
theorem valid_fin {s : Sc} (h1 : (1 ≤ (s.ship.length : Int) ∧ (s.ship.length : Int) ≤ 64) ∧ s.src.length = s.ship.length ∧ s.eyes.length = s.ship.length ∧ s.ears.length = s.ship.length ∧ s.sg.length ≤ 32) (hsm : ∀ j : Nat, (j : Int) < s.ship.length → smallR (atR s.ship j) ∧ smallR (atR s.src j))
    (hok : ∀ j : Nat, (j : Int) < s.sg.length → ∀ x, s.sg[j]? = some x → okSg s x) (hso : ∀ j : Nat, (j : Int) < s.sg.length → ∀ x y, s.sg[j - 1]? = some x → s.sg[j]? = some y → 0 < j → x.st ≤ y.st) : okSc s := by
  refine ⟨by omega, h1.2.1, h1.2.2.1, h1.2.2.2.1, h1.2.2.2.2, fun r hr => ?_, fun r hr => ?_, fun x hx => ?_, fun i x y hx hy => ?_⟩
  · obtain ⟨j, hj⟩ := List.getElem?_of_mem hr
    have := (hsm j (by have := (List.getElem?_eq_some_iff.1 hj).1; omega)).1
    rwa [atR_of hj] at this
  · obtain ⟨j, hj⟩ := List.getElem?_of_mem hr
    have := (hsm j (by have := (List.getElem?_eq_some_iff.1 hj).1; omega)).2
    rwa [atR_of hj] at this
  · obtain ⟨j, hj⟩ := List.getElem?_of_mem hx
    exact hok j (by have := (List.getElem?_eq_some_iff.1 hj).1; omega) x hj
  · exact hso (i + 1) (by have := (List.getElem?_eq_some_iff.1 hy).1; omega) x y hx hy (by omega)
theorem inR_mulG {a b : Int} (ha : 0 ≤ a ∧ a ≤ 1001) (hb : 0 ≤ b ∧ b ≤ 2000) : InR (a * b) := by
  have := mul_bd (a := a) (b := b) (m := 2000) (by omega) (by omega); unfold InR; omega
theorem inR_subG {c a b : Int} (ha : 0 ≤ a ∧ a ≤ 1001) (hb : 0 ≤ b ∧ b ≤ 2000) (hc : 0 ≤ c ∧ c ≤ 32768) : InR (c - a * b) := by
  have := mul_bd (a := a) (b := b) (m := 2000) (by omega) (by omega); unfold InR; omega
theorem lt_snoc {_n : Nat} {p : Nat → Prop} {t : Int} (h0 : 0 ≤ t) (h : ∀ j : Nat, (j : Int) < t → p j) (ht : p t.toNat) : ∀ j : Nat, (j : Int) < t + 1 → p j := fun j hj => by
  by_cases e : (j : Int) = t
  · rw [show j = t.toNat by omega]; exact ht
  · exact h j (by omega)

/-- (paravane/watch.scene).valid -/
theorem c_valid (h : SH) (s : Sc) (H : Heap) [hsc : ScO H h s] : VHas Tryd.prog 74 [vSc h s] (.bool (okScB s)) (H) (H) := by
 have hbd := hsc.bd
 have hnm := hsc.nm
 refine vcall_of_vrun Tryd.func74 rfl (N := 97) rfl rfl ?_
 refine vseq ?_
 refine vregion ?_
 refine vone rfl (vxa (vbox rfl rfl) rfl rfl (fun b1 => ?_))
 refine vone rfl (vxq (vas rfl) rfl rfl ?_)
 refine vnil ?_
 refine vseq ?_
 refine vregion ?_
 refine vone rfl (vxq (vldn rfl rfl) rfl rfl ?_)
 refine vone rfl (vxq (vcp rfl rfl rfl (c_steps h s)) rfl rfl ?_)
 refine vone rfl (vxq (vas rfl) rfl rfl ?_)
 refine vnil ?_
 refine vseq ?_
 refine vseq ?_
 refine vregion ?_
 refine vone rfl (vxq (vmv rfl) rfl rfl ?_)
 refine vone rfl (vxq (vcp rfl rfl rfl (c_watch_within _ _ _)) rfl rfl ?_)
 refine vone rfl (vxq (vnotd rfl) rfl rfl ?_)
 refine vone rfl (vxq (vmv rfl) rfl rfl ?_)
 refine vsplitd (d := 12) rfl (fun h12 => ?_) (fun h12 => ?_)
 ·
  refine vno rfl rfl rfl rfl rfl ?_
  refine vno rfl rfl rfl rfl rfl ?_
  refine vno rfl rfl rfl rfl rfl ?_
  refine vno rfl rfl rfl rfl rfl ?_
  refine vno rfl rfl rfl rfl rfl ?_
  refine vno rfl rfl rfl rfl rfl ?_
  refine vone rfl (vxq (vpkt rfl rfl) rfl rfl ?_)
  refine vone rfl (vxq (vmv rfl) rfl rfl ?_)
  refine vno rfl rfl rfl rfl rfl ?_
  refine vno rfl rfl rfl rfl rfl ?_
  refine vno rfl rfl rfl rfl rfl ?_
  refine vno rfl rfl rfl rfl rfl ?_
  refine vno rfl rfl rfl rfl rfl ?_
  refine vno rfl rfl rfl rfl rfl ?_
  refine vone rfl (vxq (vpkt rfl rfl) rfl rfl ?_)
  refine vone rfl (vxq (vmv rfl) rfl rfl ?_)
  refine vno rfl rfl rfl rfl rfl ?_
  refine vno rfl rfl rfl rfl rfl ?_
  refine vno rfl rfl rfl rfl rfl ?_
  refine vno rfl rfl rfl rfl rfl ?_
  refine vno rfl rfl rfl rfl rfl ?_
  refine vno rfl rfl rfl rfl rfl ?_
  refine vone rfl (vxq (vpkt rfl rfl) rfl rfl ?_)
  refine vone rfl (vxq (vmv rfl) rfl rfl ?_)
  refine vno rfl rfl rfl rfl rfl ?_
  refine vno rfl rfl rfl rfl rfl ?_
  refine vno rfl rfl rfl rfl rfl ?_
  refine vno rfl rfl rfl rfl rfl ?_
  refine vno rfl rfl rfl rfl rfl ?_
  refine vone rfl (vxq (vpkt rfl rfl) rfl rfl ?_)
  refine vnil ?_
  refine vcondt rfl ?_
  refine vseq ?_
  refine vregion ?_
  refine vone rfl (vxq (vas rfl) rfl rfl ?_)
  refine vnil ?_
  refine vret (vr1 (H' := H) Tryd.func74 rfl (.tmp rfl) sb ?_)
  first | exact ⟨scene_no (fun hh => by have g1 := hh.1; have g2 := hh.2.1; have g3 := hh.2.2.1; have g4 := hh.2.2.2.1; have g5 := hh.2.2.2.2.1; omega), rfl⟩ | exact ⟨scene_no (fun hh => h55 (hh.2.2.2.2.2.1 z1 (List.mem_of_getElem? hz1))), rfl⟩ | exact ⟨scene_no (fun hh => h64 (hh.2.2.2.2.2.2.1 z2 (List.mem_of_getElem? hz2))), rfl⟩ | exact ⟨scene_no (fun hh => by have := okSgB_t (hh.2.2.2.2.2.2.2.1 x (List.mem_of_getElem? hx)); rw [this] at h79; exact absurd h79 (by decide)), rfl⟩ | exact ⟨scene_no (fun hh => by have := hh.2.2.2.2.2.2.2.2 (i - 1).toNat x2 x hx2 (by rw [show (i - 1).toNat + 1 = i.toNat by omega]; exact hx); omega), rfl⟩ | exact ⟨scene_yes (valid_fin (by omega) (fun j hj => hsm j (by omega)) (fun j hj => hok j (by omega)) (fun j hj => hso j (by omega))), rfl⟩
 ·
  refine vyes rfl rfl rfl (vxq (vfa rfl) rfl rfl ?_)
  refine vyes rfl rfl rfl (vxq (vfa rfl) rfl rfl ?_)
  refine vyes rfl rfl rfl (vxq (vld1 rfl rfl) rfl rfl ?_)
  refine vyes rfl rfl rfl (vxq (vlen rfl) rfl rfl ?_)
  refine vyes rfl rfl rfl (vxq (vmv rfl) rfl rfl ?_)
  refine vyes rfl rfl rfl (vxq (vneq rfl rfl) rfl rfl ?_)
  refine vone rfl (vxq (vpkf rfl rfl) rfl rfl ?_)
  refine vone rfl (vxq (vmv rfl) rfl rfl ?_)
  refine vsplitd (d := 20) rfl (fun h20 => ?_) (fun h20 => ?_)
  ·
   refine vno rfl rfl rfl rfl rfl ?_
   refine vno rfl rfl rfl rfl rfl ?_
   refine vno rfl rfl rfl rfl rfl ?_
   refine vno rfl rfl rfl rfl rfl ?_
   refine vno rfl rfl rfl rfl rfl ?_
   refine vno rfl rfl rfl rfl rfl ?_
   refine vone rfl (vxq (vpkt rfl rfl) rfl rfl ?_)
   refine vone rfl (vxq (vmv rfl) rfl rfl ?_)
   refine vno rfl rfl rfl rfl rfl ?_
   refine vno rfl rfl rfl rfl rfl ?_
   refine vno rfl rfl rfl rfl rfl ?_
   refine vno rfl rfl rfl rfl rfl ?_
   refine vno rfl rfl rfl rfl rfl ?_
   refine vno rfl rfl rfl rfl rfl ?_
   refine vone rfl (vxq (vpkt rfl rfl) rfl rfl ?_)
   refine vone rfl (vxq (vmv rfl) rfl rfl ?_)
   refine vno rfl rfl rfl rfl rfl ?_
   refine vno rfl rfl rfl rfl rfl ?_
   refine vno rfl rfl rfl rfl rfl ?_
   refine vno rfl rfl rfl rfl rfl ?_
   refine vno rfl rfl rfl rfl rfl ?_
   refine vone rfl (vxq (vpkt rfl rfl) rfl rfl ?_)
   refine vnil ?_
   refine vcondt rfl ?_
   refine vseq ?_
   refine vregion ?_
   refine vone rfl (vxq (vas rfl) rfl rfl ?_)
   refine vnil ?_
   refine vret (vr1 (H' := H) Tryd.func74 rfl (.tmp rfl) sb ?_)
   first | exact ⟨scene_no (fun hh => by have g1 := hh.1; have g2 := hh.2.1; have g3 := hh.2.2.1; have g4 := hh.2.2.2.1; have g5 := hh.2.2.2.2.1; omega), rfl⟩ | exact ⟨scene_no (fun hh => h55 (hh.2.2.2.2.2.1 z1 (List.mem_of_getElem? hz1))), rfl⟩ | exact ⟨scene_no (fun hh => h64 (hh.2.2.2.2.2.2.1 z2 (List.mem_of_getElem? hz2))), rfl⟩ | exact ⟨scene_no (fun hh => by have := okSgB_t (hh.2.2.2.2.2.2.2.1 x (List.mem_of_getElem? hx)); rw [this] at h79; exact absurd h79 (by decide)), rfl⟩ | exact ⟨scene_no (fun hh => by have := hh.2.2.2.2.2.2.2.2 (i - 1).toNat x2 x hx2 (by rw [show (i - 1).toNat + 1 = i.toNat by omega]; exact hx); omega), rfl⟩ | exact ⟨scene_yes (valid_fin (by omega) (fun j hj => hsm j (by omega)) (fun j hj => hok j (by omega)) (fun j hj => hso j (by omega))), rfl⟩
  ·
   refine vyes rfl rfl rfl (vxq (vfa rfl) rfl rfl ?_)
   refine vyes rfl rfl rfl (vxq (vfa rfl) rfl rfl ?_)
   refine vyes rfl rfl rfl (vxq (vld1 rfl rfl) rfl rfl ?_)
   refine vyes rfl rfl rfl (vxq (vlen rfl) rfl rfl ?_)
   refine vyes rfl rfl rfl (vxq (vmv rfl) rfl rfl ?_)
   refine vyes rfl rfl rfl (vxq (vneq rfl rfl) rfl rfl ?_)
   refine vone rfl (vxq (vpkf rfl rfl) rfl rfl ?_)
   refine vone rfl (vxq (vmv rfl) rfl rfl ?_)
   refine vsplitd (d := 28) rfl (fun h28 => ?_) (fun h28 => ?_)
   ·
    refine vno rfl rfl rfl rfl rfl ?_
    refine vno rfl rfl rfl rfl rfl ?_
    refine vno rfl rfl rfl rfl rfl ?_
    refine vno rfl rfl rfl rfl rfl ?_
    refine vno rfl rfl rfl rfl rfl ?_
    refine vno rfl rfl rfl rfl rfl ?_
    refine vone rfl (vxq (vpkt rfl rfl) rfl rfl ?_)
    refine vone rfl (vxq (vmv rfl) rfl rfl ?_)
    refine vno rfl rfl rfl rfl rfl ?_
    refine vno rfl rfl rfl rfl rfl ?_
    refine vno rfl rfl rfl rfl rfl ?_
    refine vno rfl rfl rfl rfl rfl ?_
    refine vno rfl rfl rfl rfl rfl ?_
    refine vone rfl (vxq (vpkt rfl rfl) rfl rfl ?_)
    refine vnil ?_
    refine vcondt rfl ?_
    refine vseq ?_
    refine vregion ?_
    refine vone rfl (vxq (vas rfl) rfl rfl ?_)
    refine vnil ?_
    refine vret (vr1 (H' := H) Tryd.func74 rfl (.tmp rfl) sb ?_)
    first | exact ⟨scene_no (fun hh => by have g1 := hh.1; have g2 := hh.2.1; have g3 := hh.2.2.1; have g4 := hh.2.2.2.1; have g5 := hh.2.2.2.2.1; omega), rfl⟩ | exact ⟨scene_no (fun hh => h55 (hh.2.2.2.2.2.1 z1 (List.mem_of_getElem? hz1))), rfl⟩ | exact ⟨scene_no (fun hh => h64 (hh.2.2.2.2.2.2.1 z2 (List.mem_of_getElem? hz2))), rfl⟩ | exact ⟨scene_no (fun hh => by have := okSgB_t (hh.2.2.2.2.2.2.2.1 x (List.mem_of_getElem? hx)); rw [this] at h79; exact absurd h79 (by decide)), rfl⟩ | exact ⟨scene_no (fun hh => by have := hh.2.2.2.2.2.2.2.2 (i - 1).toNat x2 x hx2 (by rw [show (i - 1).toNat + 1 = i.toNat by omega]; exact hx); omega), rfl⟩ | exact ⟨scene_yes (valid_fin (by omega) (fun j hj => hsm j (by omega)) (fun j hj => hok j (by omega)) (fun j hj => hso j (by omega))), rfl⟩
   ·
    refine vyes rfl rfl rfl (vxq (vfa rfl) rfl rfl ?_)
    refine vyes rfl rfl rfl (vxq (vfa rfl) rfl rfl ?_)
    refine vyes rfl rfl rfl (vxq (vld1 rfl rfl) rfl rfl ?_)
    refine vyes rfl rfl rfl (vxq (vlen rfl) rfl rfl ?_)
    refine vyes rfl rfl rfl (vxq (vmv rfl) rfl rfl ?_)
    refine vyes rfl rfl rfl (vxq (vneq rfl rfl) rfl rfl ?_)
    refine vone rfl (vxq (vpkf rfl rfl) rfl rfl ?_)
    refine vone rfl (vxq (vmv rfl) rfl rfl ?_)
    refine vsplitd (d := 36) rfl (fun h36 => ?_) (fun h36 => ?_)
    ·
     refine vno rfl rfl rfl rfl rfl ?_
     refine vno rfl rfl rfl rfl rfl ?_
     refine vno rfl rfl rfl rfl rfl ?_
     refine vno rfl rfl rfl rfl rfl ?_
     refine vno rfl rfl rfl rfl rfl ?_
     refine vone rfl (vxq (vpkt rfl rfl) rfl rfl ?_)
     refine vnil ?_
     refine vcondt rfl ?_
     refine vseq ?_
     refine vregion ?_
     refine vone rfl (vxq (vas rfl) rfl rfl ?_)
     refine vnil ?_
     refine vret (vr1 (H' := H) Tryd.func74 rfl (.tmp rfl) sb ?_)
     first | exact ⟨scene_no (fun hh => by have g1 := hh.1; have g2 := hh.2.1; have g3 := hh.2.2.1; have g4 := hh.2.2.2.1; have g5 := hh.2.2.2.2.1; omega), rfl⟩ | exact ⟨scene_no (fun hh => h55 (hh.2.2.2.2.2.1 z1 (List.mem_of_getElem? hz1))), rfl⟩ | exact ⟨scene_no (fun hh => h64 (hh.2.2.2.2.2.2.1 z2 (List.mem_of_getElem? hz2))), rfl⟩ | exact ⟨scene_no (fun hh => by have := okSgB_t (hh.2.2.2.2.2.2.2.1 x (List.mem_of_getElem? hx)); rw [this] at h79; exact absurd h79 (by decide)), rfl⟩ | exact ⟨scene_no (fun hh => by have := hh.2.2.2.2.2.2.2.2 (i - 1).toNat x2 x hx2 (by rw [show (i - 1).toNat + 1 = i.toNat by omega]; exact hx); omega), rfl⟩ | exact ⟨scene_yes (valid_fin (by omega) (fun j hj => hsm j (by omega)) (fun j hj => hok j (by omega)) (fun j hj => hso j (by omega))), rfl⟩
    ·
     refine vyes rfl rfl rfl (vxq (vfa rfl) rfl rfl ?_)
     refine vyes rfl rfl rfl (vxq (vfa rfl) rfl rfl ?_)
     refine vyes rfl rfl rfl (vxq (vld1 rfl rfl) rfl rfl ?_)
     refine vyes rfl rfl rfl (vxq (vlen rfl) rfl rfl ?_)
     refine vyes rfl rfl rfl (vxq (vgtr rfl rfl) rfl rfl ?_)
     refine vone rfl (vxq (vpkf rfl rfl) rfl rfl ?_)
     refine vnil ?_
     refine vcondd rfl (fun h42 => ?_) (fun h42 => ?_)
     ·
      refine vseq ?_
      refine vregion ?_
      refine vone rfl (vxq (vas rfl) rfl rfl ?_)
      refine vnil ?_
      refine vret (vr1 (H' := H) Tryd.func74 rfl (.tmp rfl) sb ?_)
      first | exact ⟨scene_no (fun hh => by have g1 := hh.1; have g2 := hh.2.1; have g3 := hh.2.2.1; have g4 := hh.2.2.2.1; have g5 := hh.2.2.2.2.1; omega), rfl⟩ | exact ⟨scene_no (fun hh => h55 (hh.2.2.2.2.2.1 z1 (List.mem_of_getElem? hz1))), rfl⟩ | exact ⟨scene_no (fun hh => h64 (hh.2.2.2.2.2.2.1 z2 (List.mem_of_getElem? hz2))), rfl⟩ | exact ⟨scene_no (fun hh => by have := okSgB_t (hh.2.2.2.2.2.2.2.1 x (List.mem_of_getElem? hx)); rw [this] at h79; exact absurd h79 (by decide)), rfl⟩ | exact ⟨scene_no (fun hh => by have := hh.2.2.2.2.2.2.2.2 (i - 1).toNat x2 x hx2 (by rw [show (i - 1).toNat + 1 = i.toNat by omega]; exact hx); omega), rfl⟩ | exact ⟨scene_yes (valid_fin (by omega) (fun j hj => hsm j (by omega)) (fun j hj => hok j (by omega)) (fun j hj => hso j (by omega))), rfl⟩
     ·
      refine vskip ?_
      refine vseq ?_
      refine vseq ?_
      refine vregion ?_
      refine vone rfl (vxq (vmv rfl) rfl rfl ?_)
      refine vone rfl (vxq (vmv rfl) rfl rfl ?_)
      refine vnil ?_
      refine vblock ?_
      refine vwhile (σ := Int) (fun t => (s.ship.length - t).toNat) (fun t => [(1, ptr b1), (3, I s.ship.length), (43, I s.ship.length), (44, I t)]) (fun t => (b1, blk (clSc h s) 106) :: H) (fun t => (0 ≤ t ∧ t ≤ s.ship.length) ∧ ∀ j : Nat, (j : Int) < t → smallR (atR s.ship j) ∧ smallR (atR s.src j)) 0 ⟨⟨by omega, by omega⟩, fun j hj => by omega⟩ ⟨rfl, rfl, rfl, rfl, True.intro⟩ sb ?_
      rintro t ⟨⟨ht0, htn⟩, hsm⟩ IH
      change VRun _ _ _ _ _ [(1, ptr b1), (3, I s.ship.length), (43, I s.ship.length), (44, I t)] _ ((b1, blk (clSc h s) 106) :: H) _
      refine vseq ?_
      refine vregion ?_
      refine vone rfl (vxq (vlss rfl rfl) rfl rfl ?_)
      refine vnil ?_
      refine vseq ?_
      refine vcondd rfl (fun h45 => ?_) (fun h45 => ?_)
      ·
       obtain ⟨z1, hz1⟩ := get_of_lt s.ship (i := t.toNat) (by omega)
       obtain ⟨z2, hz2⟩ := get_of_lt s.src (i := t.toNat) (by omega)
       refine vskip ?_
       refine vseq ?_
       refine vblock ?_
       refine vseq ?_
       refine vregion ?_
       refine vone rfl (vxq (vmv rfl) rfl rfl ?_)
       refine vone rfl (vxq (vas rfl) rfl rfl ?_)
       refine vnil ?_
       refine vseq ?_
       refine vregion ?_
       refine vone rfl (vxq (vfa rfl) rfl rfl ?_)
       refine vone rfl (vxq (vfa rfl) rfl rfl ?_)
       refine vone rfl (vxq (vld1 rfl rfl) rfl rfl ?_)
       refine vone rfl (vxq (vmv rfl) rfl rfl ?_)
       refine vone rfl (vxq (visg (enc := clR) rfl rfl (by omega) hz1) rfl rfl ?_)
       refine vone rfl (vxq (vldS (enc := clR) rfl hz1) rfl rfl ?_)
       refine vone rfl (vxq (vcp rfl rfl rfl (c_small z1)) rfl rfl ?_)
       refine vone rfl (vxq (vnotd rfl) rfl rfl ?_)
       refine vone rfl (vxq (vmv rfl) rfl rfl ?_)
       refine vsplitd (d := 55) rfl (fun h55 => ?_) (fun h55 => ?_)
       ·
        refine vno rfl rfl rfl rfl rfl ?_
        refine vno rfl rfl rfl rfl rfl ?_
        refine vno rfl rfl rfl rfl rfl ?_
        refine vno rfl rfl rfl rfl rfl ?_
        refine vno rfl rfl rfl rfl rfl ?_
        refine vno rfl rfl rfl rfl rfl ?_
        refine vno rfl rfl rfl rfl rfl ?_
        refine vno rfl rfl rfl rfl rfl ?_
        refine vone rfl (vxq (vpkt rfl rfl) rfl rfl ?_)
        refine vnil ?_
        refine vcondt rfl ?_
        refine vseq ?_
        refine vregion ?_
        refine vone rfl (vxq (vas rfl) rfl rfl ?_)
        refine vnil ?_
        refine vret (vr1 (H' := H) Tryd.func74 rfl (.tmp rfl) sb ?_)
        first | exact ⟨scene_no (fun hh => by have g1 := hh.1; have g2 := hh.2.1; have g3 := hh.2.2.1; have g4 := hh.2.2.2.1; have g5 := hh.2.2.2.2.1; omega), rfl⟩ | exact ⟨scene_no (fun hh => h55 (hh.2.2.2.2.2.1 z1 (List.mem_of_getElem? hz1))), rfl⟩ | exact ⟨scene_no (fun hh => h64 (hh.2.2.2.2.2.2.1 z2 (List.mem_of_getElem? hz2))), rfl⟩ | exact ⟨scene_no (fun hh => by have := okSgB_t (hh.2.2.2.2.2.2.2.1 x (List.mem_of_getElem? hx)); rw [this] at h79; exact absurd h79 (by decide)), rfl⟩ | exact ⟨scene_no (fun hh => by have := hh.2.2.2.2.2.2.2.2 (i - 1).toNat x2 x hx2 (by rw [show (i - 1).toNat + 1 = i.toNat by omega]; exact hx); omega), rfl⟩ | exact ⟨scene_yes (valid_fin (by omega) (fun j hj => hsm j (by omega)) (fun j hj => hok j (by omega)) (fun j hj => hso j (by omega))), rfl⟩
       ·
        refine vyes rfl rfl rfl (vxq (vfa rfl) rfl rfl ?_)
        refine vyes rfl rfl rfl (vxq (vfa rfl) rfl rfl ?_)
        refine vyes rfl rfl rfl (vxq (vld1 rfl rfl) rfl rfl ?_)
        refine vyes rfl rfl rfl (vxq (vmv rfl) rfl rfl ?_)
        refine vyes rfl rfl rfl (vxq (visg (enc := clR) rfl rfl (by omega) hz2) rfl rfl ?_)
        refine vyes rfl rfl rfl (vxq (vldS (enc := clR) rfl hz2) rfl rfl ?_)
        refine vyes rfl rfl rfl (vxq (vcp rfl rfl rfl (c_small z2)) rfl rfl ?_)
        refine vyes rfl rfl rfl (vxq (vnotd rfl) rfl rfl ?_)
        refine vone rfl (vxq (vpkf rfl rfl) rfl rfl ?_)
        refine vnil ?_
        refine vcondd rfl (fun h64 => ?_) (fun h64 => ?_)
        ·
         refine vseq ?_
         refine vregion ?_
         refine vone rfl (vxq (vas rfl) rfl rfl ?_)
         refine vnil ?_
         refine vret (vr1 (H' := H) Tryd.func74 rfl (.tmp rfl) sb ?_)
         first | exact ⟨scene_no (fun hh => by have g1 := hh.1; have g2 := hh.2.1; have g3 := hh.2.2.1; have g4 := hh.2.2.2.1; have g5 := hh.2.2.2.2.1; omega), rfl⟩ | exact ⟨scene_no (fun hh => h55 (hh.2.2.2.2.2.1 z1 (List.mem_of_getElem? hz1))), rfl⟩ | exact ⟨scene_no (fun hh => h64 (hh.2.2.2.2.2.2.1 z2 (List.mem_of_getElem? hz2))), rfl⟩ | exact ⟨scene_no (fun hh => by have := okSgB_t (hh.2.2.2.2.2.2.2.1 x (List.mem_of_getElem? hx)); rw [this] at h79; exact absurd h79 (by decide)), rfl⟩ | exact ⟨scene_no (fun hh => by have := hh.2.2.2.2.2.2.2.2 (i - 1).toNat x2 x hx2 (by rw [show (i - 1).toNat + 1 = i.toNat by omega]; exact hx); omega), rfl⟩ | exact ⟨scene_yes (valid_fin (by omega) (fun j hj => hsm j (by omega)) (fun j hj => hok j (by omega)) (fun j hj => hso j (by omega))), rfl⟩
        ·
         refine vskip ?_
         refine vinblock ?_
         refine vregion ?_
         refine vone rfl (vxq (vadd rfl rfl (by unfold InR; omega)) rfl rfl ?_)
         refine vone rfl (vxq (vmv rfl) rfl rfl ?_)
         refine vnil ?_
         exact vback (IH (t + 1) ⟨⟨by omega, by omega⟩, lt_snoc (_n := 0) ht0 hsm ⟨by rw [atR_of hz1]; exact Classical.not_not.1 h55, by rw [atR_of hz2]; exact Classical.not_not.1 h64⟩⟩ (by show (_ : Int).toNat < (_ : Int).toNat; omega)) ⟨rfl, rfl, rfl, rfl, True.intro⟩ sb
      ·
       refine vexit (k' := _) rfl ?_
       refine vseq ?_
       refine vseq ?_
       refine vregion ?_
       refine vone rfl (vxq (vfa rfl) rfl rfl ?_)
       refine vone rfl (vxq (vfa rfl) rfl rfl ?_)
       refine vone rfl (vxq (vld1 rfl rfl) rfl rfl ?_)
       refine vone rfl (vxq (vlen rfl) rfl rfl ?_)
       refine vone rfl (vxq (vmv rfl) rfl rfl ?_)
       refine vnil ?_
       refine vblock ?_
       refine vwhile (σ := Int) (fun i => (s.sg.length - i).toNat) (fun i => [(1, ptr b1), (68, .slice h.a5 s.sg.length h.c5), (69, I s.sg.length), (70, I i)]) (fun i => (b1, blk (clSc h s) 106) :: H) (fun i => (0 ≤ i ∧ i ≤ s.sg.length) ∧ (∀ j : Nat, (j : Int) < i → ∀ x, s.sg[j]? = some x → okSg s x) ∧ ∀ j : Nat, (j : Int) < i → ∀ x y, s.sg[j - 1]? = some x → s.sg[j]? = some y → 0 < j → x.st ≤ y.st) 0 ⟨⟨by omega, by omega⟩, fun j hj => by omega, fun j hj => by omega⟩ ⟨rfl, rfl, rfl, rfl, True.intro⟩ sb ?_
       rintro i ⟨⟨hi0, hin⟩, hok, hso⟩ IH
       change VRun _ _ _ _ _ [(1, ptr b1), (68, .slice h.a5 s.sg.length h.c5), (69, I s.sg.length), (70, I i)] _ ((b1, blk (clSc h s) 106) :: H) _
       refine vseq ?_
       refine vregion ?_
       refine vone rfl (vxq (vlss rfl rfl) rfl rfl ?_)
       refine vnil ?_
       refine vseq ?_
       refine vcondd rfl (fun h71 => ?_) (fun h71 => ?_)
       ·
        obtain ⟨x, hx⟩ := get_of_lt s.sg (i := i.toNat) (by omega)
        refine vskip ?_
        refine vseq ?_
        refine vblock ?_
        refine vseq ?_
        refine vregion ?_
        refine vone rfl (vxq (vmv rfl) rfl rfl ?_)
        refine vone rfl (vxq (visg (enc := clSg) rfl rfl (by omega) hx) rfl rfl ?_)
        refine vone rfl (vxq (vldS (enc := clSg) rfl hx) rfl rfl ?_)
        refine vone rfl (vxa valloc rfl rfl (fun b2 => ?_))
        refine vone rfl (vxq (vas rfl) rfl rfl ?_)
        refine vone rfl (vxs (vstn rfl rfl rfl rfl rfl) rfl ?_)
        refine vnil ?_
        refine vseq ?_
        refine vdraw0 [(.q, 0), (.q, 1), (.q, 2), (.q, 3), (.q, 4), (.q, 5), (.q, 6), (.q, 7), (.q, 8), (.q, 9), (.q, 10), (.q, 11), (.q, 12), (.q, 13), (.q, 14), (.q, 15), (.q, 16), (.q, 17), (.q, 18), (.q, 19), (.q, 20)] Tryd.mixed (by kernel_rfl) (by kernel_rfl) ?_
        refine vdq (mone rfl) (vldn rfl rfl) rfl rfl ?_
        refine vdq (mone rfl) (vldn rfl rfl) rfl rfl ?_
        refine vdq (mone rfl) (vcq rfl rfl rfl (c_sight h s _ x (hnm x (List.mem_of_getElem? hx)) (by omega))) rfl rfl ?_
        refine vdq (mone rfl) (vnot rfl) rfl rfl ?_
        refine vdq (mone rfl) (vmv rfl) rfl rfl ?_
        refine vdsplit (d := 79) rfl (fun h79 => ?_) (fun h79 => ?_)
        ·
         refine vdno rfl rfl rfl rfl rfl ?_
         refine vdno rfl rfl rfl rfl rfl ?_
         refine vdno rfl rfl rfl rfl rfl ?_
         refine vdnou rfl rfl rfl rfl rfl ?_
         refine vdnou rfl rfl rfl rfl rfl ?_
         refine vdnou rfl rfl rfl rfl rfl ?_
         refine vdnou rfl rfl rfl rfl rfl ?_
         refine vdnou rfl rfl rfl rfl rfl ?_
         refine vdnou rfl rfl rfl rfl rfl ?_
         refine vdnou rfl rfl rfl rfl rfl ?_
         refine vdnou rfl rfl rfl rfl rfl ?_
         refine vdnou rfl rfl rfl rfl rfl ?_
         refine vdnou rfl rfl rfl rfl rfl ?_
         refine vdnou rfl rfl rfl rfl rfl ?_
         refine vdno rfl rfl rfl rfl rfl ?_
         refine vdq (mone rfl) (vpkt rfl rfl) rfl rfl ?_
         refine vdend rfl ?_
         refine vcondt rfl ?_
         refine vseq ?_
         refine vregion ?_
         refine vone rfl (vxq (vas rfl) rfl rfl ?_)
         refine vnil ?_
         refine vret (vr1 (H' := H) Tryd.func74 rfl (.tmp rfl) sb ?_)
         first | exact ⟨scene_no (fun hh => by have g1 := hh.1; have g2 := hh.2.1; have g3 := hh.2.2.1; have g4 := hh.2.2.2.1; have g5 := hh.2.2.2.2.1; omega), rfl⟩ | exact ⟨scene_no (fun hh => h55 (hh.2.2.2.2.2.1 z1 (List.mem_of_getElem? hz1))), rfl⟩ | exact ⟨scene_no (fun hh => h64 (hh.2.2.2.2.2.2.1 z2 (List.mem_of_getElem? hz2))), rfl⟩ | exact ⟨scene_no (fun hh => by have := okSgB_t (hh.2.2.2.2.2.2.2.1 x (List.mem_of_getElem? hx)); rw [this] at h79; exact absurd h79 (by decide)), rfl⟩ | exact ⟨scene_no (fun hh => by have := hh.2.2.2.2.2.2.2.2 (i - 1).toNat x2 x hx2 (by rw [show (i - 1).toNat + 1 = i.toNat by omega]; exact hx); omega), rfl⟩ | exact ⟨scene_yes (valid_fin (by omega) (fun j hj => hsm j (by omega)) (fun j hj => hok j (by omega)) (fun j hj => hso j (by omega))), rfl⟩
        ·
         refine vdq (myes rfl rfl rfl) (vmv rfl) rfl rfl ?_
         refine vdq (myes rfl rfl rfl) (vgtr rfl rfl) rfl rfl ?_
         refine vdq (myes rfl rfl rfl) (vmv rfl) rfl rfl ?_
         refine vdsplitd (d := 82) rfl (fun h82 => ?_) (fun h82 => ?_)
         ·
          refine vdq (myes rfl rfl rfl) (vfa rfl) rfl rfl ?_
          refine vdq (myes rfl rfl rfl) (vfa rfl) rfl rfl ?_
          refine vdq (myes rfl rfl rfl) (vld1 rfl rfl) rfl rfl ?_
          refine vdq (myes rfl rfl rfl) (vmv rfl) rfl rfl ?_
          obtain ⟨x2, hx2⟩ := get_of_lt s.sg (i := (i - 1).toNat) (by omega)
          refine vdq (myes rfl rfl rfl) (vsub rfl rfl (by unfold InR; omega)) rfl rfl ?_
          refine vdq (myes rfl rfl rfl) (visg (enc := clSg) rfl rfl (by omega) hx2) rfl rfl ?_
          refine vdq (myes rfl rfl rfl) (vfaS (enc := clSg) rfl hx2) rfl rfl ?_
          refine vdq (myes rfl rfl rfl) (vldSf (enc := clSg) rfl hx2 rfl) rfl rfl ?_
          refine vdq (myes rfl rfl rfl) (vfa rfl) rfl rfl ?_
          refine vdq (myes rfl rfl rfl) (vld1 rfl rfl) rfl rfl ?_
          refine vdq (myes rfl rfl rfl) (vgtr rfl rfl) rfl rfl ?_
          refine vdq (myes rfl rfl rfl) (vpkt rfl rfl) rfl rfl ?_
          refine vdq (mone rfl) (vpkf rfl rfl) rfl rfl ?_
          refine vdend rfl ?_
          refine vcondd rfl (fun h95 => ?_) (fun h95 => ?_)
          ·
           refine vseq ?_
           refine vregion ?_
           refine vone rfl (vxq (vas rfl) rfl rfl ?_)
           refine vnil ?_
           refine vret (vr1 (H' := H) Tryd.func74 rfl (.tmp rfl) sb ?_)
           first | exact ⟨scene_no (fun hh => by have g1 := hh.1; have g2 := hh.2.1; have g3 := hh.2.2.1; have g4 := hh.2.2.2.1; have g5 := hh.2.2.2.2.1; omega), rfl⟩ | exact ⟨scene_no (fun hh => h55 (hh.2.2.2.2.2.1 z1 (List.mem_of_getElem? hz1))), rfl⟩ | exact ⟨scene_no (fun hh => h64 (hh.2.2.2.2.2.2.1 z2 (List.mem_of_getElem? hz2))), rfl⟩ | exact ⟨scene_no (fun hh => by have := okSgB_t (hh.2.2.2.2.2.2.2.1 x (List.mem_of_getElem? hx)); rw [this] at h79; exact absurd h79 (by decide)), rfl⟩ | exact ⟨scene_no (fun hh => by have := hh.2.2.2.2.2.2.2.2 (i - 1).toNat x2 x hx2 (by rw [show (i - 1).toNat + 1 = i.toNat by omega]; exact hx); omega), rfl⟩ | exact ⟨scene_yes (valid_fin (by omega) (fun j hj => hsm j (by omega)) (fun j hj => hok j (by omega)) (fun j hj => hso j (by omega))), rfl⟩
          ·
           refine vskip ?_
           refine vinblock ?_
           refine vregion ?_
           refine vone rfl (vxq (vadd rfl rfl (by unfold InR; omega)) rfl rfl ?_)
           refine vone rfl (vxq (vmv rfl) rfl rfl ?_)
           refine vnil ?_
           exact vback (IH (i + 1) ⟨⟨by omega, by omega⟩, lt_snoc (_n := 0) hi0 hok (fun y hy => by rw [hx] at hy; cases hy; exact okSgB_i.1 (by simpa using h79)), lt_snoc (_n := 0) hi0 hso (fun y z hy hz hp => by rw [hx] at hz; cases hz; first | (exfalso; omega) | (rw [show (i - 1).toNat = i.toNat - 1 by omega] at hx2; rw [hx2] at hy; cases hy; omega))⟩ (by show (_ : Int).toNat < (_ : Int).toNat; omega)) ⟨rfl, rfl, rfl, rfl, True.intro⟩ sb
         ·
          refine vdno rfl rfl rfl rfl rfl ?_
          refine vdno rfl rfl rfl rfl rfl ?_
          refine vdno rfl rfl rfl rfl rfl ?_
          refine vdno rfl rfl rfl rfl rfl ?_
          refine vdno rfl rfl rfl rfl rfl ?_
          refine vdno rfl rfl rfl rfl rfl ?_
          refine vdno rfl rfl rfl rfl rfl ?_
          refine vdno rfl rfl rfl rfl rfl ?_
          refine vdno rfl rfl rfl rfl rfl ?_
          refine vdno rfl rfl rfl rfl rfl ?_
          refine vdno rfl rfl rfl rfl rfl ?_
          refine vdq (myes rfl rfl rfl) (vpkf rfl rfl) rfl rfl ?_
          refine vdq (mone rfl) (vpkf rfl rfl) rfl rfl ?_
          refine vdend rfl ?_
          refine vcondf rfl ?_
          refine vskip ?_
          refine vinblock ?_
          refine vregion ?_
          refine vone rfl (vxq (vadd rfl rfl (by unfold InR; omega)) rfl rfl ?_)
          refine vone rfl (vxq (vmv rfl) rfl rfl ?_)
          refine vnil ?_
          exact vback (IH (i + 1) ⟨⟨by omega, by omega⟩, lt_snoc (_n := 0) hi0 hok (fun y hy => by rw [hx] at hy; cases hy; exact okSgB_i.1 (by simpa using h79)), lt_snoc (_n := 0) hi0 hso (fun y z hy hz hp => by rw [hx] at hz; cases hz; first | (exfalso; omega) | (rw [show (i - 1).toNat = i.toNat - 1 by omega] at hx2; rw [hx2] at hy; cases hy; omega))⟩ (by show (_ : Int).toNat < (_ : Int).toNat; omega)) ⟨rfl, rfl, rfl, rfl, True.intro⟩ sb
       ·
        refine vexit (k' := _) rfl ?_
        refine vseq ?_
        refine vregion ?_
        refine vone rfl (vxq (vas rfl) rfl rfl ?_)
        refine vnil ?_
        refine vret (vr1 (H' := H) Tryd.func74 rfl (.tmp rfl) sb ?_)
        first | exact ⟨scene_no (fun hh => by have g1 := hh.1; have g2 := hh.2.1; have g3 := hh.2.2.1; have g4 := hh.2.2.2.1; have g5 := hh.2.2.2.2.1; omega), rfl⟩ | exact ⟨scene_no (fun hh => h55 (hh.2.2.2.2.2.1 z1 (List.mem_of_getElem? hz1))), rfl⟩ | exact ⟨scene_no (fun hh => h64 (hh.2.2.2.2.2.2.1 z2 (List.mem_of_getElem? hz2))), rfl⟩ | exact ⟨scene_no (fun hh => by have := okSgB_t (hh.2.2.2.2.2.2.2.1 x (List.mem_of_getElem? hx)); rw [this] at h79; exact absurd h79 (by decide)), rfl⟩ | exact ⟨scene_no (fun hh => by have := hh.2.2.2.2.2.2.2.2 (i - 1).toNat x2 x hx2 (by rw [show (i - 1).toNat + 1 = i.toNat by omega]; exact hx); omega), rfl⟩ | exact ⟨scene_yes (valid_fin (by omega) (fun j hj => hsm j (by omega)) (fun j hj => hok j (by omega)) (fun j hj => hso j (by omega))), rfl⟩
/-- paravane/watch.CheckScene -/
theorem c_CheckScene (h : SH) (s : Sc) (H : Heap) [hsc : ScO H h s] : VHas Tryd.prog 32 [vSc h s] (I (chkS s)) (H) (H) := by
 refine vcall_of_vrun Tryd.func32 rfl (N := 7) rfl rfl ?_
 refine vseq ?_
 refine vregion ?_
 refine vone rfl (vxa (vbox rfl rfl) rfl rfl (fun b1 => ?_))
 refine vone rfl (vxq (vas rfl) rfl rfl ?_)
 refine vnil ?_
 refine vseq ?_
 refine vseq ?_
 refine vregion ?_
 refine vone rfl (vxq (vldn rfl rfl) rfl rfl ?_)
 refine vone rfl (vxq (vbd rfl rfl) rfl rfl ?_)
 refine vone rfl (vxq (vcq rfl rfl rfl (c_valid h s _)) rfl rfl ?_)
 refine vone rfl (vxq (vnot rfl) rfl rfl ?_)
 refine vnil ?_
 refine vcond rfl (fun h6 => ?_) (fun h6 => ?_)
 ·
  refine vseq ?_
  refine vregion ?_
  refine vone rfl (vxq (vas rfl) rfl rfl ?_)
  refine vnil ?_
  refine vret (vr1 (H' := H) Tryd.func32 rfl (.tmp rfl) sb ?_)
  first | exact ⟨oI (chkS_f (fun hh => by rw [okScB_t hh] at h6; exact absurd h6 (by decide))).symm, rfl⟩ | exact ⟨oI (chkS_t (okScB_i.1 (by simpa using h6))).symm, rfl⟩
 ·
  refine vskip ?_
  refine vseq ?_
  refine vregion ?_
  refine vone rfl (vxq (vas rfl) rfl rfl ?_)
  refine vnil ?_
  refine vret (vr1 (H' := H) Tryd.func32 rfl (.tmp rfl) sb ?_)
  first | exact ⟨oI (chkS_f (fun hh => by rw [okScB_t hh] at h6; exact absurd h6 (by decide))).symm, rfl⟩ | exact ⟨oI (chkS_t (okScB_i.1 (by simpa using h6))).symm, rfl⟩

def bothE (w : Wn) (n : Int) : Int := if chkW w = 0 then n else 60
theorem bothE_w {w : Wn} {n : Int} (h : chkW w ≠ 0) : bothE w n = chkW w := by unfold bothE; rw [if_neg h]; unfold chkW at *; split <;> simp_all
theorem bothE_s {w : Wn} {n : Int} (h : chkW w = 0) : bothE w n = n := if_pos h

/-- paravane/watch.both -/
theorem c_both (w : Wn) (h : SH) (s : Sc) (H : Heap) [hsc : ScO H h s] : VHas Tryd.prog 52 [vWn w, vSc h s] (I (bothE w (chkS s))) (H) (H) := by
 refine vcall_of_vrun Tryd.func52 rfl (N := 13) rfl rfl ?_
 refine vseq ?_
 refine vregion ?_
 refine vone rfl (vxa (vbox rfl rfl) rfl rfl (fun b1 => ?_))
 refine vone rfl (vxa (vbox rfl rfl) rfl rfl (fun b2 => ?_))
 refine vone rfl (vxq (vas rfl) rfl rfl ?_)
 refine vnil ?_
 refine vseq ?_
 refine vseq ?_
 refine vregion ?_
 refine vone rfl (vxq (vldn rfl rfl) rfl rfl ?_)
 refine vone rfl (vxq (vcp rfl rfl rfl (c_CheckWatch w)) rfl rfl ?_)
 refine vone rfl (vxq (vas rfl) rfl rfl ?_)
 refine vnil ?_
 refine vseq ?_
 refine vregion ?_
 refine vone rfl (vxq (vmv rfl) rfl rfl ?_)
 refine vone rfl (vxq (vneq rfl rfl) rfl rfl ?_)
 refine vnil ?_
 refine vcondd rfl (fun h9 => ?_) (fun h9 => ?_)
 ·
  refine vseq ?_
  refine vregion ?_
  refine vone rfl (vxq (vmv rfl) rfl rfl ?_)
  refine vone rfl (vxq (vas rfl) rfl rfl ?_)
  refine vnil ?_
  refine vret (vr1 (H' := H) Tryd.func52 rfl (.tmp rfl) sb ?_)
  first | exact ⟨oI (bothE_w h9).symm, rfl⟩ | exact ⟨oI (bothE_s (Classical.not_not.1 h9)).symm, rfl⟩
 ·
  refine vskip ?_
  refine vseq ?_
  refine vregion ?_
  refine vone rfl (vxq (vldn rfl rfl) rfl rfl ?_)
  refine vone rfl (vxq (vcq rfl rfl rfl (c_CheckScene h s _)) rfl rfl ?_)
  refine vone rfl (vxq (vas rfl) rfl rfl ?_)
  refine vnil ?_
  refine vret (vr1 (H' := H) Tryd.func52 rfl (.tmp rfl) sb ?_)
  first | exact ⟨oI (bothE_w h9).symm, rfl⟩ | exact ⟨oI (bothE_s (Classical.not_not.1 h9)).symm, rfl⟩

theorem guardN_stop {w : Wn} {far ship : Int} : ∀ (n : Nat) (k : Int), ¬ w.zone < far - (k + 1) * (w.speed + ship) → guardN w far ship n k = k
  | 0, _, _ => rfl
  | n + 1, k, h => by simp only [guardN]; rw [if_neg h]
theorem guardN_go {w : Wn} {far ship : Int} {n : Nat} {k : Int} (h : w.zone < far - (k + 1) * (w.speed + ship)) : guardN w far ship (n + 1) k = guardN w far ship n (k + 1) := by simp only [guardN]; rw [if_pos h]
theorem guard_60 {w : Wn} {a b : Int} (h : chkW w ≠ 0) : guardE w a b = (0, chkW w) := by
  unfold guardE; rw [if_neg (fun hh => h (chkW_t hh))]; unfold chkW at *; split <;> simp_all
theorem guard_7 {w : Wn} {a b : Int} (h : ¬ chkW w ≠ 0) (h2 : ¬ ((0 ≤ a ∧ a ≤ 32768) ∧ (0 ≤ b ∧ b ≤ 1000))) : guardE w a b = (0, 7) := by
  unfold guardE; rw [if_pos (chkW_z.1 (Classical.not_not.1 h)), if_neg h2]
theorem guard_4 {w : Wn} {a b : Int} (h : ¬ chkW w ≠ 0) (h2 : (0 ≤ a ∧ a ≤ 32768) ∧ (0 ≤ b ∧ b ≤ 1000)) (h3 : a ≤ w.zone) : guardE w a b = (0, 4) := by
  unfold guardE; rw [if_pos (chkW_z.1 (Classical.not_not.1 h)), if_pos h2, if_pos h3]
theorem guard_0 {w : Wn} {a b : Int} (h : ¬ chkW w ≠ 0) (h2 : (0 ≤ a ∧ a ≤ 32768) ∧ (0 ≤ b ∧ b ≤ 1000)) (h3 : ¬ a ≤ w.zone) : guardE w a b = (guardN w a b 1000 0, 0) := by
  unfold guardE; rw [if_pos (chkW_z.1 (Classical.not_not.1 h)), if_pos h2, if_neg h3]

/-- paravane/watch.Guard -/
theorem c_Guard (w : Wn) (far ship : Int) : VPure Tryd.prog 15 [vWn w, I far, I ship] (tup [I (guardE w far ship).1, I (guardE w far ship).2]) := by
 intro H
 refine vcall_of_vrun Tryd.func15 rfl (N := 46) rfl rfl ?_
 refine vseq ?_
 refine vregion ?_
 refine vone rfl (vxa (vbox rfl rfl) rfl rfl (fun b1 => ?_))
 refine vone rfl (vxq (vas rfl) rfl rfl ?_)
 refine vone rfl (vxq (vas rfl) rfl rfl ?_)
 refine vnil ?_
 refine vseq ?_
 refine vseq ?_
 refine vregion ?_
 refine vone rfl (vxq (vldn rfl rfl) rfl rfl ?_)
 refine vone rfl (vxq (vcp rfl rfl rfl (c_CheckWatch w)) rfl rfl ?_)
 refine vone rfl (vxq (vas rfl) rfl rfl ?_)
 refine vnil ?_
 refine vseq ?_
 refine vregion ?_
 refine vone rfl (vxq (vmv rfl) rfl rfl ?_)
 refine vone rfl (vxq (vneq rfl rfl) rfl rfl ?_)
 refine vnil ?_
 refine vcondd rfl (fun h13 => ?_) (fun h13 => ?_)
 ·
  refine vseq ?_
  refine vregion ?_
  refine vone rfl (vxq (vmv rfl) rfl rfl ?_)
  refine vone rfl (vxq (vas rfl) rfl rfl ?_)
  refine vone rfl (vxq (vas rfl) rfl rfl ?_)
  refine vnil ?_
  refine vret (vr2 (H' := H) Tryd.func15 rfl (.tmp rfl) (.tmp rfl) sb ?_)
  first | (rw [guard_60 h13]; exact ⟨rfl, rfl⟩) | (rw [guard_7 h13 (by omega)]; exact ⟨rfl, rfl⟩) | (rw [guard_4 h13 (by omega) h26]; exact ⟨rfl, rfl⟩) | (rw [guard_0 h13 (by omega) h26, ← hg]; first | (rw [guardN_stop _ _ h42]; exact ⟨rfl, rfl⟩) | (rw [show (1000 - k).toNat = 0 by omega]; exact ⟨rfl, rfl⟩))
 ·
  refine vskip ?_
  refine vseq ?_
  refine vseq ?_
  refine vregion ?_
  refine vone rfl (vxq (vmv rfl) rfl rfl ?_)
  refine vone rfl (vxq (vcp rfl rfl rfl (c_watch_within _ _ _)) rfl rfl ?_)
  refine vone rfl (vxq (vnotd rfl) rfl rfl ?_)
  refine vone rfl (vxq (vmv rfl) rfl rfl ?_)
  refine vsplitd (d := 18) rfl (fun h18 => ?_) (fun h18 => ?_)
  ·
   refine vno rfl rfl rfl rfl rfl ?_
   refine vno rfl rfl rfl rfl rfl ?_
   refine vno rfl rfl rfl rfl rfl ?_
   refine vone rfl (vxq (vpkt rfl rfl) rfl rfl ?_)
   refine vnil ?_
   refine vcondt rfl ?_
   refine vseq ?_
   refine vregion ?_
   refine vone rfl (vxq (vas rfl) rfl rfl ?_)
   refine vone rfl (vxq (vas rfl) rfl rfl ?_)
   refine vnil ?_
   refine vret (vr2 (H' := H) Tryd.func15 rfl (.tmp rfl) (.tmp rfl) sb ?_)
   first | (rw [guard_60 h13]; exact ⟨rfl, rfl⟩) | (rw [guard_7 h13 (by omega)]; exact ⟨rfl, rfl⟩) | (rw [guard_4 h13 (by omega) h26]; exact ⟨rfl, rfl⟩) | (rw [guard_0 h13 (by omega) h26, ← hg]; first | (rw [guardN_stop _ _ h42]; exact ⟨rfl, rfl⟩) | (rw [show (1000 - k).toNat = 0 by omega]; exact ⟨rfl, rfl⟩))
  ·
   refine vyes rfl rfl rfl (vxq (vmv rfl) rfl rfl ?_)
   refine vyes rfl rfl rfl (vxq (vcp rfl rfl rfl (c_watch_within _ _ _)) rfl rfl ?_)
   refine vyes rfl rfl rfl (vxq (vnotd rfl) rfl rfl ?_)
   refine vone rfl (vxq (vpkf rfl rfl) rfl rfl ?_)
   refine vnil ?_
   refine vcondd rfl (fun h22 => ?_) (fun h22 => ?_)
   ·
    refine vseq ?_
    refine vregion ?_
    refine vone rfl (vxq (vas rfl) rfl rfl ?_)
    refine vone rfl (vxq (vas rfl) rfl rfl ?_)
    refine vnil ?_
    refine vret (vr2 (H' := H) Tryd.func15 rfl (.tmp rfl) (.tmp rfl) sb ?_)
    first | (rw [guard_60 h13]; exact ⟨rfl, rfl⟩) | (rw [guard_7 h13 (by omega)]; exact ⟨rfl, rfl⟩) | (rw [guard_4 h13 (by omega) h26]; exact ⟨rfl, rfl⟩) | (rw [guard_0 h13 (by omega) h26, ← hg]; first | (rw [guardN_stop _ _ h42]; exact ⟨rfl, rfl⟩) | (rw [show (1000 - k).toNat = 0 by omega]; exact ⟨rfl, rfl⟩))
   ·
    refine vskip ?_
    refine vseq ?_
    refine vseq ?_
    refine vregion ?_
    refine vone rfl (vxq (vmv rfl) rfl rfl ?_)
    refine vone rfl (vxq (vfa rfl) rfl rfl ?_)
    refine vone rfl (vxq (vld1 rfl rfl) rfl rfl ?_)
    refine vone rfl (vxq (vleq rfl rfl) rfl rfl ?_)
    refine vnil ?_
    refine vcondd rfl (fun h26 => ?_) (fun h26 => ?_)
    ·
     refine vseq ?_
     refine vregion ?_
     refine vone rfl (vxq (vas rfl) rfl rfl ?_)
     refine vone rfl (vxq (vas rfl) rfl rfl ?_)
     refine vnil ?_
     refine vret (vr2 (H' := H) Tryd.func15 rfl (.tmp rfl) (.tmp rfl) sb ?_)
     first | (rw [guard_60 h13]; exact ⟨rfl, rfl⟩) | (rw [guard_7 h13 (by omega)]; exact ⟨rfl, rfl⟩) | (rw [guard_4 h13 (by omega) h26]; exact ⟨rfl, rfl⟩) | (rw [guard_0 h13 (by omega) h26, ← hg]; first | (rw [guardN_stop _ _ h42]; exact ⟨rfl, rfl⟩) | (rw [show (1000 - k).toNat = 0 by omega]; exact ⟨rfl, rfl⟩))
    ·
     have hw := chkW_z.1 (Classical.not_not.1 h13)
     unfold okW at hw
     refine vskip ?_
     refine vseq ?_
     refine vregion ?_
     refine vone rfl (vxq (vas rfl) rfl rfl ?_)
     refine vnil ?_
     refine vseq ?_
     refine vblock ?_
     refine vwhile (σ := Int) (fun k => (1000 - k).toNat) (fun k => [(1, I far), (2, I ship), (3, ptr b1), (9, I k)]) (fun k => (b1, blk (clWn w) 23) :: H) (fun k => (0 ≤ k ∧ k ≤ 1000) ∧ guardN w far ship (1000 - k).toNat k = guardN w far ship 1000 0) 0 ⟨⟨by omega, by omega⟩, rfl⟩ ⟨rfl, rfl, rfl, rfl, True.intro⟩ sb ?_
     rintro k ⟨⟨hk0, hk1⟩, hg⟩ IH
     change VRun _ _ _ _ _ [(1, I far), (2, I ship), (3, ptr b1), (9, I k)] _ ((b1, blk (clWn w) 23) :: H) _
     refine vseq ?_
     refine vseq ?_
     refine vregion ?_
     refine vone rfl (vxq (vmv rfl) rfl rfl ?_)
     refine vone rfl (vxq (vlss rfl rfl) rfl rfl ?_)
     refine vone rfl (vxq (vmv rfl) rfl rfl ?_)
     refine vsplitd (d := 29) rfl (fun h29 => ?_) (fun h29 => ?_)
     ·
      refine vyes rfl rfl rfl (vxq (vmv rfl) rfl rfl ?_)
      refine vyes rfl rfl rfl (vxq (vmv rfl) rfl rfl ?_)
      refine vyes rfl rfl rfl (vxq (vadd rfl rfl (by unfold InR; omega)) rfl rfl ?_)
      refine vyes rfl rfl rfl (vxq (vfa rfl) rfl rfl ?_)
      refine vyes rfl rfl rfl (vxq (vld1 rfl rfl) rfl rfl ?_)
      refine vyes rfl rfl rfl (vxq (vmv rfl) rfl rfl ?_)
      refine vyes rfl rfl rfl (vxq (vadd rfl rfl (by unfold InR; omega)) rfl rfl ?_)
      refine vyes rfl rfl rfl (vxq (vmul rfl rfl (inR_mulG (by omega) (by omega))) rfl rfl ?_)
      refine vyes rfl rfl rfl (vxq (vsub rfl rfl (inR_subG (by omega) (by omega) (by omega))) rfl rfl ?_)
      refine vyes rfl rfl rfl (vxq (vfa rfl) rfl rfl ?_)
      refine vyes rfl rfl rfl (vxq (vld1 rfl rfl) rfl rfl ?_)
      refine vyes rfl rfl rfl (vxq (vgtr rfl rfl) rfl rfl ?_)
      refine vone rfl (vxq (vpkt rfl rfl) rfl rfl ?_)
      refine vnil ?_
      refine vcondd rfl (fun h42 => ?_) (fun h42 => ?_)
      ·
       refine vskip ?_
       refine vblock ?_
       refine vregion ?_
       refine vone rfl (vxq (vmv rfl) rfl rfl ?_)
       refine vone rfl (vxq (vadd rfl rfl (by unfold InR; omega)) rfl rfl ?_)
       refine vone rfl (vxq (vas rfl) rfl rfl ?_)
       refine vnil ?_
       refine vinblock ?_
       exact vback (IH (k + 1) ⟨⟨by omega, by omega⟩, by rw [← hg, show (1000 - k).toNat = (1000 - (k + 1)).toNat + 1 by omega]; exact (guardN_go h42).symm⟩ (by show (_ : Int).toNat < (_ : Int).toNat; omega)) ⟨rfl, rfl, rfl, rfl, True.intro⟩ sb
      ·
       refine vexit (k' := _) rfl ?_
       refine vseq ?_
       refine vregion ?_
       refine vone rfl (vxq (vmv rfl) rfl rfl ?_)
       refine vone rfl (vxq (vas rfl) rfl rfl ?_)
       refine vone rfl (vxq (vas rfl) rfl rfl ?_)
       refine vnil ?_
       refine vret (vr2 (H' := H) Tryd.func15 rfl (.tmp rfl) (.tmp rfl) sb ?_)
       first | (rw [guard_60 h13]; exact ⟨rfl, rfl⟩) | (rw [guard_7 h13 (by omega)]; exact ⟨rfl, rfl⟩) | (rw [guard_4 h13 (by omega) h26]; exact ⟨rfl, rfl⟩) | (rw [guard_0 h13 (by omega) h26, ← hg]; first | (rw [guardN_stop _ _ h42]; exact ⟨rfl, rfl⟩) | (rw [show (1000 - k).toNat = 0 by omega]; exact ⟨rfl, rfl⟩))
     ·
      refine vno rfl rfl rfl rfl rfl ?_
      refine vno rfl rfl rfl rfl rfl ?_
      refine vno rfl rfl rfl rfl rfl ?_
      refine vno rfl rfl rfl rfl rfl ?_
      refine vno rfl rfl rfl rfl rfl ?_
      refine vno rfl rfl rfl rfl rfl ?_
      refine vno rfl rfl rfl rfl rfl ?_
      refine vno rfl rfl rfl rfl rfl ?_
      refine vno rfl rfl rfl rfl rfl ?_
      refine vno rfl rfl rfl rfl rfl ?_
      refine vno rfl rfl rfl rfl rfl ?_
      refine vno rfl rfl rfl rfl rfl ?_
      refine vone rfl (vxq (vpkf rfl rfl) rfl rfl ?_)
      refine vnil ?_
      refine vcondf rfl ?_
      refine vexit (k' := _) rfl ?_
      refine vseq ?_
      refine vregion ?_
      refine vone rfl (vxq (vmv rfl) rfl rfl ?_)
      refine vone rfl (vxq (vas rfl) rfl rfl ?_)
      refine vone rfl (vxq (vas rfl) rfl rfl ?_)
      refine vnil ?_
      refine vret (vr2 (H' := H) Tryd.func15 rfl (.tmp rfl) (.tmp rfl) sb ?_)
      first | (rw [guard_60 h13]; exact ⟨rfl, rfl⟩) | (rw [guard_7 h13 (by omega)]; exact ⟨rfl, rfl⟩) | (rw [guard_4 h13 (by omega) h26]; exact ⟨rfl, rfl⟩) | (rw [guard_0 h13 (by omega) h26, ← hg]; first | (rw [guardN_stop _ _ h42]; exact ⟨rfl, rfl⟩) | (rw [show (1000 - k).toNat = 0 by omega]; exact ⟨rfl, rfl⟩))
end Go.Proofs.YtaplkoimhecacaaDoor
