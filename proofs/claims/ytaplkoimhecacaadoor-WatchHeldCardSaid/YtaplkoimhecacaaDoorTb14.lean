/-
  Walks of what a log says of soft starts, rules and states.
-/
import Derived.Test.YtaplkoimhecacaaDoorTb13
namespace Go.Proofs.YtaplkoimhecacaaDoor
open Go
set_option maxRecDepth 100000

attribute [local irreducible] tightP hullP rootP farP rows endsOf
abbrev clSt (x : Sta) : List Value := [I x.md, I x.qu]
abbrev vSt (x : Sta) : Value := .agg (clSt x).toArray
theorem start_no1 {g : Lg} {t : Int} (h : t < g.w.pre) : startP g t = false := by unfold startP; rw [decide_eq_false (by omega)]; rfl
theorem start_no2 {g : Lg} {t : Int} (h1 : allTr g.s.eyes (t - g.w.pre) t = false) (h2 : allTr g.s.ears (t - g.w.pre) t = false) : startP g t = false := by unfold startP; rw [h1, h2]; simp
theorem start_is {g : Lg} {t : Int} (h : ¬ t < g.w.pre) (h1 : allTr g.s.eyes (t - g.w.pre) t = true ∨ allTr g.s.ears (t - g.w.pre) t = true) : startP g t = !anyTr g.d (max 0 (t - g.w.delay)) (t + 1) := by
  unfold startP; rw [decide_eq_true (by omega)]
  rcases h1 with h1 | h1 <;> rw [h1] <;> simp
theorem nf {b : Bool} (h : (!b) = true) : b = false := by cases b <;> simp_all
theorem nt {b : Bool} (h : (!b) = false) : b = true := by cases b <;> simp_all
section
variable {g : Lg} {t m : Int} {x : Sta}
theorem broken_0 (h : m = 0) : brokenP g t x m = 0 := if_pos h
theorem broken_1 (h : m ≠ 0) (hd : bAt g.d t = true) : brokenP g t x m = 1 := by unfold brokenP; rw [if_neg h, if_pos hd]
theorem broken_2 (h : m ≠ 0) (hd : bAt g.d t = false) (hl : lookB g t = false) : brokenP g t x m = 2 := by unfold brokenP; rw [if_neg h, if_neg (by rw [hd]; decide), if_pos hl]
theorem broken_3 (h : m ≠ 0) (hd : bAt g.d t = false) (hl : lookB g t = true) (h1 : m = 1) (hs : startP g t = false) : brokenP g t x m = 3 := by
  unfold brokenP; rw [if_neg h, if_neg (by rw [hd]; decide), if_neg (by rw [hl]; decide), if_pos ⟨h1, hs⟩]
theorem broken_4 (h : m ≠ 0) (hd : bAt g.d t = false) (hl : lookB g t = true) (hs : ¬ (m = 1 ∧ startP g t = false)) (h4 : (m = 1 ∧ x.md ≠ 0 ∨ (1 < m ∧ m ≤ g.w.soft ∧ x.md ≠ m - 1)) ∨ (m = g.w.soft + 1 ∧ x.md < g.w.soft ∧ x.qu < 0)) : brokenP g t x m = 4 := by
  unfold brokenP; rw [if_neg h, if_neg (by rw [hd]; decide), if_neg (by rw [hl]; decide), if_neg hs]
  rcases h4 with h4 | h4
  · rw [if_pos h4]
  · split
    · rfl
    · first | rfl | rw [if_pos h4]
theorem broken_ok (h : m ≠ 0) (hd : bAt g.d t = false) (hl : lookB g t = true) (hs : ¬ (m = 1 ∧ startP g t = false)) (h4 : ¬ ((m = 1 ∧ x.md ≠ 0 ∨ (1 < m ∧ m ≤ g.w.soft ∧ x.md ≠ m - 1)) ∨ (m = g.w.soft + 1 ∧ x.md < g.w.soft ∧ x.qu < 0))) : brokenP g t x m = 0 := by
  unfold brokenP; rw [if_neg h, if_neg (by rw [hd]; decide), if_neg (by rw [hl]; decide), if_neg hs, if_neg (fun e => h4 (.inl e)), if_neg (fun e => h4 (.inr e))]
theorem after_no (h : m ≠ 0 ∨ bAt g.d t = true ∨ lookB g t = false) : afterP g t x m = ⟨m, -1⟩ := by unfold afterP; rw [if_pos h]
theorem after_q (h1 : m = 0) (h2 : bAt g.d t = false) (h3 : lookB g t = true) : afterP g t x m = ⟨m, quietP g x⟩ := by
  unfold afterP; rw [if_neg]; rintro (h | h | h)
  · exact h h1
  · rw [h2] at h; cases h
  · rw [h3] at h; cases h
end
def okSt (x : Sta) : Prop := -1 ≤ x.qu ∧ x.qu ≤ 16
theorem after_okSt {g : Lg} (hw : okW g.w) (t : Int) (x : Sta) (m : Int) : okSt (afterP g t x m) := by
  unfold okW at hw
  unfold afterP okSt
  split
  · simp only; omega
  · simp only
    by_cases h1 : x.md = g.w.soft + 1
    · rw [quietP_full h1]; split <;> omega
    · by_cases h2 : 0 < x.qu
      · rw [quietP_qu h1 h2]; split <;> omega
      · rw [quietP_no h1 h2]; omega
theorem sta0_ok : okSt sta0 := by unfold okSt sta0; simp only; omega

/-- (paravane/watch.log).starts -/
theorem c_starts (L : LH) (g : Lg) (H : Heap) [hlg : LgO H L g] (t : Int) (ht : 0 ≤ t ∧ t < g.s.ship.length) : VHas Tryd.prog 60 [vLg L g, I t] (.bool (startP g t)) (H) (H) := by
 obtain ⟨hlen, hokw, hcap⟩ := hlg.facts
 have hokw0 := hokw
 unfold okW at hokw
 refine vcall_of_vrun Tryd.func60 rfl (N := 43) rfl rfl ?_
 refine vseq ?_
 refine vregion ?_
 refine vone rfl (vxa (vbox rfl rfl) rfl rfl (fun b1 => ?_))
 refine vone rfl (vxq (vas rfl) rfl rfl ?_)
 refine vnil ?_
 refine vseq ?_
 refine vseq ?_
 refine vregion ?_
 refine vone rfl (vxq (vmv rfl) rfl rfl ?_)
 refine vone rfl (vxq (vfa rfl) rfl rfl ?_)
 refine vone rfl (vxq (vfa rfl) rfl rfl ?_)
 refine vone rfl (vxq (vld1 rfl rfl) rfl rfl ?_)
 refine vone rfl (vxq (vlss rfl rfl) rfl rfl ?_)
 refine vone rfl (vxq (vmv rfl) rfl rfl ?_)
 refine vsplitd (d := 10) rfl (fun h10 => ?_) (fun h10 => ?_)
 ·
  refine vno rfl rfl rfl rfl rfl ?_
  refine vno rfl rfl rfl rfl rfl ?_
  refine vno rfl rfl rfl rfl rfl ?_
  refine vno rfl rfl rfl rfl rfl ?_
  refine vno rfl rfl rfl rfl rfl ?_
  refine vno rfl rfl rfl rfl rfl ?_
  refine vno rfl rfl rfl rfl rfl ?_
  refine vno rfl rfl rfl rfl rfl ?_
  refine vno rfl rfl rfl rfl rfl ?_
  refine vnou rfl rfl rfl rfl rfl ?_
  refine vnou rfl rfl rfl rfl rfl ?_
  refine vnou rfl rfl rfl rfl rfl ?_
  refine vnou rfl rfl rfl rfl rfl ?_
  refine vnou rfl rfl rfl rfl rfl ?_
  refine vnou rfl rfl rfl rfl rfl ?_
  refine vnou rfl rfl rfl rfl rfl ?_
  refine vnou rfl rfl rfl rfl rfl ?_
  refine vno rfl rfl rfl rfl rfl ?_
  refine vone rfl (vxq (vpkt rfl rfl) rfl rfl ?_)
  refine vnil ?_
  refine vcondt rfl ?_
  refine vseq ?_
  refine vregion ?_
  refine vone rfl (vxq (vas rfl) rfl rfl ?_)
  refine vnil ?_
  refine vret (vr1 (H' := H) Tryd.func60 rfl (.tmp rfl) sb ?_)
  first | exact ⟨oV (by rw [start_no1 h10]), rfl⟩ | exact ⟨oV (by rw [start_no2 (nf h19) (nf h29)]), rfl⟩ | exact ⟨oV (by rw [start_is h10 (by first | exact .inl (nt h19) | exact .inr (nt h29)), ← part_tr (by omega) (by omega) (by omega), show (t + 1).toNat - (max 0 (t - g.w.delay)).toNat = (t + 1 - max 0 (t - g.w.delay)).toNat by omega]), rfl⟩
 ·
  refine vyes rfl rfl rfl (vxq (vldn rfl rfl) rfl rfl ?_)
  refine vyes rfl rfl rfl (vxq (vfa rfl) rfl rfl ?_)
  refine vyes rfl rfl rfl (vxq (vfa rfl) rfl rfl ?_)
  refine vyes rfl rfl rfl (vxq (vfa rfl) rfl rfl ?_)
  refine vyes rfl rfl rfl (vxq (vld1 rfl rfl) rfl rfl ?_)
  refine vyes rfl rfl rfl (vxq (vmv rfl) rfl rfl ?_)
  refine vyes rfl rfl rfl (vxq (vcq rfl rfl rfl (c_always L g hokw0 g.s.eyes _ _ hcap.1 _ t (by omega) (by omega))) rfl rfl ?_)
  refine vyes rfl rfl rfl (vxq (vnot rfl) rfl rfl ?_)
  refine vyes rfl rfl rfl (vxq (vmv rfl) rfl rfl ?_)
  refine vsplit (d := 19) rfl (fun h19 => ?_) (fun h19 => ?_)
  ·
   refine vyes rfl rfl rfl (vxq (vldn rfl rfl) rfl rfl ?_)
   refine vyes rfl rfl rfl (vxq (vfa rfl) rfl rfl ?_)
   refine vyes rfl rfl rfl (vxq (vfa rfl) rfl rfl ?_)
   refine vyes rfl rfl rfl (vxq (vfa rfl) rfl rfl ?_)
   refine vyes rfl rfl rfl (vxq (vld1 rfl rfl) rfl rfl ?_)
   refine vyes rfl rfl rfl (vxq (vmv rfl) rfl rfl ?_)
   refine vyes rfl rfl rfl (vxq (vcq rfl rfl rfl (c_always L g hokw0 g.s.ears _ _ hcap.2.1 _ t (by omega) (by omega))) rfl rfl ?_)
   refine vyes rfl rfl rfl (vxq (vnot rfl) rfl rfl ?_)
   refine vyes rfl rfl rfl (vxq (vpkt rfl rfl) rfl rfl ?_)
   refine vone rfl (vxq (vpkf rfl rfl) rfl rfl ?_)
   refine vnil ?_
   refine vcond rfl (fun h29 => ?_) (fun h29 => ?_)
   ·
    refine vseq ?_
    refine vregion ?_
    refine vone rfl (vxq (vas rfl) rfl rfl ?_)
    refine vnil ?_
    refine vret (vr1 (H' := H) Tryd.func60 rfl (.tmp rfl) sb ?_)
    first | exact ⟨oV (by rw [start_no1 h10]), rfl⟩ | exact ⟨oV (by rw [start_no2 (nf h19) (nf h29)]), rfl⟩ | exact ⟨oV (by rw [start_is h10 (by first | exact .inl (nt h19) | exact .inr (nt h29)), ← part_tr (by omega) (by omega) (by omega), show (t + 1).toNat - (max 0 (t - g.w.delay)).toNat = (t + 1 - max 0 (t - g.w.delay)).toNat by omega]), rfl⟩
   ·
    refine vskip ?_
    refine vseq ?_
    refine vregion ?_
    refine vone rfl (vxq (vfa rfl) rfl rfl ?_)
    refine vone rfl (vxq (vld1 rfl rfl) rfl rfl ?_)
    refine vone rfl (vxq (vmv rfl) rfl rfl ?_)
    refine vone rfl (vxq (vfa rfl) rfl rfl ?_)
    refine vone rfl (vxq (vfa rfl) rfl rfl ?_)
    refine vone rfl (vxq (vld1 rfl rfl) rfl rfl ?_)
    refine vone rfl (vxq (vsub rfl rfl (by unfold InR; omega)) rfl rfl ?_)
    refine vone rfl (vxq (vmax2 rfl rfl) rfl rfl ?_)
    refine vone rfl (vxq (vmv rfl) rfl rfl ?_)
    refine vone rfl (vxq (vadd rfl rfl (by unfold InR; omega)) rfl rfl ?_)
    refine vone rfl (vxq (vslc rfl rfl rfl (by omega) (by omega) (by omega)) rfl rfl ?_)
    refine vone rfl (vxq (vcq rfl rfl rfl ((haveI := hlg.d.part (c := L.dc) (l := (max 0 (t - g.w.delay)).toNat) (m := (t + 1).toNat) (by omega); q_ContainsB ((g.d.drop (max 0 (t - g.w.delay)).toNat).take ((t + 1).toNat - (max 0 (t - g.w.delay)).toNat)) true _ _ _ (by rw [List.length_take, List.length_drop]; omega) (by omega) _))) rfl rfl ?_)
    refine vone rfl (vxq (vnot rfl) rfl rfl ?_)
    refine vone rfl (vxq (vas rfl) rfl rfl ?_)
    refine vnil ?_
    refine vret (vr1 (H' := H) Tryd.func60 rfl (.tmp rfl) sb ?_)
    first | exact ⟨oV (by rw [start_no1 h10]), rfl⟩ | exact ⟨oV (by rw [start_no2 (nf h19) (nf h29)]), rfl⟩ | exact ⟨oV (by rw [start_is h10 (by first | exact .inl (nt h19) | exact .inr (nt h29)), ← part_tr (by omega) (by omega) (by omega), show (t + 1).toNat - (max 0 (t - g.w.delay)).toNat = (t + 1 - max 0 (t - g.w.delay)).toNat by omega]), rfl⟩
  ·
   refine vno rfl rfl rfl rfl rfl ?_
   refine vno rfl rfl rfl rfl rfl ?_
   refine vno rfl rfl rfl rfl rfl ?_
   refine vno rfl rfl rfl rfl rfl ?_
   refine vno rfl rfl rfl rfl rfl ?_
   refine vno rfl rfl rfl rfl rfl ?_
   refine vno rfl rfl rfl rfl rfl ?_
   refine vno rfl rfl rfl rfl rfl ?_
   refine vyes rfl rfl rfl (vxq (vpkf rfl rfl) rfl rfl ?_)
   refine vone rfl (vxq (vpkf rfl rfl) rfl rfl ?_)
   refine vnil ?_
   refine vcondf rfl ?_
   refine vskip ?_
   refine vseq ?_
   refine vregion ?_
   refine vone rfl (vxq (vfa rfl) rfl rfl ?_)
   refine vone rfl (vxq (vld1 rfl rfl) rfl rfl ?_)
   refine vone rfl (vxq (vmv rfl) rfl rfl ?_)
   refine vone rfl (vxq (vfa rfl) rfl rfl ?_)
   refine vone rfl (vxq (vfa rfl) rfl rfl ?_)
   refine vone rfl (vxq (vld1 rfl rfl) rfl rfl ?_)
   refine vone rfl (vxq (vsub rfl rfl (by unfold InR; omega)) rfl rfl ?_)
   refine vone rfl (vxq (vmax2 rfl rfl) rfl rfl ?_)
   refine vone rfl (vxq (vmv rfl) rfl rfl ?_)
   refine vone rfl (vxq (vadd rfl rfl (by unfold InR; omega)) rfl rfl ?_)
   refine vone rfl (vxq (vslc rfl rfl rfl (by omega) (by omega) (by omega)) rfl rfl ?_)
   refine vone rfl (vxq (vcq rfl rfl rfl ((haveI := hlg.d.part (c := L.dc) (l := (max 0 (t - g.w.delay)).toNat) (m := (t + 1).toNat) (by omega); q_ContainsB ((g.d.drop (max 0 (t - g.w.delay)).toNat).take ((t + 1).toNat - (max 0 (t - g.w.delay)).toNat)) true _ _ _ (by rw [List.length_take, List.length_drop]; omega) (by omega) _))) rfl rfl ?_)
   refine vone rfl (vxq (vnot rfl) rfl rfl ?_)
   refine vone rfl (vxq (vas rfl) rfl rfl ?_)
   refine vnil ?_
   refine vret (vr1 (H' := H) Tryd.func60 rfl (.tmp rfl) sb ?_)
   first | exact ⟨oV (by rw [start_no1 h10]), rfl⟩ | exact ⟨oV (by rw [start_no2 (nf h19) (nf h29)]), rfl⟩ | exact ⟨oV (by rw [start_is h10 (by first | exact .inl (nt h19) | exact .inr (nt h29)), ← part_tr (by omega) (by omega) (by omega), show (t + 1).toNat - (max 0 (t - g.w.delay)).toNat = (t + 1 - max 0 (t - g.w.delay)).toNat by omega]), rfl⟩
/-- (paravane/watch.log).broken -/
theorem c_broken (L : LH) (g : Lg) (H : Heap) [hlg : LgO H L g] (t : Int) (ht : 0 ≤ t ∧ t < g.s.ship.length) (x : Sta) (m : Int) : VHas Tryd.prog 56 [vLg L g, I t, vSt x, I m] (I (brokenP g t x m)) (H) (H) := by
 obtain ⟨hlen, hokw, hcap⟩ := hlg.facts
 have hokw0 := hokw
 unfold okW at hokw
 obtain ⟨z, hz⟩ := get_of_lt g.d (i := t.toNat) (by omega)
 refine vcall_of_vrun Tryd.func56 rfl (N := 74) rfl rfl ?_
 refine vseq ?_
 refine vregion ?_
 refine vone rfl (vxa (vbox rfl rfl) rfl rfl (fun b1 => ?_))
 refine vone rfl (vxa (vbox rfl rfl) rfl rfl (fun b2 => ?_))
 refine vone rfl (vxq (vas rfl) rfl rfl ?_)
 refine vnil ?_
 refine vseq ?_
 refine vblock ?_
 refine vseq ?_
 refine vregion ?_
 refine vone rfl (vxq (vmv rfl) rfl rfl ?_)
 refine vone rfl (vxq (veql rfl rfl) rfl rfl ?_)
 refine vone rfl (vxq (vas rfl) rfl rfl ?_)
 refine vnil ?_
 refine vcondd rfl (fun h9 => ?_) (fun h9 => ?_)
 ·
  refine vseq ?_
  refine vregion ?_
  refine vone rfl (vxq (vas rfl) rfl rfl ?_)
  refine vnil ?_
  refine vret (vr1 (H' := H) Tryd.func56 rfl (.tmp rfl) sb ?_)
  first | exact ⟨oI (broken_0 h9).symm, rfl⟩ | exact ⟨oI (broken_1 h9 ((bAt_of hz).trans h12)).symm, rfl⟩ | exact ⟨oI (broken_2 h9 ((bAt_of hz).trans h12) (nf h18)).symm, rfl⟩ | exact ⟨oI (broken_3 h9 ((bAt_of hz).trans h12) (nt h18) h26 (nf h23)).symm, rfl⟩ | exact ⟨oI (broken_4 h9 ((bAt_of hz).trans h12) (nt h18) (by first | (rintro ⟨e1, e2⟩; omega) | (rintro ⟨e1, e2⟩; exact absurd (nt h23) (by rw [e2]; decide))) (by omega)).symm, rfl⟩ | exact ⟨oI (broken_ok h9 ((bAt_of hz).trans h12) (nt h18) (by first | (rintro ⟨e1, e2⟩; omega) | (rintro ⟨e1, e2⟩; exact absurd (nt h23) (by rw [e2]; decide))) (by omega)).symm, rfl⟩
 ·
  refine vseq ?_
  refine vregion ?_
  refine vone rfl (vxq (vfa rfl) rfl rfl ?_)
  refine vone rfl (vxq (vld1 rfl rfl) rfl rfl ?_)
  refine vone rfl (vxq (vmv rfl) rfl rfl ?_)
  refine vone rfl (vxq (visg (enc := encB) rfl rfl (by omega) hz) rfl rfl ?_)
  refine vone rfl (vxq (vldS1 (enc := encB) rfl hz rfl) rfl rfl ?_)
  refine vone rfl (vxq (vas rfl) rfl rfl ?_)
  refine vnil ?_
  refine vcond rfl (fun h12 => ?_) (fun h12 => ?_)
  ·
   refine vseq ?_
   refine vregion ?_
   refine vone rfl (vxq (vas rfl) rfl rfl ?_)
   refine vnil ?_
   refine vret (vr1 (H' := H) Tryd.func56 rfl (.tmp rfl) sb ?_)
   first | exact ⟨oI (broken_0 h9).symm, rfl⟩ | exact ⟨oI (broken_1 h9 ((bAt_of hz).trans h12)).symm, rfl⟩ | exact ⟨oI (broken_2 h9 ((bAt_of hz).trans h12) (nf h18)).symm, rfl⟩ | exact ⟨oI (broken_3 h9 ((bAt_of hz).trans h12) (nt h18) h26 (nf h23)).symm, rfl⟩ | exact ⟨oI (broken_4 h9 ((bAt_of hz).trans h12) (nt h18) (by first | (rintro ⟨e1, e2⟩; omega) | (rintro ⟨e1, e2⟩; exact absurd (nt h23) (by rw [e2]; decide))) (by omega)).symm, rfl⟩ | exact ⟨oI (broken_ok h9 ((bAt_of hz).trans h12) (nt h18) (by first | (rintro ⟨e1, e2⟩; omega) | (rintro ⟨e1, e2⟩; exact absurd (nt h23) (by rw [e2]; decide))) (by omega)).symm, rfl⟩
  ·
   refine vseq ?_
   refine vregion ?_
   refine vone rfl (vxq (vldn rfl rfl) rfl rfl ?_)
   refine vone rfl (vxq (vmv rfl) rfl rfl ?_)
   refine vone rfl (vxq (vcq rfl rfl rfl (c_watched L g _ t ht)) rfl rfl ?_)
   refine vone rfl (vxq (vnot rfl) rfl rfl ?_)
   refine vone rfl (vxq (vas rfl) rfl rfl ?_)
   refine vnil ?_
   refine vcond rfl (fun h18 => ?_) (fun h18 => ?_)
   ·
    refine vseq ?_
    refine vregion ?_
    refine vone rfl (vxq (vas rfl) rfl rfl ?_)
    refine vnil ?_
    refine vret (vr1 (H' := H) Tryd.func56 rfl (.tmp rfl) sb ?_)
    first | exact ⟨oI (broken_0 h9).symm, rfl⟩ | exact ⟨oI (broken_1 h9 ((bAt_of hz).trans h12)).symm, rfl⟩ | exact ⟨oI (broken_2 h9 ((bAt_of hz).trans h12) (nf h18)).symm, rfl⟩ | exact ⟨oI (broken_3 h9 ((bAt_of hz).trans h12) (nt h18) h26 (nf h23)).symm, rfl⟩ | exact ⟨oI (broken_4 h9 ((bAt_of hz).trans h12) (nt h18) (by first | (rintro ⟨e1, e2⟩; omega) | (rintro ⟨e1, e2⟩; exact absurd (nt h23) (by rw [e2]; decide))) (by omega)).symm, rfl⟩ | exact ⟨oI (broken_ok h9 ((bAt_of hz).trans h12) (nt h18) (by first | (rintro ⟨e1, e2⟩; omega) | (rintro ⟨e1, e2⟩; exact absurd (nt h23) (by rw [e2]; decide))) (by omega)).symm, rfl⟩
   ·
    refine vseq ?_
    refine vregion ?_
    refine vone rfl (vxq (vmv rfl) rfl rfl ?_)
    refine vone rfl (vxq (veql rfl rfl) rfl rfl ?_)
    refine vone rfl (vxq (vmv rfl) rfl rfl ?_)
    refine vsplitd (d := 26) rfl (fun h26 => ?_) (fun h26 => ?_)
    ·
     refine vyes rfl rfl rfl (vxq (vldn rfl rfl) rfl rfl ?_)
     refine vyes rfl rfl rfl (vxq (vmv rfl) rfl rfl ?_)
     refine vyes rfl rfl rfl (vxq (vcq rfl rfl rfl (c_starts L g _ t ht)) rfl rfl ?_)
     refine vyes rfl rfl rfl (vxq (vnot rfl) rfl rfl ?_)
     refine vone rfl (vxq (vpkt rfl rfl) rfl rfl ?_)
     refine vone rfl (vxq (vas rfl) rfl rfl ?_)
     refine vnil ?_
     refine vcond rfl (fun h23 => ?_) (fun h23 => ?_)
     ·
      refine vseq ?_
      refine vregion ?_
      refine vone rfl (vxq (vas rfl) rfl rfl ?_)
      refine vnil ?_
      refine vret (vr1 (H' := H) Tryd.func56 rfl (.tmp rfl) sb ?_)
      first | exact ⟨oI (broken_0 h9).symm, rfl⟩ | exact ⟨oI (broken_1 h9 ((bAt_of hz).trans h12)).symm, rfl⟩ | exact ⟨oI (broken_2 h9 ((bAt_of hz).trans h12) (nf h18)).symm, rfl⟩ | exact ⟨oI (broken_3 h9 ((bAt_of hz).trans h12) (nt h18) h26 (nf h23)).symm, rfl⟩ | exact ⟨oI (broken_4 h9 ((bAt_of hz).trans h12) (nt h18) (by first | (rintro ⟨e1, e2⟩; omega) | (rintro ⟨e1, e2⟩; exact absurd (nt h23) (by rw [e2]; decide))) (by omega)).symm, rfl⟩ | exact ⟨oI (broken_ok h9 ((bAt_of hz).trans h12) (nt h18) (by first | (rintro ⟨e1, e2⟩; omega) | (rintro ⟨e1, e2⟩; exact absurd (nt h23) (by rw [e2]; decide))) (by omega)).symm, rfl⟩
     ·
      refine vseq ?_
      refine vseq ?_
      refine vregion ?_
      refine vone rfl (vxq (vmv rfl) rfl rfl ?_)
      refine vone rfl (vxq (veql rfl rfl) rfl rfl ?_)
      refine vone rfl (vxq (vmv rfl) rfl rfl ?_)
      refine vsplitd (d := 35) rfl (fun h35 => ?_) (fun h35 => ?_)
      ·
       refine vyes rfl rfl rfl (vxq (vfa rfl) rfl rfl ?_)
       refine vyes rfl rfl rfl (vxq (vld1 rfl rfl) rfl rfl ?_)
       refine vyes rfl rfl rfl (vxq (vneq rfl rfl) rfl rfl ?_)
       refine vone rfl (vxq (vpkt rfl rfl) rfl rfl ?_)
       refine vone rfl (vxq (vas rfl) rfl rfl ?_)
       refine vnil ?_
       refine vcondd rfl (fun h32 => ?_) (fun h32 => ?_)
       ·
        refine vskip ?_
        refine vcondd rfl (fun h32 => ?_) (fun h32 => ?_)
        ·
         refine vseq ?_
         refine vregion ?_
         refine vone rfl (vxq (vas rfl) rfl rfl ?_)
         refine vnil ?_
         refine vret (vr1 (H' := H) Tryd.func56 rfl (.tmp rfl) sb ?_)
         first | exact ⟨oI (broken_0 h9).symm, rfl⟩ | exact ⟨oI (broken_1 h9 ((bAt_of hz).trans h12)).symm, rfl⟩ | exact ⟨oI (broken_2 h9 ((bAt_of hz).trans h12) (nf h18)).symm, rfl⟩ | exact ⟨oI (broken_3 h9 ((bAt_of hz).trans h12) (nt h18) h26 (nf h23)).symm, rfl⟩ | exact ⟨oI (broken_4 h9 ((bAt_of hz).trans h12) (nt h18) (by first | (rintro ⟨e1, e2⟩; omega) | (rintro ⟨e1, e2⟩; exact absurd (nt h23) (by rw [e2]; decide))) (by omega)).symm, rfl⟩ | exact ⟨oI (broken_ok h9 ((bAt_of hz).trans h12) (nt h18) (by first | (rintro ⟨e1, e2⟩; omega) | (rintro ⟨e1, e2⟩; exact absurd (nt h23) (by rw [e2]; decide))) (by omega)).symm, rfl⟩
        ·
         refine vseq ?_
         refine vregion ?_
         refine vone rfl (vxq (vmv rfl) rfl rfl ?_)
         refine vone rfl (vxq (vldn rfl rfl) rfl rfl ?_)
         refine vone rfl (vxq (vcp rfl rfl rfl (c_full L g hokw0)) rfl rfl ?_)
         refine vone rfl (vxq (veql rfl rfl) rfl rfl ?_)
         refine vone rfl (vxq (vmv rfl) rfl rfl ?_)
         refine vsplitd (d := 61) rfl (fun h61 => ?_) (fun h61 => ?_)
         ·
          refine vyes rfl rfl rfl (vxq (vfa rfl) rfl rfl ?_)
          refine vyes rfl rfl rfl (vxq (vld1 rfl rfl) rfl rfl ?_)
          refine vyes rfl rfl rfl (vxq (vfa rfl) rfl rfl ?_)
          refine vyes rfl rfl rfl (vxq (vfa rfl) rfl rfl ?_)
          refine vyes rfl rfl rfl (vxq (vld1 rfl rfl) rfl rfl ?_)
          refine vyes rfl rfl rfl (vxq (vlss rfl rfl) rfl rfl ?_)
          refine vone rfl (vxq (vpkt rfl rfl) rfl rfl ?_)
          refine vone rfl (vxq (vmv rfl) rfl rfl ?_)
          refine vsplitd (d := 69) rfl (fun h69 => ?_) (fun h69 => ?_)
          ·
           refine vyes rfl rfl rfl (vxq (vfa rfl) rfl rfl ?_)
           refine vyes rfl rfl rfl (vxq (vld1 rfl rfl) rfl rfl ?_)
           refine vyes rfl rfl rfl (vxq (vlss rfl rfl) rfl rfl ?_)
           refine vone rfl (vxq (vpkt rfl rfl) rfl rfl ?_)
           refine vone rfl (vxq (vas rfl) rfl rfl ?_)
           refine vnil ?_
           refine vcondd rfl (fun h56 => ?_) (fun h56 => ?_)
           ·
            refine vseq ?_
            refine vregion ?_
            refine vone rfl (vxq (vas rfl) rfl rfl ?_)
            refine vnil ?_
            refine vret (vr1 (H' := H) Tryd.func56 rfl (.tmp rfl) sb ?_)
            first | exact ⟨oI (broken_0 h9).symm, rfl⟩ | exact ⟨oI (broken_1 h9 ((bAt_of hz).trans h12)).symm, rfl⟩ | exact ⟨oI (broken_2 h9 ((bAt_of hz).trans h12) (nf h18)).symm, rfl⟩ | exact ⟨oI (broken_3 h9 ((bAt_of hz).trans h12) (nt h18) h26 (nf h23)).symm, rfl⟩ | exact ⟨oI (broken_4 h9 ((bAt_of hz).trans h12) (nt h18) (by first | (rintro ⟨e1, e2⟩; omega) | (rintro ⟨e1, e2⟩; exact absurd (nt h23) (by rw [e2]; decide))) (by omega)).symm, rfl⟩ | exact ⟨oI (broken_ok h9 ((bAt_of hz).trans h12) (nt h18) (by first | (rintro ⟨e1, e2⟩; omega) | (rintro ⟨e1, e2⟩; exact absurd (nt h23) (by rw [e2]; decide))) (by omega)).symm, rfl⟩
           ·
            refine vskip ?_
            refine vinblock ?_
            refine vseq ?_
            refine vregion ?_
            refine vone rfl (vxq (vas rfl) rfl rfl ?_)
            refine vnil ?_
            refine vret (vr1 (H' := H) Tryd.func56 rfl (.tmp rfl) sb ?_)
            first | exact ⟨oI (broken_0 h9).symm, rfl⟩ | exact ⟨oI (broken_1 h9 ((bAt_of hz).trans h12)).symm, rfl⟩ | exact ⟨oI (broken_2 h9 ((bAt_of hz).trans h12) (nf h18)).symm, rfl⟩ | exact ⟨oI (broken_3 h9 ((bAt_of hz).trans h12) (nt h18) h26 (nf h23)).symm, rfl⟩ | exact ⟨oI (broken_4 h9 ((bAt_of hz).trans h12) (nt h18) (by first | (rintro ⟨e1, e2⟩; omega) | (rintro ⟨e1, e2⟩; exact absurd (nt h23) (by rw [e2]; decide))) (by omega)).symm, rfl⟩ | exact ⟨oI (broken_ok h9 ((bAt_of hz).trans h12) (nt h18) (by first | (rintro ⟨e1, e2⟩; omega) | (rintro ⟨e1, e2⟩; exact absurd (nt h23) (by rw [e2]; decide))) (by omega)).symm, rfl⟩
          ·
           refine vno rfl rfl rfl rfl rfl ?_
           refine vno rfl rfl rfl rfl rfl ?_
           refine vno rfl rfl rfl rfl rfl ?_
           refine vone rfl (vxq (vpkf rfl rfl) rfl rfl ?_)
           refine vone rfl (vxq (vas rfl) rfl rfl ?_)
           refine vnil ?_
           refine vcondf rfl ?_
           refine vskip ?_
           refine vinblock ?_
           refine vseq ?_
           refine vregion ?_
           refine vone rfl (vxq (vas rfl) rfl rfl ?_)
           refine vnil ?_
           refine vret (vr1 (H' := H) Tryd.func56 rfl (.tmp rfl) sb ?_)
           first | exact ⟨oI (broken_0 h9).symm, rfl⟩ | exact ⟨oI (broken_1 h9 ((bAt_of hz).trans h12)).symm, rfl⟩ | exact ⟨oI (broken_2 h9 ((bAt_of hz).trans h12) (nf h18)).symm, rfl⟩ | exact ⟨oI (broken_3 h9 ((bAt_of hz).trans h12) (nt h18) h26 (nf h23)).symm, rfl⟩ | exact ⟨oI (broken_4 h9 ((bAt_of hz).trans h12) (nt h18) (by first | (rintro ⟨e1, e2⟩; omega) | (rintro ⟨e1, e2⟩; exact absurd (nt h23) (by rw [e2]; decide))) (by omega)).symm, rfl⟩ | exact ⟨oI (broken_ok h9 ((bAt_of hz).trans h12) (nt h18) (by first | (rintro ⟨e1, e2⟩; omega) | (rintro ⟨e1, e2⟩; exact absurd (nt h23) (by rw [e2]; decide))) (by omega)).symm, rfl⟩
         ·
          refine vno rfl rfl rfl rfl rfl ?_
          refine vno rfl rfl rfl rfl rfl ?_
          refine vno rfl rfl rfl rfl rfl ?_
          refine vno rfl rfl rfl rfl rfl ?_
          refine vno rfl rfl rfl rfl rfl ?_
          refine vno rfl rfl rfl rfl rfl ?_
          refine vone rfl (vxq (vpkf rfl rfl) rfl rfl ?_)
          refine vone rfl (vxq (vmv rfl) rfl rfl ?_)
          refine vno rfl rfl rfl rfl rfl ?_
          refine vno rfl rfl rfl rfl rfl ?_
          refine vno rfl rfl rfl rfl rfl ?_
          refine vone rfl (vxq (vpkf rfl rfl) rfl rfl ?_)
          refine vone rfl (vxq (vas rfl) rfl rfl ?_)
          refine vnil ?_
          refine vcondf rfl ?_
          refine vskip ?_
          refine vinblock ?_
          refine vseq ?_
          refine vregion ?_
          refine vone rfl (vxq (vas rfl) rfl rfl ?_)
          refine vnil ?_
          refine vret (vr1 (H' := H) Tryd.func56 rfl (.tmp rfl) sb ?_)
          first | exact ⟨oI (broken_0 h9).symm, rfl⟩ | exact ⟨oI (broken_1 h9 ((bAt_of hz).trans h12)).symm, rfl⟩ | exact ⟨oI (broken_2 h9 ((bAt_of hz).trans h12) (nf h18)).symm, rfl⟩ | exact ⟨oI (broken_3 h9 ((bAt_of hz).trans h12) (nt h18) h26 (nf h23)).symm, rfl⟩ | exact ⟨oI (broken_4 h9 ((bAt_of hz).trans h12) (nt h18) (by first | (rintro ⟨e1, e2⟩; omega) | (rintro ⟨e1, e2⟩; exact absurd (nt h23) (by rw [e2]; decide))) (by omega)).symm, rfl⟩ | exact ⟨oI (broken_ok h9 ((bAt_of hz).trans h12) (nt h18) (by first | (rintro ⟨e1, e2⟩; omega) | (rintro ⟨e1, e2⟩; exact absurd (nt h23) (by rw [e2]; decide))) (by omega)).symm, rfl⟩
       ·
        refine vregion ?_
        refine vone rfl (vxq (vmv rfl) rfl rfl ?_)
        refine vone rfl (vxq (vgtr rfl rfl) rfl rfl ?_)
        refine vone rfl (vxq (vmv rfl) rfl rfl ?_)
        refine vsplitd (d := 42) rfl (fun h42 => ?_) (fun h42 => ?_)
        ·
         refine vyes rfl rfl rfl (vxq (vmv rfl) rfl rfl ?_)
         refine vyes rfl rfl rfl (vxq (vfa rfl) rfl rfl ?_)
         refine vyes rfl rfl rfl (vxq (vfa rfl) rfl rfl ?_)
         refine vyes rfl rfl rfl (vxq (vld1 rfl rfl) rfl rfl ?_)
         refine vyes rfl rfl rfl (vxq (vleq rfl rfl) rfl rfl ?_)
         refine vone rfl (vxq (vpkt rfl rfl) rfl rfl ?_)
         refine vone rfl (vxq (vmv rfl) rfl rfl ?_)
         refine vsplitd (d := 49) rfl (fun h49 => ?_) (fun h49 => ?_)
         ·
          refine vyes rfl rfl rfl (vxq (vfa rfl) rfl rfl ?_)
          refine vyes rfl rfl rfl (vxq (vld1 rfl rfl) rfl rfl ?_)
          refine vyes rfl rfl rfl (vxq (vmv rfl) rfl rfl ?_)
          refine vyes rfl rfl rfl (vxq (vsub rfl rfl (by unfold InR; omega)) rfl rfl ?_)
          refine vyes rfl rfl rfl (vxq (vneq rfl rfl) rfl rfl ?_)
          refine vone rfl (vxq (vpkt rfl rfl) rfl rfl ?_)
          refine vone rfl (vxq (vas rfl) rfl rfl ?_)
          refine vnil ?_
          refine vcondd rfl (fun h32 => ?_) (fun h32 => ?_)
          ·
           refine vseq ?_
           refine vregion ?_
           refine vone rfl (vxq (vas rfl) rfl rfl ?_)
           refine vnil ?_
           refine vret (vr1 (H' := H) Tryd.func56 rfl (.tmp rfl) sb ?_)
           first | exact ⟨oI (broken_0 h9).symm, rfl⟩ | exact ⟨oI (broken_1 h9 ((bAt_of hz).trans h12)).symm, rfl⟩ | exact ⟨oI (broken_2 h9 ((bAt_of hz).trans h12) (nf h18)).symm, rfl⟩ | exact ⟨oI (broken_3 h9 ((bAt_of hz).trans h12) (nt h18) h26 (nf h23)).symm, rfl⟩ | exact ⟨oI (broken_4 h9 ((bAt_of hz).trans h12) (nt h18) (by first | (rintro ⟨e1, e2⟩; omega) | (rintro ⟨e1, e2⟩; exact absurd (nt h23) (by rw [e2]; decide))) (by omega)).symm, rfl⟩ | exact ⟨oI (broken_ok h9 ((bAt_of hz).trans h12) (nt h18) (by first | (rintro ⟨e1, e2⟩; omega) | (rintro ⟨e1, e2⟩; exact absurd (nt h23) (by rw [e2]; decide))) (by omega)).symm, rfl⟩
          ·
           refine vseq ?_
           refine vregion ?_
           refine vone rfl (vxq (vmv rfl) rfl rfl ?_)
           refine vone rfl (vxq (vldn rfl rfl) rfl rfl ?_)
           refine vone rfl (vxq (vcp rfl rfl rfl (c_full L g hokw0)) rfl rfl ?_)
           refine vone rfl (vxq (veql rfl rfl) rfl rfl ?_)
           refine vone rfl (vxq (vmv rfl) rfl rfl ?_)
           refine vsplitd (d := 61) rfl (fun h61 => ?_) (fun h61 => ?_)
           ·
            refine vyes rfl rfl rfl (vxq (vfa rfl) rfl rfl ?_)
            refine vyes rfl rfl rfl (vxq (vld1 rfl rfl) rfl rfl ?_)
            refine vyes rfl rfl rfl (vxq (vfa rfl) rfl rfl ?_)
            refine vyes rfl rfl rfl (vxq (vfa rfl) rfl rfl ?_)
            refine vyes rfl rfl rfl (vxq (vld1 rfl rfl) rfl rfl ?_)
            refine vyes rfl rfl rfl (vxq (vlss rfl rfl) rfl rfl ?_)
            refine vone rfl (vxq (vpkt rfl rfl) rfl rfl ?_)
            refine vone rfl (vxq (vmv rfl) rfl rfl ?_)
            refine vsplitd (d := 69) rfl (fun h69 => ?_) (fun h69 => ?_)
            ·
             refine vyes rfl rfl rfl (vxq (vfa rfl) rfl rfl ?_)
             refine vyes rfl rfl rfl (vxq (vld1 rfl rfl) rfl rfl ?_)
             refine vyes rfl rfl rfl (vxq (vlss rfl rfl) rfl rfl ?_)
             refine vone rfl (vxq (vpkt rfl rfl) rfl rfl ?_)
             refine vone rfl (vxq (vas rfl) rfl rfl ?_)
             refine vnil ?_
             refine vcondd rfl (fun h56 => ?_) (fun h56 => ?_)
             ·
              refine vseq ?_
              refine vregion ?_
              refine vone rfl (vxq (vas rfl) rfl rfl ?_)
              refine vnil ?_
              refine vret (vr1 (H' := H) Tryd.func56 rfl (.tmp rfl) sb ?_)
              first | exact ⟨oI (broken_0 h9).symm, rfl⟩ | exact ⟨oI (broken_1 h9 ((bAt_of hz).trans h12)).symm, rfl⟩ | exact ⟨oI (broken_2 h9 ((bAt_of hz).trans h12) (nf h18)).symm, rfl⟩ | exact ⟨oI (broken_3 h9 ((bAt_of hz).trans h12) (nt h18) h26 (nf h23)).symm, rfl⟩ | exact ⟨oI (broken_4 h9 ((bAt_of hz).trans h12) (nt h18) (by first | (rintro ⟨e1, e2⟩; omega) | (rintro ⟨e1, e2⟩; exact absurd (nt h23) (by rw [e2]; decide))) (by omega)).symm, rfl⟩ | exact ⟨oI (broken_ok h9 ((bAt_of hz).trans h12) (nt h18) (by first | (rintro ⟨e1, e2⟩; omega) | (rintro ⟨e1, e2⟩; exact absurd (nt h23) (by rw [e2]; decide))) (by omega)).symm, rfl⟩
             ·
              refine vskip ?_
              refine vinblock ?_
              refine vseq ?_
              refine vregion ?_
              refine vone rfl (vxq (vas rfl) rfl rfl ?_)
              refine vnil ?_
              refine vret (vr1 (H' := H) Tryd.func56 rfl (.tmp rfl) sb ?_)
              first | exact ⟨oI (broken_0 h9).symm, rfl⟩ | exact ⟨oI (broken_1 h9 ((bAt_of hz).trans h12)).symm, rfl⟩ | exact ⟨oI (broken_2 h9 ((bAt_of hz).trans h12) (nf h18)).symm, rfl⟩ | exact ⟨oI (broken_3 h9 ((bAt_of hz).trans h12) (nt h18) h26 (nf h23)).symm, rfl⟩ | exact ⟨oI (broken_4 h9 ((bAt_of hz).trans h12) (nt h18) (by first | (rintro ⟨e1, e2⟩; omega) | (rintro ⟨e1, e2⟩; exact absurd (nt h23) (by rw [e2]; decide))) (by omega)).symm, rfl⟩ | exact ⟨oI (broken_ok h9 ((bAt_of hz).trans h12) (nt h18) (by first | (rintro ⟨e1, e2⟩; omega) | (rintro ⟨e1, e2⟩; exact absurd (nt h23) (by rw [e2]; decide))) (by omega)).symm, rfl⟩
            ·
             refine vno rfl rfl rfl rfl rfl ?_
             refine vno rfl rfl rfl rfl rfl ?_
             refine vno rfl rfl rfl rfl rfl ?_
             refine vone rfl (vxq (vpkf rfl rfl) rfl rfl ?_)
             refine vone rfl (vxq (vas rfl) rfl rfl ?_)
             refine vnil ?_
             refine vcondf rfl ?_
             refine vskip ?_
             refine vinblock ?_
             refine vseq ?_
             refine vregion ?_
             refine vone rfl (vxq (vas rfl) rfl rfl ?_)
             refine vnil ?_
             refine vret (vr1 (H' := H) Tryd.func56 rfl (.tmp rfl) sb ?_)
             first | exact ⟨oI (broken_0 h9).symm, rfl⟩ | exact ⟨oI (broken_1 h9 ((bAt_of hz).trans h12)).symm, rfl⟩ | exact ⟨oI (broken_2 h9 ((bAt_of hz).trans h12) (nf h18)).symm, rfl⟩ | exact ⟨oI (broken_3 h9 ((bAt_of hz).trans h12) (nt h18) h26 (nf h23)).symm, rfl⟩ | exact ⟨oI (broken_4 h9 ((bAt_of hz).trans h12) (nt h18) (by first | (rintro ⟨e1, e2⟩; omega) | (rintro ⟨e1, e2⟩; exact absurd (nt h23) (by rw [e2]; decide))) (by omega)).symm, rfl⟩ | exact ⟨oI (broken_ok h9 ((bAt_of hz).trans h12) (nt h18) (by first | (rintro ⟨e1, e2⟩; omega) | (rintro ⟨e1, e2⟩; exact absurd (nt h23) (by rw [e2]; decide))) (by omega)).symm, rfl⟩
           ·
            refine vno rfl rfl rfl rfl rfl ?_
            refine vno rfl rfl rfl rfl rfl ?_
            refine vno rfl rfl rfl rfl rfl ?_
            refine vno rfl rfl rfl rfl rfl ?_
            refine vno rfl rfl rfl rfl rfl ?_
            refine vno rfl rfl rfl rfl rfl ?_
            refine vone rfl (vxq (vpkf rfl rfl) rfl rfl ?_)
            refine vone rfl (vxq (vmv rfl) rfl rfl ?_)
            refine vno rfl rfl rfl rfl rfl ?_
            refine vno rfl rfl rfl rfl rfl ?_
            refine vno rfl rfl rfl rfl rfl ?_
            refine vone rfl (vxq (vpkf rfl rfl) rfl rfl ?_)
            refine vone rfl (vxq (vas rfl) rfl rfl ?_)
            refine vnil ?_
            refine vcondf rfl ?_
            refine vskip ?_
            refine vinblock ?_
            refine vseq ?_
            refine vregion ?_
            refine vone rfl (vxq (vas rfl) rfl rfl ?_)
            refine vnil ?_
            refine vret (vr1 (H' := H) Tryd.func56 rfl (.tmp rfl) sb ?_)
            first | exact ⟨oI (broken_0 h9).symm, rfl⟩ | exact ⟨oI (broken_1 h9 ((bAt_of hz).trans h12)).symm, rfl⟩ | exact ⟨oI (broken_2 h9 ((bAt_of hz).trans h12) (nf h18)).symm, rfl⟩ | exact ⟨oI (broken_3 h9 ((bAt_of hz).trans h12) (nt h18) h26 (nf h23)).symm, rfl⟩ | exact ⟨oI (broken_4 h9 ((bAt_of hz).trans h12) (nt h18) (by first | (rintro ⟨e1, e2⟩; omega) | (rintro ⟨e1, e2⟩; exact absurd (nt h23) (by rw [e2]; decide))) (by omega)).symm, rfl⟩ | exact ⟨oI (broken_ok h9 ((bAt_of hz).trans h12) (nt h18) (by first | (rintro ⟨e1, e2⟩; omega) | (rintro ⟨e1, e2⟩; exact absurd (nt h23) (by rw [e2]; decide))) (by omega)).symm, rfl⟩
         ·
          refine vno rfl rfl rfl rfl rfl ?_
          refine vno rfl rfl rfl rfl rfl ?_
          refine vno rfl rfl rfl rfl rfl ?_
          refine vno rfl rfl rfl rfl rfl ?_
          refine vno rfl rfl rfl rfl rfl ?_
          refine vone rfl (vxq (vpkf rfl rfl) rfl rfl ?_)
          refine vone rfl (vxq (vas rfl) rfl rfl ?_)
          refine vnil ?_
          refine vcondf rfl ?_
          refine vseq ?_
          refine vregion ?_
          refine vone rfl (vxq (vmv rfl) rfl rfl ?_)
          refine vone rfl (vxq (vldn rfl rfl) rfl rfl ?_)
          refine vone rfl (vxq (vcp rfl rfl rfl (c_full L g hokw0)) rfl rfl ?_)
          refine vone rfl (vxq (veql rfl rfl) rfl rfl ?_)
          refine vone rfl (vxq (vmv rfl) rfl rfl ?_)
          refine vsplitd (d := 61) rfl (fun h61 => ?_) (fun h61 => ?_)
          ·
           refine vyes rfl rfl rfl (vxq (vfa rfl) rfl rfl ?_)
           refine vyes rfl rfl rfl (vxq (vld1 rfl rfl) rfl rfl ?_)
           refine vyes rfl rfl rfl (vxq (vfa rfl) rfl rfl ?_)
           refine vyes rfl rfl rfl (vxq (vfa rfl) rfl rfl ?_)
           refine vyes rfl rfl rfl (vxq (vld1 rfl rfl) rfl rfl ?_)
           refine vyes rfl rfl rfl (vxq (vlss rfl rfl) rfl rfl ?_)
           refine vone rfl (vxq (vpkt rfl rfl) rfl rfl ?_)
           refine vone rfl (vxq (vmv rfl) rfl rfl ?_)
           refine vsplitd (d := 69) rfl (fun h69 => ?_) (fun h69 => ?_)
           ·
            refine vyes rfl rfl rfl (vxq (vfa rfl) rfl rfl ?_)
            refine vyes rfl rfl rfl (vxq (vld1 rfl rfl) rfl rfl ?_)
            refine vyes rfl rfl rfl (vxq (vlss rfl rfl) rfl rfl ?_)
            refine vone rfl (vxq (vpkt rfl rfl) rfl rfl ?_)
            refine vone rfl (vxq (vas rfl) rfl rfl ?_)
            refine vnil ?_
            refine vcondd rfl (fun h56 => ?_) (fun h56 => ?_)
            ·
             refine vseq ?_
             refine vregion ?_
             refine vone rfl (vxq (vas rfl) rfl rfl ?_)
             refine vnil ?_
             refine vret (vr1 (H' := H) Tryd.func56 rfl (.tmp rfl) sb ?_)
             first | exact ⟨oI (broken_0 h9).symm, rfl⟩ | exact ⟨oI (broken_1 h9 ((bAt_of hz).trans h12)).symm, rfl⟩ | exact ⟨oI (broken_2 h9 ((bAt_of hz).trans h12) (nf h18)).symm, rfl⟩ | exact ⟨oI (broken_3 h9 ((bAt_of hz).trans h12) (nt h18) h26 (nf h23)).symm, rfl⟩ | exact ⟨oI (broken_4 h9 ((bAt_of hz).trans h12) (nt h18) (by first | (rintro ⟨e1, e2⟩; omega) | (rintro ⟨e1, e2⟩; exact absurd (nt h23) (by rw [e2]; decide))) (by omega)).symm, rfl⟩ | exact ⟨oI (broken_ok h9 ((bAt_of hz).trans h12) (nt h18) (by first | (rintro ⟨e1, e2⟩; omega) | (rintro ⟨e1, e2⟩; exact absurd (nt h23) (by rw [e2]; decide))) (by omega)).symm, rfl⟩
            ·
             refine vskip ?_
             refine vinblock ?_
             refine vseq ?_
             refine vregion ?_
             refine vone rfl (vxq (vas rfl) rfl rfl ?_)
             refine vnil ?_
             refine vret (vr1 (H' := H) Tryd.func56 rfl (.tmp rfl) sb ?_)
             first | exact ⟨oI (broken_0 h9).symm, rfl⟩ | exact ⟨oI (broken_1 h9 ((bAt_of hz).trans h12)).symm, rfl⟩ | exact ⟨oI (broken_2 h9 ((bAt_of hz).trans h12) (nf h18)).symm, rfl⟩ | exact ⟨oI (broken_3 h9 ((bAt_of hz).trans h12) (nt h18) h26 (nf h23)).symm, rfl⟩ | exact ⟨oI (broken_4 h9 ((bAt_of hz).trans h12) (nt h18) (by first | (rintro ⟨e1, e2⟩; omega) | (rintro ⟨e1, e2⟩; exact absurd (nt h23) (by rw [e2]; decide))) (by omega)).symm, rfl⟩ | exact ⟨oI (broken_ok h9 ((bAt_of hz).trans h12) (nt h18) (by first | (rintro ⟨e1, e2⟩; omega) | (rintro ⟨e1, e2⟩; exact absurd (nt h23) (by rw [e2]; decide))) (by omega)).symm, rfl⟩
           ·
            refine vno rfl rfl rfl rfl rfl ?_
            refine vno rfl rfl rfl rfl rfl ?_
            refine vno rfl rfl rfl rfl rfl ?_
            refine vone rfl (vxq (vpkf rfl rfl) rfl rfl ?_)
            refine vone rfl (vxq (vas rfl) rfl rfl ?_)
            refine vnil ?_
            refine vcondf rfl ?_
            refine vskip ?_
            refine vinblock ?_
            refine vseq ?_
            refine vregion ?_
            refine vone rfl (vxq (vas rfl) rfl rfl ?_)
            refine vnil ?_
            refine vret (vr1 (H' := H) Tryd.func56 rfl (.tmp rfl) sb ?_)
            first | exact ⟨oI (broken_0 h9).symm, rfl⟩ | exact ⟨oI (broken_1 h9 ((bAt_of hz).trans h12)).symm, rfl⟩ | exact ⟨oI (broken_2 h9 ((bAt_of hz).trans h12) (nf h18)).symm, rfl⟩ | exact ⟨oI (broken_3 h9 ((bAt_of hz).trans h12) (nt h18) h26 (nf h23)).symm, rfl⟩ | exact ⟨oI (broken_4 h9 ((bAt_of hz).trans h12) (nt h18) (by first | (rintro ⟨e1, e2⟩; omega) | (rintro ⟨e1, e2⟩; exact absurd (nt h23) (by rw [e2]; decide))) (by omega)).symm, rfl⟩ | exact ⟨oI (broken_ok h9 ((bAt_of hz).trans h12) (nt h18) (by first | (rintro ⟨e1, e2⟩; omega) | (rintro ⟨e1, e2⟩; exact absurd (nt h23) (by rw [e2]; decide))) (by omega)).symm, rfl⟩
          ·
           refine vno rfl rfl rfl rfl rfl ?_
           refine vno rfl rfl rfl rfl rfl ?_
           refine vno rfl rfl rfl rfl rfl ?_
           refine vno rfl rfl rfl rfl rfl ?_
           refine vno rfl rfl rfl rfl rfl ?_
           refine vno rfl rfl rfl rfl rfl ?_
           refine vone rfl (vxq (vpkf rfl rfl) rfl rfl ?_)
           refine vone rfl (vxq (vmv rfl) rfl rfl ?_)
           refine vno rfl rfl rfl rfl rfl ?_
           refine vno rfl rfl rfl rfl rfl ?_
           refine vno rfl rfl rfl rfl rfl ?_
           refine vone rfl (vxq (vpkf rfl rfl) rfl rfl ?_)
           refine vone rfl (vxq (vas rfl) rfl rfl ?_)
           refine vnil ?_
           refine vcondf rfl ?_
           refine vskip ?_
           refine vinblock ?_
           refine vseq ?_
           refine vregion ?_
           refine vone rfl (vxq (vas rfl) rfl rfl ?_)
           refine vnil ?_
           refine vret (vr1 (H' := H) Tryd.func56 rfl (.tmp rfl) sb ?_)
           first | exact ⟨oI (broken_0 h9).symm, rfl⟩ | exact ⟨oI (broken_1 h9 ((bAt_of hz).trans h12)).symm, rfl⟩ | exact ⟨oI (broken_2 h9 ((bAt_of hz).trans h12) (nf h18)).symm, rfl⟩ | exact ⟨oI (broken_3 h9 ((bAt_of hz).trans h12) (nt h18) h26 (nf h23)).symm, rfl⟩ | exact ⟨oI (broken_4 h9 ((bAt_of hz).trans h12) (nt h18) (by first | (rintro ⟨e1, e2⟩; omega) | (rintro ⟨e1, e2⟩; exact absurd (nt h23) (by rw [e2]; decide))) (by omega)).symm, rfl⟩ | exact ⟨oI (broken_ok h9 ((bAt_of hz).trans h12) (nt h18) (by first | (rintro ⟨e1, e2⟩; omega) | (rintro ⟨e1, e2⟩; exact absurd (nt h23) (by rw [e2]; decide))) (by omega)).symm, rfl⟩
        ·
         refine vno rfl rfl rfl rfl rfl ?_
         refine vno rfl rfl rfl rfl rfl ?_
         refine vno rfl rfl rfl rfl rfl ?_
         refine vno rfl rfl rfl rfl rfl ?_
         refine vno rfl rfl rfl rfl rfl ?_
         refine vone rfl (vxq (vpkf rfl rfl) rfl rfl ?_)
         refine vone rfl (vxq (vmv rfl) rfl rfl ?_)
         refine vno rfl rfl rfl rfl rfl ?_
         refine vno rfl rfl rfl rfl rfl ?_
         refine vno rfl rfl rfl rfl rfl ?_
         refine vno rfl rfl rfl rfl rfl ?_
         refine vno rfl rfl rfl rfl rfl ?_
         refine vone rfl (vxq (vpkf rfl rfl) rfl rfl ?_)
         refine vone rfl (vxq (vas rfl) rfl rfl ?_)
         refine vnil ?_
         refine vcondf rfl ?_
         refine vseq ?_
         refine vregion ?_
         refine vone rfl (vxq (vmv rfl) rfl rfl ?_)
         refine vone rfl (vxq (vldn rfl rfl) rfl rfl ?_)
         refine vone rfl (vxq (vcp rfl rfl rfl (c_full L g hokw0)) rfl rfl ?_)
         refine vone rfl (vxq (veql rfl rfl) rfl rfl ?_)
         refine vone rfl (vxq (vmv rfl) rfl rfl ?_)
         refine vsplitd (d := 61) rfl (fun h61 => ?_) (fun h61 => ?_)
         ·
          refine vyes rfl rfl rfl (vxq (vfa rfl) rfl rfl ?_)
          refine vyes rfl rfl rfl (vxq (vld1 rfl rfl) rfl rfl ?_)
          refine vyes rfl rfl rfl (vxq (vfa rfl) rfl rfl ?_)
          refine vyes rfl rfl rfl (vxq (vfa rfl) rfl rfl ?_)
          refine vyes rfl rfl rfl (vxq (vld1 rfl rfl) rfl rfl ?_)
          refine vyes rfl rfl rfl (vxq (vlss rfl rfl) rfl rfl ?_)
          refine vone rfl (vxq (vpkt rfl rfl) rfl rfl ?_)
          refine vone rfl (vxq (vmv rfl) rfl rfl ?_)
          refine vsplitd (d := 69) rfl (fun h69 => ?_) (fun h69 => ?_)
          ·
           refine vyes rfl rfl rfl (vxq (vfa rfl) rfl rfl ?_)
           refine vyes rfl rfl rfl (vxq (vld1 rfl rfl) rfl rfl ?_)
           refine vyes rfl rfl rfl (vxq (vlss rfl rfl) rfl rfl ?_)
           refine vone rfl (vxq (vpkt rfl rfl) rfl rfl ?_)
           refine vone rfl (vxq (vas rfl) rfl rfl ?_)
           refine vnil ?_
           refine vcondd rfl (fun h56 => ?_) (fun h56 => ?_)
           ·
            refine vseq ?_
            refine vregion ?_
            refine vone rfl (vxq (vas rfl) rfl rfl ?_)
            refine vnil ?_
            refine vret (vr1 (H' := H) Tryd.func56 rfl (.tmp rfl) sb ?_)
            first | exact ⟨oI (broken_0 h9).symm, rfl⟩ | exact ⟨oI (broken_1 h9 ((bAt_of hz).trans h12)).symm, rfl⟩ | exact ⟨oI (broken_2 h9 ((bAt_of hz).trans h12) (nf h18)).symm, rfl⟩ | exact ⟨oI (broken_3 h9 ((bAt_of hz).trans h12) (nt h18) h26 (nf h23)).symm, rfl⟩ | exact ⟨oI (broken_4 h9 ((bAt_of hz).trans h12) (nt h18) (by first | (rintro ⟨e1, e2⟩; omega) | (rintro ⟨e1, e2⟩; exact absurd (nt h23) (by rw [e2]; decide))) (by omega)).symm, rfl⟩ | exact ⟨oI (broken_ok h9 ((bAt_of hz).trans h12) (nt h18) (by first | (rintro ⟨e1, e2⟩; omega) | (rintro ⟨e1, e2⟩; exact absurd (nt h23) (by rw [e2]; decide))) (by omega)).symm, rfl⟩
           ·
            refine vskip ?_
            refine vinblock ?_
            refine vseq ?_
            refine vregion ?_
            refine vone rfl (vxq (vas rfl) rfl rfl ?_)
            refine vnil ?_
            refine vret (vr1 (H' := H) Tryd.func56 rfl (.tmp rfl) sb ?_)
            first | exact ⟨oI (broken_0 h9).symm, rfl⟩ | exact ⟨oI (broken_1 h9 ((bAt_of hz).trans h12)).symm, rfl⟩ | exact ⟨oI (broken_2 h9 ((bAt_of hz).trans h12) (nf h18)).symm, rfl⟩ | exact ⟨oI (broken_3 h9 ((bAt_of hz).trans h12) (nt h18) h26 (nf h23)).symm, rfl⟩ | exact ⟨oI (broken_4 h9 ((bAt_of hz).trans h12) (nt h18) (by first | (rintro ⟨e1, e2⟩; omega) | (rintro ⟨e1, e2⟩; exact absurd (nt h23) (by rw [e2]; decide))) (by omega)).symm, rfl⟩ | exact ⟨oI (broken_ok h9 ((bAt_of hz).trans h12) (nt h18) (by first | (rintro ⟨e1, e2⟩; omega) | (rintro ⟨e1, e2⟩; exact absurd (nt h23) (by rw [e2]; decide))) (by omega)).symm, rfl⟩
          ·
           refine vno rfl rfl rfl rfl rfl ?_
           refine vno rfl rfl rfl rfl rfl ?_
           refine vno rfl rfl rfl rfl rfl ?_
           refine vone rfl (vxq (vpkf rfl rfl) rfl rfl ?_)
           refine vone rfl (vxq (vas rfl) rfl rfl ?_)
           refine vnil ?_
           refine vcondf rfl ?_
           refine vskip ?_
           refine vinblock ?_
           refine vseq ?_
           refine vregion ?_
           refine vone rfl (vxq (vas rfl) rfl rfl ?_)
           refine vnil ?_
           refine vret (vr1 (H' := H) Tryd.func56 rfl (.tmp rfl) sb ?_)
           first | exact ⟨oI (broken_0 h9).symm, rfl⟩ | exact ⟨oI (broken_1 h9 ((bAt_of hz).trans h12)).symm, rfl⟩ | exact ⟨oI (broken_2 h9 ((bAt_of hz).trans h12) (nf h18)).symm, rfl⟩ | exact ⟨oI (broken_3 h9 ((bAt_of hz).trans h12) (nt h18) h26 (nf h23)).symm, rfl⟩ | exact ⟨oI (broken_4 h9 ((bAt_of hz).trans h12) (nt h18) (by first | (rintro ⟨e1, e2⟩; omega) | (rintro ⟨e1, e2⟩; exact absurd (nt h23) (by rw [e2]; decide))) (by omega)).symm, rfl⟩ | exact ⟨oI (broken_ok h9 ((bAt_of hz).trans h12) (nt h18) (by first | (rintro ⟨e1, e2⟩; omega) | (rintro ⟨e1, e2⟩; exact absurd (nt h23) (by rw [e2]; decide))) (by omega)).symm, rfl⟩
         ·
          refine vno rfl rfl rfl rfl rfl ?_
          refine vno rfl rfl rfl rfl rfl ?_
          refine vno rfl rfl rfl rfl rfl ?_
          refine vno rfl rfl rfl rfl rfl ?_
          refine vno rfl rfl rfl rfl rfl ?_
          refine vno rfl rfl rfl rfl rfl ?_
          refine vone rfl (vxq (vpkf rfl rfl) rfl rfl ?_)
          refine vone rfl (vxq (vmv rfl) rfl rfl ?_)
          refine vno rfl rfl rfl rfl rfl ?_
          refine vno rfl rfl rfl rfl rfl ?_
          refine vno rfl rfl rfl rfl rfl ?_
          refine vone rfl (vxq (vpkf rfl rfl) rfl rfl ?_)
          refine vone rfl (vxq (vas rfl) rfl rfl ?_)
          refine vnil ?_
          refine vcondf rfl ?_
          refine vskip ?_
          refine vinblock ?_
          refine vseq ?_
          refine vregion ?_
          refine vone rfl (vxq (vas rfl) rfl rfl ?_)
          refine vnil ?_
          refine vret (vr1 (H' := H) Tryd.func56 rfl (.tmp rfl) sb ?_)
          first | exact ⟨oI (broken_0 h9).symm, rfl⟩ | exact ⟨oI (broken_1 h9 ((bAt_of hz).trans h12)).symm, rfl⟩ | exact ⟨oI (broken_2 h9 ((bAt_of hz).trans h12) (nf h18)).symm, rfl⟩ | exact ⟨oI (broken_3 h9 ((bAt_of hz).trans h12) (nt h18) h26 (nf h23)).symm, rfl⟩ | exact ⟨oI (broken_4 h9 ((bAt_of hz).trans h12) (nt h18) (by first | (rintro ⟨e1, e2⟩; omega) | (rintro ⟨e1, e2⟩; exact absurd (nt h23) (by rw [e2]; decide))) (by omega)).symm, rfl⟩ | exact ⟨oI (broken_ok h9 ((bAt_of hz).trans h12) (nt h18) (by first | (rintro ⟨e1, e2⟩; omega) | (rintro ⟨e1, e2⟩; exact absurd (nt h23) (by rw [e2]; decide))) (by omega)).symm, rfl⟩
      ·
       refine vno rfl rfl rfl rfl rfl ?_
       refine vno rfl rfl rfl rfl rfl ?_
       refine vno rfl rfl rfl rfl rfl ?_
       refine vone rfl (vxq (vpkf rfl rfl) rfl rfl ?_)
       refine vone rfl (vxq (vas rfl) rfl rfl ?_)
       refine vnil ?_
       refine vcondf rfl ?_
       refine vregion ?_
       refine vone rfl (vxq (vmv rfl) rfl rfl ?_)
       refine vone rfl (vxq (vgtr rfl rfl) rfl rfl ?_)
       refine vone rfl (vxq (vmv rfl) rfl rfl ?_)
       refine vsplitd (d := 42) rfl (fun h42 => ?_) (fun h42 => ?_)
       ·
        refine vyes rfl rfl rfl (vxq (vmv rfl) rfl rfl ?_)
        refine vyes rfl rfl rfl (vxq (vfa rfl) rfl rfl ?_)
        refine vyes rfl rfl rfl (vxq (vfa rfl) rfl rfl ?_)
        refine vyes rfl rfl rfl (vxq (vld1 rfl rfl) rfl rfl ?_)
        refine vyes rfl rfl rfl (vxq (vleq rfl rfl) rfl rfl ?_)
        refine vone rfl (vxq (vpkt rfl rfl) rfl rfl ?_)
        refine vone rfl (vxq (vmv rfl) rfl rfl ?_)
        refine vsplitd (d := 49) rfl (fun h49 => ?_) (fun h49 => ?_)
        ·
         refine vyes rfl rfl rfl (vxq (vfa rfl) rfl rfl ?_)
         refine vyes rfl rfl rfl (vxq (vld1 rfl rfl) rfl rfl ?_)
         refine vyes rfl rfl rfl (vxq (vmv rfl) rfl rfl ?_)
         refine vyes rfl rfl rfl (vxq (vsub rfl rfl (by unfold InR; omega)) rfl rfl ?_)
         refine vyes rfl rfl rfl (vxq (vneq rfl rfl) rfl rfl ?_)
         refine vone rfl (vxq (vpkt rfl rfl) rfl rfl ?_)
         refine vone rfl (vxq (vas rfl) rfl rfl ?_)
         refine vnil ?_
         refine vcondd rfl (fun h32 => ?_) (fun h32 => ?_)
         ·
          refine vseq ?_
          refine vregion ?_
          refine vone rfl (vxq (vas rfl) rfl rfl ?_)
          refine vnil ?_
          refine vret (vr1 (H' := H) Tryd.func56 rfl (.tmp rfl) sb ?_)
          first | exact ⟨oI (broken_0 h9).symm, rfl⟩ | exact ⟨oI (broken_1 h9 ((bAt_of hz).trans h12)).symm, rfl⟩ | exact ⟨oI (broken_2 h9 ((bAt_of hz).trans h12) (nf h18)).symm, rfl⟩ | exact ⟨oI (broken_3 h9 ((bAt_of hz).trans h12) (nt h18) h26 (nf h23)).symm, rfl⟩ | exact ⟨oI (broken_4 h9 ((bAt_of hz).trans h12) (nt h18) (by first | (rintro ⟨e1, e2⟩; omega) | (rintro ⟨e1, e2⟩; exact absurd (nt h23) (by rw [e2]; decide))) (by omega)).symm, rfl⟩ | exact ⟨oI (broken_ok h9 ((bAt_of hz).trans h12) (nt h18) (by first | (rintro ⟨e1, e2⟩; omega) | (rintro ⟨e1, e2⟩; exact absurd (nt h23) (by rw [e2]; decide))) (by omega)).symm, rfl⟩
         ·
          refine vseq ?_
          refine vregion ?_
          refine vone rfl (vxq (vmv rfl) rfl rfl ?_)
          refine vone rfl (vxq (vldn rfl rfl) rfl rfl ?_)
          refine vone rfl (vxq (vcp rfl rfl rfl (c_full L g hokw0)) rfl rfl ?_)
          refine vone rfl (vxq (veql rfl rfl) rfl rfl ?_)
          refine vone rfl (vxq (vmv rfl) rfl rfl ?_)
          refine vsplitd (d := 61) rfl (fun h61 => ?_) (fun h61 => ?_)
          ·
           refine vyes rfl rfl rfl (vxq (vfa rfl) rfl rfl ?_)
           refine vyes rfl rfl rfl (vxq (vld1 rfl rfl) rfl rfl ?_)
           refine vyes rfl rfl rfl (vxq (vfa rfl) rfl rfl ?_)
           refine vyes rfl rfl rfl (vxq (vfa rfl) rfl rfl ?_)
           refine vyes rfl rfl rfl (vxq (vld1 rfl rfl) rfl rfl ?_)
           refine vyes rfl rfl rfl (vxq (vlss rfl rfl) rfl rfl ?_)
           refine vone rfl (vxq (vpkt rfl rfl) rfl rfl ?_)
           refine vone rfl (vxq (vmv rfl) rfl rfl ?_)
           refine vsplitd (d := 69) rfl (fun h69 => ?_) (fun h69 => ?_)
           ·
            refine vyes rfl rfl rfl (vxq (vfa rfl) rfl rfl ?_)
            refine vyes rfl rfl rfl (vxq (vld1 rfl rfl) rfl rfl ?_)
            refine vyes rfl rfl rfl (vxq (vlss rfl rfl) rfl rfl ?_)
            refine vone rfl (vxq (vpkt rfl rfl) rfl rfl ?_)
            refine vone rfl (vxq (vas rfl) rfl rfl ?_)
            refine vnil ?_
            refine vcondd rfl (fun h56 => ?_) (fun h56 => ?_)
            ·
             refine vseq ?_
             refine vregion ?_
             refine vone rfl (vxq (vas rfl) rfl rfl ?_)
             refine vnil ?_
             refine vret (vr1 (H' := H) Tryd.func56 rfl (.tmp rfl) sb ?_)
             first | exact ⟨oI (broken_0 h9).symm, rfl⟩ | exact ⟨oI (broken_1 h9 ((bAt_of hz).trans h12)).symm, rfl⟩ | exact ⟨oI (broken_2 h9 ((bAt_of hz).trans h12) (nf h18)).symm, rfl⟩ | exact ⟨oI (broken_3 h9 ((bAt_of hz).trans h12) (nt h18) h26 (nf h23)).symm, rfl⟩ | exact ⟨oI (broken_4 h9 ((bAt_of hz).trans h12) (nt h18) (by first | (rintro ⟨e1, e2⟩; omega) | (rintro ⟨e1, e2⟩; exact absurd (nt h23) (by rw [e2]; decide))) (by omega)).symm, rfl⟩ | exact ⟨oI (broken_ok h9 ((bAt_of hz).trans h12) (nt h18) (by first | (rintro ⟨e1, e2⟩; omega) | (rintro ⟨e1, e2⟩; exact absurd (nt h23) (by rw [e2]; decide))) (by omega)).symm, rfl⟩
            ·
             refine vskip ?_
             refine vinblock ?_
             refine vseq ?_
             refine vregion ?_
             refine vone rfl (vxq (vas rfl) rfl rfl ?_)
             refine vnil ?_
             refine vret (vr1 (H' := H) Tryd.func56 rfl (.tmp rfl) sb ?_)
             first | exact ⟨oI (broken_0 h9).symm, rfl⟩ | exact ⟨oI (broken_1 h9 ((bAt_of hz).trans h12)).symm, rfl⟩ | exact ⟨oI (broken_2 h9 ((bAt_of hz).trans h12) (nf h18)).symm, rfl⟩ | exact ⟨oI (broken_3 h9 ((bAt_of hz).trans h12) (nt h18) h26 (nf h23)).symm, rfl⟩ | exact ⟨oI (broken_4 h9 ((bAt_of hz).trans h12) (nt h18) (by first | (rintro ⟨e1, e2⟩; omega) | (rintro ⟨e1, e2⟩; exact absurd (nt h23) (by rw [e2]; decide))) (by omega)).symm, rfl⟩ | exact ⟨oI (broken_ok h9 ((bAt_of hz).trans h12) (nt h18) (by first | (rintro ⟨e1, e2⟩; omega) | (rintro ⟨e1, e2⟩; exact absurd (nt h23) (by rw [e2]; decide))) (by omega)).symm, rfl⟩
           ·
            refine vno rfl rfl rfl rfl rfl ?_
            refine vno rfl rfl rfl rfl rfl ?_
            refine vno rfl rfl rfl rfl rfl ?_
            refine vone rfl (vxq (vpkf rfl rfl) rfl rfl ?_)
            refine vone rfl (vxq (vas rfl) rfl rfl ?_)
            refine vnil ?_
            refine vcondf rfl ?_
            refine vskip ?_
            refine vinblock ?_
            refine vseq ?_
            refine vregion ?_
            refine vone rfl (vxq (vas rfl) rfl rfl ?_)
            refine vnil ?_
            refine vret (vr1 (H' := H) Tryd.func56 rfl (.tmp rfl) sb ?_)
            first | exact ⟨oI (broken_0 h9).symm, rfl⟩ | exact ⟨oI (broken_1 h9 ((bAt_of hz).trans h12)).symm, rfl⟩ | exact ⟨oI (broken_2 h9 ((bAt_of hz).trans h12) (nf h18)).symm, rfl⟩ | exact ⟨oI (broken_3 h9 ((bAt_of hz).trans h12) (nt h18) h26 (nf h23)).symm, rfl⟩ | exact ⟨oI (broken_4 h9 ((bAt_of hz).trans h12) (nt h18) (by first | (rintro ⟨e1, e2⟩; omega) | (rintro ⟨e1, e2⟩; exact absurd (nt h23) (by rw [e2]; decide))) (by omega)).symm, rfl⟩ | exact ⟨oI (broken_ok h9 ((bAt_of hz).trans h12) (nt h18) (by first | (rintro ⟨e1, e2⟩; omega) | (rintro ⟨e1, e2⟩; exact absurd (nt h23) (by rw [e2]; decide))) (by omega)).symm, rfl⟩
          ·
           refine vno rfl rfl rfl rfl rfl ?_
           refine vno rfl rfl rfl rfl rfl ?_
           refine vno rfl rfl rfl rfl rfl ?_
           refine vno rfl rfl rfl rfl rfl ?_
           refine vno rfl rfl rfl rfl rfl ?_
           refine vno rfl rfl rfl rfl rfl ?_
           refine vone rfl (vxq (vpkf rfl rfl) rfl rfl ?_)
           refine vone rfl (vxq (vmv rfl) rfl rfl ?_)
           refine vno rfl rfl rfl rfl rfl ?_
           refine vno rfl rfl rfl rfl rfl ?_
           refine vno rfl rfl rfl rfl rfl ?_
           refine vone rfl (vxq (vpkf rfl rfl) rfl rfl ?_)
           refine vone rfl (vxq (vas rfl) rfl rfl ?_)
           refine vnil ?_
           refine vcondf rfl ?_
           refine vskip ?_
           refine vinblock ?_
           refine vseq ?_
           refine vregion ?_
           refine vone rfl (vxq (vas rfl) rfl rfl ?_)
           refine vnil ?_
           refine vret (vr1 (H' := H) Tryd.func56 rfl (.tmp rfl) sb ?_)
           first | exact ⟨oI (broken_0 h9).symm, rfl⟩ | exact ⟨oI (broken_1 h9 ((bAt_of hz).trans h12)).symm, rfl⟩ | exact ⟨oI (broken_2 h9 ((bAt_of hz).trans h12) (nf h18)).symm, rfl⟩ | exact ⟨oI (broken_3 h9 ((bAt_of hz).trans h12) (nt h18) h26 (nf h23)).symm, rfl⟩ | exact ⟨oI (broken_4 h9 ((bAt_of hz).trans h12) (nt h18) (by first | (rintro ⟨e1, e2⟩; omega) | (rintro ⟨e1, e2⟩; exact absurd (nt h23) (by rw [e2]; decide))) (by omega)).symm, rfl⟩ | exact ⟨oI (broken_ok h9 ((bAt_of hz).trans h12) (nt h18) (by first | (rintro ⟨e1, e2⟩; omega) | (rintro ⟨e1, e2⟩; exact absurd (nt h23) (by rw [e2]; decide))) (by omega)).symm, rfl⟩
        ·
         refine vno rfl rfl rfl rfl rfl ?_
         refine vno rfl rfl rfl rfl rfl ?_
         refine vno rfl rfl rfl rfl rfl ?_
         refine vno rfl rfl rfl rfl rfl ?_
         refine vno rfl rfl rfl rfl rfl ?_
         refine vone rfl (vxq (vpkf rfl rfl) rfl rfl ?_)
         refine vone rfl (vxq (vas rfl) rfl rfl ?_)
         refine vnil ?_
         refine vcondf rfl ?_
         refine vseq ?_
         refine vregion ?_
         refine vone rfl (vxq (vmv rfl) rfl rfl ?_)
         refine vone rfl (vxq (vldn rfl rfl) rfl rfl ?_)
         refine vone rfl (vxq (vcp rfl rfl rfl (c_full L g hokw0)) rfl rfl ?_)
         refine vone rfl (vxq (veql rfl rfl) rfl rfl ?_)
         refine vone rfl (vxq (vmv rfl) rfl rfl ?_)
         refine vsplitd (d := 61) rfl (fun h61 => ?_) (fun h61 => ?_)
         ·
          refine vyes rfl rfl rfl (vxq (vfa rfl) rfl rfl ?_)
          refine vyes rfl rfl rfl (vxq (vld1 rfl rfl) rfl rfl ?_)
          refine vyes rfl rfl rfl (vxq (vfa rfl) rfl rfl ?_)
          refine vyes rfl rfl rfl (vxq (vfa rfl) rfl rfl ?_)
          refine vyes rfl rfl rfl (vxq (vld1 rfl rfl) rfl rfl ?_)
          refine vyes rfl rfl rfl (vxq (vlss rfl rfl) rfl rfl ?_)
          refine vone rfl (vxq (vpkt rfl rfl) rfl rfl ?_)
          refine vone rfl (vxq (vmv rfl) rfl rfl ?_)
          refine vsplitd (d := 69) rfl (fun h69 => ?_) (fun h69 => ?_)
          ·
           refine vyes rfl rfl rfl (vxq (vfa rfl) rfl rfl ?_)
           refine vyes rfl rfl rfl (vxq (vld1 rfl rfl) rfl rfl ?_)
           refine vyes rfl rfl rfl (vxq (vlss rfl rfl) rfl rfl ?_)
           refine vone rfl (vxq (vpkt rfl rfl) rfl rfl ?_)
           refine vone rfl (vxq (vas rfl) rfl rfl ?_)
           refine vnil ?_
           refine vcondd rfl (fun h56 => ?_) (fun h56 => ?_)
           ·
            refine vseq ?_
            refine vregion ?_
            refine vone rfl (vxq (vas rfl) rfl rfl ?_)
            refine vnil ?_
            refine vret (vr1 (H' := H) Tryd.func56 rfl (.tmp rfl) sb ?_)
            first | exact ⟨oI (broken_0 h9).symm, rfl⟩ | exact ⟨oI (broken_1 h9 ((bAt_of hz).trans h12)).symm, rfl⟩ | exact ⟨oI (broken_2 h9 ((bAt_of hz).trans h12) (nf h18)).symm, rfl⟩ | exact ⟨oI (broken_3 h9 ((bAt_of hz).trans h12) (nt h18) h26 (nf h23)).symm, rfl⟩ | exact ⟨oI (broken_4 h9 ((bAt_of hz).trans h12) (nt h18) (by first | (rintro ⟨e1, e2⟩; omega) | (rintro ⟨e1, e2⟩; exact absurd (nt h23) (by rw [e2]; decide))) (by omega)).symm, rfl⟩ | exact ⟨oI (broken_ok h9 ((bAt_of hz).trans h12) (nt h18) (by first | (rintro ⟨e1, e2⟩; omega) | (rintro ⟨e1, e2⟩; exact absurd (nt h23) (by rw [e2]; decide))) (by omega)).symm, rfl⟩
           ·
            refine vskip ?_
            refine vinblock ?_
            refine vseq ?_
            refine vregion ?_
            refine vone rfl (vxq (vas rfl) rfl rfl ?_)
            refine vnil ?_
            refine vret (vr1 (H' := H) Tryd.func56 rfl (.tmp rfl) sb ?_)
            first | exact ⟨oI (broken_0 h9).symm, rfl⟩ | exact ⟨oI (broken_1 h9 ((bAt_of hz).trans h12)).symm, rfl⟩ | exact ⟨oI (broken_2 h9 ((bAt_of hz).trans h12) (nf h18)).symm, rfl⟩ | exact ⟨oI (broken_3 h9 ((bAt_of hz).trans h12) (nt h18) h26 (nf h23)).symm, rfl⟩ | exact ⟨oI (broken_4 h9 ((bAt_of hz).trans h12) (nt h18) (by first | (rintro ⟨e1, e2⟩; omega) | (rintro ⟨e1, e2⟩; exact absurd (nt h23) (by rw [e2]; decide))) (by omega)).symm, rfl⟩ | exact ⟨oI (broken_ok h9 ((bAt_of hz).trans h12) (nt h18) (by first | (rintro ⟨e1, e2⟩; omega) | (rintro ⟨e1, e2⟩; exact absurd (nt h23) (by rw [e2]; decide))) (by omega)).symm, rfl⟩
          ·
           refine vno rfl rfl rfl rfl rfl ?_
           refine vno rfl rfl rfl rfl rfl ?_
           refine vno rfl rfl rfl rfl rfl ?_
           refine vone rfl (vxq (vpkf rfl rfl) rfl rfl ?_)
           refine vone rfl (vxq (vas rfl) rfl rfl ?_)
           refine vnil ?_
           refine vcondf rfl ?_
           refine vskip ?_
           refine vinblock ?_
           refine vseq ?_
           refine vregion ?_
           refine vone rfl (vxq (vas rfl) rfl rfl ?_)
           refine vnil ?_
           refine vret (vr1 (H' := H) Tryd.func56 rfl (.tmp rfl) sb ?_)
           first | exact ⟨oI (broken_0 h9).symm, rfl⟩ | exact ⟨oI (broken_1 h9 ((bAt_of hz).trans h12)).symm, rfl⟩ | exact ⟨oI (broken_2 h9 ((bAt_of hz).trans h12) (nf h18)).symm, rfl⟩ | exact ⟨oI (broken_3 h9 ((bAt_of hz).trans h12) (nt h18) h26 (nf h23)).symm, rfl⟩ | exact ⟨oI (broken_4 h9 ((bAt_of hz).trans h12) (nt h18) (by first | (rintro ⟨e1, e2⟩; omega) | (rintro ⟨e1, e2⟩; exact absurd (nt h23) (by rw [e2]; decide))) (by omega)).symm, rfl⟩ | exact ⟨oI (broken_ok h9 ((bAt_of hz).trans h12) (nt h18) (by first | (rintro ⟨e1, e2⟩; omega) | (rintro ⟨e1, e2⟩; exact absurd (nt h23) (by rw [e2]; decide))) (by omega)).symm, rfl⟩
         ·
          refine vno rfl rfl rfl rfl rfl ?_
          refine vno rfl rfl rfl rfl rfl ?_
          refine vno rfl rfl rfl rfl rfl ?_
          refine vno rfl rfl rfl rfl rfl ?_
          refine vno rfl rfl rfl rfl rfl ?_
          refine vno rfl rfl rfl rfl rfl ?_
          refine vone rfl (vxq (vpkf rfl rfl) rfl rfl ?_)
          refine vone rfl (vxq (vmv rfl) rfl rfl ?_)
          refine vno rfl rfl rfl rfl rfl ?_
          refine vno rfl rfl rfl rfl rfl ?_
          refine vno rfl rfl rfl rfl rfl ?_
          refine vone rfl (vxq (vpkf rfl rfl) rfl rfl ?_)
          refine vone rfl (vxq (vas rfl) rfl rfl ?_)
          refine vnil ?_
          refine vcondf rfl ?_
          refine vskip ?_
          refine vinblock ?_
          refine vseq ?_
          refine vregion ?_
          refine vone rfl (vxq (vas rfl) rfl rfl ?_)
          refine vnil ?_
          refine vret (vr1 (H' := H) Tryd.func56 rfl (.tmp rfl) sb ?_)
          first | exact ⟨oI (broken_0 h9).symm, rfl⟩ | exact ⟨oI (broken_1 h9 ((bAt_of hz).trans h12)).symm, rfl⟩ | exact ⟨oI (broken_2 h9 ((bAt_of hz).trans h12) (nf h18)).symm, rfl⟩ | exact ⟨oI (broken_3 h9 ((bAt_of hz).trans h12) (nt h18) h26 (nf h23)).symm, rfl⟩ | exact ⟨oI (broken_4 h9 ((bAt_of hz).trans h12) (nt h18) (by first | (rintro ⟨e1, e2⟩; omega) | (rintro ⟨e1, e2⟩; exact absurd (nt h23) (by rw [e2]; decide))) (by omega)).symm, rfl⟩ | exact ⟨oI (broken_ok h9 ((bAt_of hz).trans h12) (nt h18) (by first | (rintro ⟨e1, e2⟩; omega) | (rintro ⟨e1, e2⟩; exact absurd (nt h23) (by rw [e2]; decide))) (by omega)).symm, rfl⟩
       ·
        refine vno rfl rfl rfl rfl rfl ?_
        refine vno rfl rfl rfl rfl rfl ?_
        refine vno rfl rfl rfl rfl rfl ?_
        refine vno rfl rfl rfl rfl rfl ?_
        refine vno rfl rfl rfl rfl rfl ?_
        refine vone rfl (vxq (vpkf rfl rfl) rfl rfl ?_)
        refine vone rfl (vxq (vmv rfl) rfl rfl ?_)
        refine vno rfl rfl rfl rfl rfl ?_
        refine vno rfl rfl rfl rfl rfl ?_
        refine vno rfl rfl rfl rfl rfl ?_
        refine vno rfl rfl rfl rfl rfl ?_
        refine vno rfl rfl rfl rfl rfl ?_
        refine vone rfl (vxq (vpkf rfl rfl) rfl rfl ?_)
        refine vone rfl (vxq (vas rfl) rfl rfl ?_)
        refine vnil ?_
        refine vcondf rfl ?_
        refine vseq ?_
        refine vregion ?_
        refine vone rfl (vxq (vmv rfl) rfl rfl ?_)
        refine vone rfl (vxq (vldn rfl rfl) rfl rfl ?_)
        refine vone rfl (vxq (vcp rfl rfl rfl (c_full L g hokw0)) rfl rfl ?_)
        refine vone rfl (vxq (veql rfl rfl) rfl rfl ?_)
        refine vone rfl (vxq (vmv rfl) rfl rfl ?_)
        refine vsplitd (d := 61) rfl (fun h61 => ?_) (fun h61 => ?_)
        ·
         refine vyes rfl rfl rfl (vxq (vfa rfl) rfl rfl ?_)
         refine vyes rfl rfl rfl (vxq (vld1 rfl rfl) rfl rfl ?_)
         refine vyes rfl rfl rfl (vxq (vfa rfl) rfl rfl ?_)
         refine vyes rfl rfl rfl (vxq (vfa rfl) rfl rfl ?_)
         refine vyes rfl rfl rfl (vxq (vld1 rfl rfl) rfl rfl ?_)
         refine vyes rfl rfl rfl (vxq (vlss rfl rfl) rfl rfl ?_)
         refine vone rfl (vxq (vpkt rfl rfl) rfl rfl ?_)
         refine vone rfl (vxq (vmv rfl) rfl rfl ?_)
         refine vsplitd (d := 69) rfl (fun h69 => ?_) (fun h69 => ?_)
         ·
          refine vyes rfl rfl rfl (vxq (vfa rfl) rfl rfl ?_)
          refine vyes rfl rfl rfl (vxq (vld1 rfl rfl) rfl rfl ?_)
          refine vyes rfl rfl rfl (vxq (vlss rfl rfl) rfl rfl ?_)
          refine vone rfl (vxq (vpkt rfl rfl) rfl rfl ?_)
          refine vone rfl (vxq (vas rfl) rfl rfl ?_)
          refine vnil ?_
          refine vcondd rfl (fun h56 => ?_) (fun h56 => ?_)
          ·
           refine vseq ?_
           refine vregion ?_
           refine vone rfl (vxq (vas rfl) rfl rfl ?_)
           refine vnil ?_
           refine vret (vr1 (H' := H) Tryd.func56 rfl (.tmp rfl) sb ?_)
           first | exact ⟨oI (broken_0 h9).symm, rfl⟩ | exact ⟨oI (broken_1 h9 ((bAt_of hz).trans h12)).symm, rfl⟩ | exact ⟨oI (broken_2 h9 ((bAt_of hz).trans h12) (nf h18)).symm, rfl⟩ | exact ⟨oI (broken_3 h9 ((bAt_of hz).trans h12) (nt h18) h26 (nf h23)).symm, rfl⟩ | exact ⟨oI (broken_4 h9 ((bAt_of hz).trans h12) (nt h18) (by first | (rintro ⟨e1, e2⟩; omega) | (rintro ⟨e1, e2⟩; exact absurd (nt h23) (by rw [e2]; decide))) (by omega)).symm, rfl⟩ | exact ⟨oI (broken_ok h9 ((bAt_of hz).trans h12) (nt h18) (by first | (rintro ⟨e1, e2⟩; omega) | (rintro ⟨e1, e2⟩; exact absurd (nt h23) (by rw [e2]; decide))) (by omega)).symm, rfl⟩
          ·
           refine vskip ?_
           refine vinblock ?_
           refine vseq ?_
           refine vregion ?_
           refine vone rfl (vxq (vas rfl) rfl rfl ?_)
           refine vnil ?_
           refine vret (vr1 (H' := H) Tryd.func56 rfl (.tmp rfl) sb ?_)
           first | exact ⟨oI (broken_0 h9).symm, rfl⟩ | exact ⟨oI (broken_1 h9 ((bAt_of hz).trans h12)).symm, rfl⟩ | exact ⟨oI (broken_2 h9 ((bAt_of hz).trans h12) (nf h18)).symm, rfl⟩ | exact ⟨oI (broken_3 h9 ((bAt_of hz).trans h12) (nt h18) h26 (nf h23)).symm, rfl⟩ | exact ⟨oI (broken_4 h9 ((bAt_of hz).trans h12) (nt h18) (by first | (rintro ⟨e1, e2⟩; omega) | (rintro ⟨e1, e2⟩; exact absurd (nt h23) (by rw [e2]; decide))) (by omega)).symm, rfl⟩ | exact ⟨oI (broken_ok h9 ((bAt_of hz).trans h12) (nt h18) (by first | (rintro ⟨e1, e2⟩; omega) | (rintro ⟨e1, e2⟩; exact absurd (nt h23) (by rw [e2]; decide))) (by omega)).symm, rfl⟩
         ·
          refine vno rfl rfl rfl rfl rfl ?_
          refine vno rfl rfl rfl rfl rfl ?_
          refine vno rfl rfl rfl rfl rfl ?_
          refine vone rfl (vxq (vpkf rfl rfl) rfl rfl ?_)
          refine vone rfl (vxq (vas rfl) rfl rfl ?_)
          refine vnil ?_
          refine vcondf rfl ?_
          refine vskip ?_
          refine vinblock ?_
          refine vseq ?_
          refine vregion ?_
          refine vone rfl (vxq (vas rfl) rfl rfl ?_)
          refine vnil ?_
          refine vret (vr1 (H' := H) Tryd.func56 rfl (.tmp rfl) sb ?_)
          first | exact ⟨oI (broken_0 h9).symm, rfl⟩ | exact ⟨oI (broken_1 h9 ((bAt_of hz).trans h12)).symm, rfl⟩ | exact ⟨oI (broken_2 h9 ((bAt_of hz).trans h12) (nf h18)).symm, rfl⟩ | exact ⟨oI (broken_3 h9 ((bAt_of hz).trans h12) (nt h18) h26 (nf h23)).symm, rfl⟩ | exact ⟨oI (broken_4 h9 ((bAt_of hz).trans h12) (nt h18) (by first | (rintro ⟨e1, e2⟩; omega) | (rintro ⟨e1, e2⟩; exact absurd (nt h23) (by rw [e2]; decide))) (by omega)).symm, rfl⟩ | exact ⟨oI (broken_ok h9 ((bAt_of hz).trans h12) (nt h18) (by first | (rintro ⟨e1, e2⟩; omega) | (rintro ⟨e1, e2⟩; exact absurd (nt h23) (by rw [e2]; decide))) (by omega)).symm, rfl⟩
        ·
         refine vno rfl rfl rfl rfl rfl ?_
         refine vno rfl rfl rfl rfl rfl ?_
         refine vno rfl rfl rfl rfl rfl ?_
         refine vno rfl rfl rfl rfl rfl ?_
         refine vno rfl rfl rfl rfl rfl ?_
         refine vno rfl rfl rfl rfl rfl ?_
         refine vone rfl (vxq (vpkf rfl rfl) rfl rfl ?_)
         refine vone rfl (vxq (vmv rfl) rfl rfl ?_)
         refine vno rfl rfl rfl rfl rfl ?_
         refine vno rfl rfl rfl rfl rfl ?_
         refine vno rfl rfl rfl rfl rfl ?_
         refine vone rfl (vxq (vpkf rfl rfl) rfl rfl ?_)
         refine vone rfl (vxq (vas rfl) rfl rfl ?_)
         refine vnil ?_
         refine vcondf rfl ?_
         refine vskip ?_
         refine vinblock ?_
         refine vseq ?_
         refine vregion ?_
         refine vone rfl (vxq (vas rfl) rfl rfl ?_)
         refine vnil ?_
         refine vret (vr1 (H' := H) Tryd.func56 rfl (.tmp rfl) sb ?_)
         first | exact ⟨oI (broken_0 h9).symm, rfl⟩ | exact ⟨oI (broken_1 h9 ((bAt_of hz).trans h12)).symm, rfl⟩ | exact ⟨oI (broken_2 h9 ((bAt_of hz).trans h12) (nf h18)).symm, rfl⟩ | exact ⟨oI (broken_3 h9 ((bAt_of hz).trans h12) (nt h18) h26 (nf h23)).symm, rfl⟩ | exact ⟨oI (broken_4 h9 ((bAt_of hz).trans h12) (nt h18) (by first | (rintro ⟨e1, e2⟩; omega) | (rintro ⟨e1, e2⟩; exact absurd (nt h23) (by rw [e2]; decide))) (by omega)).symm, rfl⟩ | exact ⟨oI (broken_ok h9 ((bAt_of hz).trans h12) (nt h18) (by first | (rintro ⟨e1, e2⟩; omega) | (rintro ⟨e1, e2⟩; exact absurd (nt h23) (by rw [e2]; decide))) (by omega)).symm, rfl⟩
    ·
     refine vno rfl rfl rfl rfl rfl ?_
     refine vno rfl rfl rfl rfl rfl ?_
     refine vno rfl rfl rfl rfl rfl ?_
     refine vno rfl rfl rfl rfl rfl ?_
     refine vone rfl (vxq (vpkf rfl rfl) rfl rfl ?_)
     refine vone rfl (vxq (vas rfl) rfl rfl ?_)
     refine vnil ?_
     refine vcondf rfl ?_
     refine vseq ?_
     refine vseq ?_
     refine vregion ?_
     refine vone rfl (vxq (vmv rfl) rfl rfl ?_)
     refine vone rfl (vxq (veql rfl rfl) rfl rfl ?_)
     refine vone rfl (vxq (vmv rfl) rfl rfl ?_)
     refine vsplitd (d := 35) rfl (fun h35 => ?_) (fun h35 => ?_)
     ·
      refine vyes rfl rfl rfl (vxq (vfa rfl) rfl rfl ?_)
      refine vyes rfl rfl rfl (vxq (vld1 rfl rfl) rfl rfl ?_)
      refine vyes rfl rfl rfl (vxq (vneq rfl rfl) rfl rfl ?_)
      refine vone rfl (vxq (vpkt rfl rfl) rfl rfl ?_)
      refine vone rfl (vxq (vas rfl) rfl rfl ?_)
      refine vnil ?_
      refine vcondd rfl (fun h32 => ?_) (fun h32 => ?_)
      ·
       refine vskip ?_
       refine vcondd rfl (fun h32 => ?_) (fun h32 => ?_)
       ·
        refine vseq ?_
        refine vregion ?_
        refine vone rfl (vxq (vas rfl) rfl rfl ?_)
        refine vnil ?_
        refine vret (vr1 (H' := H) Tryd.func56 rfl (.tmp rfl) sb ?_)
        first | exact ⟨oI (broken_0 h9).symm, rfl⟩ | exact ⟨oI (broken_1 h9 ((bAt_of hz).trans h12)).symm, rfl⟩ | exact ⟨oI (broken_2 h9 ((bAt_of hz).trans h12) (nf h18)).symm, rfl⟩ | exact ⟨oI (broken_3 h9 ((bAt_of hz).trans h12) (nt h18) h26 (nf h23)).symm, rfl⟩ | exact ⟨oI (broken_4 h9 ((bAt_of hz).trans h12) (nt h18) (by first | (rintro ⟨e1, e2⟩; omega) | (rintro ⟨e1, e2⟩; exact absurd (nt h23) (by rw [e2]; decide))) (by omega)).symm, rfl⟩ | exact ⟨oI (broken_ok h9 ((bAt_of hz).trans h12) (nt h18) (by first | (rintro ⟨e1, e2⟩; omega) | (rintro ⟨e1, e2⟩; exact absurd (nt h23) (by rw [e2]; decide))) (by omega)).symm, rfl⟩
       ·
        refine vseq ?_
        refine vregion ?_
        refine vone rfl (vxq (vmv rfl) rfl rfl ?_)
        refine vone rfl (vxq (vldn rfl rfl) rfl rfl ?_)
        refine vone rfl (vxq (vcp rfl rfl rfl (c_full L g hokw0)) rfl rfl ?_)
        refine vone rfl (vxq (veql rfl rfl) rfl rfl ?_)
        refine vone rfl (vxq (vmv rfl) rfl rfl ?_)
        refine vsplitd (d := 61) rfl (fun h61 => ?_) (fun h61 => ?_)
        ·
         refine vyes rfl rfl rfl (vxq (vfa rfl) rfl rfl ?_)
         refine vyes rfl rfl rfl (vxq (vld1 rfl rfl) rfl rfl ?_)
         refine vyes rfl rfl rfl (vxq (vfa rfl) rfl rfl ?_)
         refine vyes rfl rfl rfl (vxq (vfa rfl) rfl rfl ?_)
         refine vyes rfl rfl rfl (vxq (vld1 rfl rfl) rfl rfl ?_)
         refine vyes rfl rfl rfl (vxq (vlss rfl rfl) rfl rfl ?_)
         refine vone rfl (vxq (vpkt rfl rfl) rfl rfl ?_)
         refine vone rfl (vxq (vmv rfl) rfl rfl ?_)
         refine vsplitd (d := 69) rfl (fun h69 => ?_) (fun h69 => ?_)
         ·
          refine vyes rfl rfl rfl (vxq (vfa rfl) rfl rfl ?_)
          refine vyes rfl rfl rfl (vxq (vld1 rfl rfl) rfl rfl ?_)
          refine vyes rfl rfl rfl (vxq (vlss rfl rfl) rfl rfl ?_)
          refine vone rfl (vxq (vpkt rfl rfl) rfl rfl ?_)
          refine vone rfl (vxq (vas rfl) rfl rfl ?_)
          refine vnil ?_
          refine vcondd rfl (fun h56 => ?_) (fun h56 => ?_)
          ·
           refine vseq ?_
           refine vregion ?_
           refine vone rfl (vxq (vas rfl) rfl rfl ?_)
           refine vnil ?_
           refine vret (vr1 (H' := H) Tryd.func56 rfl (.tmp rfl) sb ?_)
           first | exact ⟨oI (broken_0 h9).symm, rfl⟩ | exact ⟨oI (broken_1 h9 ((bAt_of hz).trans h12)).symm, rfl⟩ | exact ⟨oI (broken_2 h9 ((bAt_of hz).trans h12) (nf h18)).symm, rfl⟩ | exact ⟨oI (broken_3 h9 ((bAt_of hz).trans h12) (nt h18) h26 (nf h23)).symm, rfl⟩ | exact ⟨oI (broken_4 h9 ((bAt_of hz).trans h12) (nt h18) (by first | (rintro ⟨e1, e2⟩; omega) | (rintro ⟨e1, e2⟩; exact absurd (nt h23) (by rw [e2]; decide))) (by omega)).symm, rfl⟩ | exact ⟨oI (broken_ok h9 ((bAt_of hz).trans h12) (nt h18) (by first | (rintro ⟨e1, e2⟩; omega) | (rintro ⟨e1, e2⟩; exact absurd (nt h23) (by rw [e2]; decide))) (by omega)).symm, rfl⟩
          ·
           refine vskip ?_
           refine vinblock ?_
           refine vseq ?_
           refine vregion ?_
           refine vone rfl (vxq (vas rfl) rfl rfl ?_)
           refine vnil ?_
           refine vret (vr1 (H' := H) Tryd.func56 rfl (.tmp rfl) sb ?_)
           first | exact ⟨oI (broken_0 h9).symm, rfl⟩ | exact ⟨oI (broken_1 h9 ((bAt_of hz).trans h12)).symm, rfl⟩ | exact ⟨oI (broken_2 h9 ((bAt_of hz).trans h12) (nf h18)).symm, rfl⟩ | exact ⟨oI (broken_3 h9 ((bAt_of hz).trans h12) (nt h18) h26 (nf h23)).symm, rfl⟩ | exact ⟨oI (broken_4 h9 ((bAt_of hz).trans h12) (nt h18) (by first | (rintro ⟨e1, e2⟩; omega) | (rintro ⟨e1, e2⟩; exact absurd (nt h23) (by rw [e2]; decide))) (by omega)).symm, rfl⟩ | exact ⟨oI (broken_ok h9 ((bAt_of hz).trans h12) (nt h18) (by first | (rintro ⟨e1, e2⟩; omega) | (rintro ⟨e1, e2⟩; exact absurd (nt h23) (by rw [e2]; decide))) (by omega)).symm, rfl⟩
         ·
          refine vno rfl rfl rfl rfl rfl ?_
          refine vno rfl rfl rfl rfl rfl ?_
          refine vno rfl rfl rfl rfl rfl ?_
          refine vone rfl (vxq (vpkf rfl rfl) rfl rfl ?_)
          refine vone rfl (vxq (vas rfl) rfl rfl ?_)
          refine vnil ?_
          refine vcondf rfl ?_
          refine vskip ?_
          refine vinblock ?_
          refine vseq ?_
          refine vregion ?_
          refine vone rfl (vxq (vas rfl) rfl rfl ?_)
          refine vnil ?_
          refine vret (vr1 (H' := H) Tryd.func56 rfl (.tmp rfl) sb ?_)
          first | exact ⟨oI (broken_0 h9).symm, rfl⟩ | exact ⟨oI (broken_1 h9 ((bAt_of hz).trans h12)).symm, rfl⟩ | exact ⟨oI (broken_2 h9 ((bAt_of hz).trans h12) (nf h18)).symm, rfl⟩ | exact ⟨oI (broken_3 h9 ((bAt_of hz).trans h12) (nt h18) h26 (nf h23)).symm, rfl⟩ | exact ⟨oI (broken_4 h9 ((bAt_of hz).trans h12) (nt h18) (by first | (rintro ⟨e1, e2⟩; omega) | (rintro ⟨e1, e2⟩; exact absurd (nt h23) (by rw [e2]; decide))) (by omega)).symm, rfl⟩ | exact ⟨oI (broken_ok h9 ((bAt_of hz).trans h12) (nt h18) (by first | (rintro ⟨e1, e2⟩; omega) | (rintro ⟨e1, e2⟩; exact absurd (nt h23) (by rw [e2]; decide))) (by omega)).symm, rfl⟩
        ·
         refine vno rfl rfl rfl rfl rfl ?_
         refine vno rfl rfl rfl rfl rfl ?_
         refine vno rfl rfl rfl rfl rfl ?_
         refine vno rfl rfl rfl rfl rfl ?_
         refine vno rfl rfl rfl rfl rfl ?_
         refine vno rfl rfl rfl rfl rfl ?_
         refine vone rfl (vxq (vpkf rfl rfl) rfl rfl ?_)
         refine vone rfl (vxq (vmv rfl) rfl rfl ?_)
         refine vno rfl rfl rfl rfl rfl ?_
         refine vno rfl rfl rfl rfl rfl ?_
         refine vno rfl rfl rfl rfl rfl ?_
         refine vone rfl (vxq (vpkf rfl rfl) rfl rfl ?_)
         refine vone rfl (vxq (vas rfl) rfl rfl ?_)
         refine vnil ?_
         refine vcondf rfl ?_
         refine vskip ?_
         refine vinblock ?_
         refine vseq ?_
         refine vregion ?_
         refine vone rfl (vxq (vas rfl) rfl rfl ?_)
         refine vnil ?_
         refine vret (vr1 (H' := H) Tryd.func56 rfl (.tmp rfl) sb ?_)
         first | exact ⟨oI (broken_0 h9).symm, rfl⟩ | exact ⟨oI (broken_1 h9 ((bAt_of hz).trans h12)).symm, rfl⟩ | exact ⟨oI (broken_2 h9 ((bAt_of hz).trans h12) (nf h18)).symm, rfl⟩ | exact ⟨oI (broken_3 h9 ((bAt_of hz).trans h12) (nt h18) h26 (nf h23)).symm, rfl⟩ | exact ⟨oI (broken_4 h9 ((bAt_of hz).trans h12) (nt h18) (by first | (rintro ⟨e1, e2⟩; omega) | (rintro ⟨e1, e2⟩; exact absurd (nt h23) (by rw [e2]; decide))) (by omega)).symm, rfl⟩ | exact ⟨oI (broken_ok h9 ((bAt_of hz).trans h12) (nt h18) (by first | (rintro ⟨e1, e2⟩; omega) | (rintro ⟨e1, e2⟩; exact absurd (nt h23) (by rw [e2]; decide))) (by omega)).symm, rfl⟩
      ·
       refine vregion ?_
       refine vone rfl (vxq (vmv rfl) rfl rfl ?_)
       refine vone rfl (vxq (vgtr rfl rfl) rfl rfl ?_)
       refine vone rfl (vxq (vmv rfl) rfl rfl ?_)
       refine vsplitd (d := 42) rfl (fun h42 => ?_) (fun h42 => ?_)
       ·
        refine vyes rfl rfl rfl (vxq (vmv rfl) rfl rfl ?_)
        refine vyes rfl rfl rfl (vxq (vfa rfl) rfl rfl ?_)
        refine vyes rfl rfl rfl (vxq (vfa rfl) rfl rfl ?_)
        refine vyes rfl rfl rfl (vxq (vld1 rfl rfl) rfl rfl ?_)
        refine vyes rfl rfl rfl (vxq (vleq rfl rfl) rfl rfl ?_)
        refine vone rfl (vxq (vpkt rfl rfl) rfl rfl ?_)
        refine vone rfl (vxq (vmv rfl) rfl rfl ?_)
        refine vsplitd (d := 49) rfl (fun h49 => ?_) (fun h49 => ?_)
        ·
         refine vyes rfl rfl rfl (vxq (vfa rfl) rfl rfl ?_)
         refine vyes rfl rfl rfl (vxq (vld1 rfl rfl) rfl rfl ?_)
         refine vyes rfl rfl rfl (vxq (vmv rfl) rfl rfl ?_)
         refine vyes rfl rfl rfl (vxq (vsub rfl rfl (by unfold InR; omega)) rfl rfl ?_)
         refine vyes rfl rfl rfl (vxq (vneq rfl rfl) rfl rfl ?_)
         refine vone rfl (vxq (vpkt rfl rfl) rfl rfl ?_)
         refine vone rfl (vxq (vas rfl) rfl rfl ?_)
         refine vnil ?_
         refine vcondd rfl (fun h32 => ?_) (fun h32 => ?_)
         ·
          refine vseq ?_
          refine vregion ?_
          refine vone rfl (vxq (vas rfl) rfl rfl ?_)
          refine vnil ?_
          refine vret (vr1 (H' := H) Tryd.func56 rfl (.tmp rfl) sb ?_)
          first | exact ⟨oI (broken_0 h9).symm, rfl⟩ | exact ⟨oI (broken_1 h9 ((bAt_of hz).trans h12)).symm, rfl⟩ | exact ⟨oI (broken_2 h9 ((bAt_of hz).trans h12) (nf h18)).symm, rfl⟩ | exact ⟨oI (broken_3 h9 ((bAt_of hz).trans h12) (nt h18) h26 (nf h23)).symm, rfl⟩ | exact ⟨oI (broken_4 h9 ((bAt_of hz).trans h12) (nt h18) (by first | (rintro ⟨e1, e2⟩; omega) | (rintro ⟨e1, e2⟩; exact absurd (nt h23) (by rw [e2]; decide))) (by omega)).symm, rfl⟩ | exact ⟨oI (broken_ok h9 ((bAt_of hz).trans h12) (nt h18) (by first | (rintro ⟨e1, e2⟩; omega) | (rintro ⟨e1, e2⟩; exact absurd (nt h23) (by rw [e2]; decide))) (by omega)).symm, rfl⟩
         ·
          refine vseq ?_
          refine vregion ?_
          refine vone rfl (vxq (vmv rfl) rfl rfl ?_)
          refine vone rfl (vxq (vldn rfl rfl) rfl rfl ?_)
          refine vone rfl (vxq (vcp rfl rfl rfl (c_full L g hokw0)) rfl rfl ?_)
          refine vone rfl (vxq (veql rfl rfl) rfl rfl ?_)
          refine vone rfl (vxq (vmv rfl) rfl rfl ?_)
          refine vsplitd (d := 61) rfl (fun h61 => ?_) (fun h61 => ?_)
          ·
           refine vyes rfl rfl rfl (vxq (vfa rfl) rfl rfl ?_)
           refine vyes rfl rfl rfl (vxq (vld1 rfl rfl) rfl rfl ?_)
           refine vyes rfl rfl rfl (vxq (vfa rfl) rfl rfl ?_)
           refine vyes rfl rfl rfl (vxq (vfa rfl) rfl rfl ?_)
           refine vyes rfl rfl rfl (vxq (vld1 rfl rfl) rfl rfl ?_)
           refine vyes rfl rfl rfl (vxq (vlss rfl rfl) rfl rfl ?_)
           refine vone rfl (vxq (vpkt rfl rfl) rfl rfl ?_)
           refine vone rfl (vxq (vmv rfl) rfl rfl ?_)
           refine vsplitd (d := 69) rfl (fun h69 => ?_) (fun h69 => ?_)
           ·
            refine vyes rfl rfl rfl (vxq (vfa rfl) rfl rfl ?_)
            refine vyes rfl rfl rfl (vxq (vld1 rfl rfl) rfl rfl ?_)
            refine vyes rfl rfl rfl (vxq (vlss rfl rfl) rfl rfl ?_)
            refine vone rfl (vxq (vpkt rfl rfl) rfl rfl ?_)
            refine vone rfl (vxq (vas rfl) rfl rfl ?_)
            refine vnil ?_
            refine vcondd rfl (fun h56 => ?_) (fun h56 => ?_)
            ·
             refine vseq ?_
             refine vregion ?_
             refine vone rfl (vxq (vas rfl) rfl rfl ?_)
             refine vnil ?_
             refine vret (vr1 (H' := H) Tryd.func56 rfl (.tmp rfl) sb ?_)
             first | exact ⟨oI (broken_0 h9).symm, rfl⟩ | exact ⟨oI (broken_1 h9 ((bAt_of hz).trans h12)).symm, rfl⟩ | exact ⟨oI (broken_2 h9 ((bAt_of hz).trans h12) (nf h18)).symm, rfl⟩ | exact ⟨oI (broken_3 h9 ((bAt_of hz).trans h12) (nt h18) h26 (nf h23)).symm, rfl⟩ | exact ⟨oI (broken_4 h9 ((bAt_of hz).trans h12) (nt h18) (by first | (rintro ⟨e1, e2⟩; omega) | (rintro ⟨e1, e2⟩; exact absurd (nt h23) (by rw [e2]; decide))) (by omega)).symm, rfl⟩ | exact ⟨oI (broken_ok h9 ((bAt_of hz).trans h12) (nt h18) (by first | (rintro ⟨e1, e2⟩; omega) | (rintro ⟨e1, e2⟩; exact absurd (nt h23) (by rw [e2]; decide))) (by omega)).symm, rfl⟩
            ·
             refine vskip ?_
             refine vinblock ?_
             refine vseq ?_
             refine vregion ?_
             refine vone rfl (vxq (vas rfl) rfl rfl ?_)
             refine vnil ?_
             refine vret (vr1 (H' := H) Tryd.func56 rfl (.tmp rfl) sb ?_)
             first | exact ⟨oI (broken_0 h9).symm, rfl⟩ | exact ⟨oI (broken_1 h9 ((bAt_of hz).trans h12)).symm, rfl⟩ | exact ⟨oI (broken_2 h9 ((bAt_of hz).trans h12) (nf h18)).symm, rfl⟩ | exact ⟨oI (broken_3 h9 ((bAt_of hz).trans h12) (nt h18) h26 (nf h23)).symm, rfl⟩ | exact ⟨oI (broken_4 h9 ((bAt_of hz).trans h12) (nt h18) (by first | (rintro ⟨e1, e2⟩; omega) | (rintro ⟨e1, e2⟩; exact absurd (nt h23) (by rw [e2]; decide))) (by omega)).symm, rfl⟩ | exact ⟨oI (broken_ok h9 ((bAt_of hz).trans h12) (nt h18) (by first | (rintro ⟨e1, e2⟩; omega) | (rintro ⟨e1, e2⟩; exact absurd (nt h23) (by rw [e2]; decide))) (by omega)).symm, rfl⟩
           ·
            refine vno rfl rfl rfl rfl rfl ?_
            refine vno rfl rfl rfl rfl rfl ?_
            refine vno rfl rfl rfl rfl rfl ?_
            refine vone rfl (vxq (vpkf rfl rfl) rfl rfl ?_)
            refine vone rfl (vxq (vas rfl) rfl rfl ?_)
            refine vnil ?_
            refine vcondf rfl ?_
            refine vskip ?_
            refine vinblock ?_
            refine vseq ?_
            refine vregion ?_
            refine vone rfl (vxq (vas rfl) rfl rfl ?_)
            refine vnil ?_
            refine vret (vr1 (H' := H) Tryd.func56 rfl (.tmp rfl) sb ?_)
            first | exact ⟨oI (broken_0 h9).symm, rfl⟩ | exact ⟨oI (broken_1 h9 ((bAt_of hz).trans h12)).symm, rfl⟩ | exact ⟨oI (broken_2 h9 ((bAt_of hz).trans h12) (nf h18)).symm, rfl⟩ | exact ⟨oI (broken_3 h9 ((bAt_of hz).trans h12) (nt h18) h26 (nf h23)).symm, rfl⟩ | exact ⟨oI (broken_4 h9 ((bAt_of hz).trans h12) (nt h18) (by first | (rintro ⟨e1, e2⟩; omega) | (rintro ⟨e1, e2⟩; exact absurd (nt h23) (by rw [e2]; decide))) (by omega)).symm, rfl⟩ | exact ⟨oI (broken_ok h9 ((bAt_of hz).trans h12) (nt h18) (by first | (rintro ⟨e1, e2⟩; omega) | (rintro ⟨e1, e2⟩; exact absurd (nt h23) (by rw [e2]; decide))) (by omega)).symm, rfl⟩
          ·
           refine vno rfl rfl rfl rfl rfl ?_
           refine vno rfl rfl rfl rfl rfl ?_
           refine vno rfl rfl rfl rfl rfl ?_
           refine vno rfl rfl rfl rfl rfl ?_
           refine vno rfl rfl rfl rfl rfl ?_
           refine vno rfl rfl rfl rfl rfl ?_
           refine vone rfl (vxq (vpkf rfl rfl) rfl rfl ?_)
           refine vone rfl (vxq (vmv rfl) rfl rfl ?_)
           refine vno rfl rfl rfl rfl rfl ?_
           refine vno rfl rfl rfl rfl rfl ?_
           refine vno rfl rfl rfl rfl rfl ?_
           refine vone rfl (vxq (vpkf rfl rfl) rfl rfl ?_)
           refine vone rfl (vxq (vas rfl) rfl rfl ?_)
           refine vnil ?_
           refine vcondf rfl ?_
           refine vskip ?_
           refine vinblock ?_
           refine vseq ?_
           refine vregion ?_
           refine vone rfl (vxq (vas rfl) rfl rfl ?_)
           refine vnil ?_
           refine vret (vr1 (H' := H) Tryd.func56 rfl (.tmp rfl) sb ?_)
           first | exact ⟨oI (broken_0 h9).symm, rfl⟩ | exact ⟨oI (broken_1 h9 ((bAt_of hz).trans h12)).symm, rfl⟩ | exact ⟨oI (broken_2 h9 ((bAt_of hz).trans h12) (nf h18)).symm, rfl⟩ | exact ⟨oI (broken_3 h9 ((bAt_of hz).trans h12) (nt h18) h26 (nf h23)).symm, rfl⟩ | exact ⟨oI (broken_4 h9 ((bAt_of hz).trans h12) (nt h18) (by first | (rintro ⟨e1, e2⟩; omega) | (rintro ⟨e1, e2⟩; exact absurd (nt h23) (by rw [e2]; decide))) (by omega)).symm, rfl⟩ | exact ⟨oI (broken_ok h9 ((bAt_of hz).trans h12) (nt h18) (by first | (rintro ⟨e1, e2⟩; omega) | (rintro ⟨e1, e2⟩; exact absurd (nt h23) (by rw [e2]; decide))) (by omega)).symm, rfl⟩
        ·
         refine vno rfl rfl rfl rfl rfl ?_
         refine vno rfl rfl rfl rfl rfl ?_
         refine vno rfl rfl rfl rfl rfl ?_
         refine vno rfl rfl rfl rfl rfl ?_
         refine vno rfl rfl rfl rfl rfl ?_
         refine vone rfl (vxq (vpkf rfl rfl) rfl rfl ?_)
         refine vone rfl (vxq (vas rfl) rfl rfl ?_)
         refine vnil ?_
         refine vcondf rfl ?_
         refine vseq ?_
         refine vregion ?_
         refine vone rfl (vxq (vmv rfl) rfl rfl ?_)
         refine vone rfl (vxq (vldn rfl rfl) rfl rfl ?_)
         refine vone rfl (vxq (vcp rfl rfl rfl (c_full L g hokw0)) rfl rfl ?_)
         refine vone rfl (vxq (veql rfl rfl) rfl rfl ?_)
         refine vone rfl (vxq (vmv rfl) rfl rfl ?_)
         refine vsplitd (d := 61) rfl (fun h61 => ?_) (fun h61 => ?_)
         ·
          refine vyes rfl rfl rfl (vxq (vfa rfl) rfl rfl ?_)
          refine vyes rfl rfl rfl (vxq (vld1 rfl rfl) rfl rfl ?_)
          refine vyes rfl rfl rfl (vxq (vfa rfl) rfl rfl ?_)
          refine vyes rfl rfl rfl (vxq (vfa rfl) rfl rfl ?_)
          refine vyes rfl rfl rfl (vxq (vld1 rfl rfl) rfl rfl ?_)
          refine vyes rfl rfl rfl (vxq (vlss rfl rfl) rfl rfl ?_)
          refine vone rfl (vxq (vpkt rfl rfl) rfl rfl ?_)
          refine vone rfl (vxq (vmv rfl) rfl rfl ?_)
          refine vsplitd (d := 69) rfl (fun h69 => ?_) (fun h69 => ?_)
          ·
           refine vyes rfl rfl rfl (vxq (vfa rfl) rfl rfl ?_)
           refine vyes rfl rfl rfl (vxq (vld1 rfl rfl) rfl rfl ?_)
           refine vyes rfl rfl rfl (vxq (vlss rfl rfl) rfl rfl ?_)
           refine vone rfl (vxq (vpkt rfl rfl) rfl rfl ?_)
           refine vone rfl (vxq (vas rfl) rfl rfl ?_)
           refine vnil ?_
           refine vcondd rfl (fun h56 => ?_) (fun h56 => ?_)
           ·
            refine vseq ?_
            refine vregion ?_
            refine vone rfl (vxq (vas rfl) rfl rfl ?_)
            refine vnil ?_
            refine vret (vr1 (H' := H) Tryd.func56 rfl (.tmp rfl) sb ?_)
            first | exact ⟨oI (broken_0 h9).symm, rfl⟩ | exact ⟨oI (broken_1 h9 ((bAt_of hz).trans h12)).symm, rfl⟩ | exact ⟨oI (broken_2 h9 ((bAt_of hz).trans h12) (nf h18)).symm, rfl⟩ | exact ⟨oI (broken_3 h9 ((bAt_of hz).trans h12) (nt h18) h26 (nf h23)).symm, rfl⟩ | exact ⟨oI (broken_4 h9 ((bAt_of hz).trans h12) (nt h18) (by first | (rintro ⟨e1, e2⟩; omega) | (rintro ⟨e1, e2⟩; exact absurd (nt h23) (by rw [e2]; decide))) (by omega)).symm, rfl⟩ | exact ⟨oI (broken_ok h9 ((bAt_of hz).trans h12) (nt h18) (by first | (rintro ⟨e1, e2⟩; omega) | (rintro ⟨e1, e2⟩; exact absurd (nt h23) (by rw [e2]; decide))) (by omega)).symm, rfl⟩
           ·
            refine vskip ?_
            refine vinblock ?_
            refine vseq ?_
            refine vregion ?_
            refine vone rfl (vxq (vas rfl) rfl rfl ?_)
            refine vnil ?_
            refine vret (vr1 (H' := H) Tryd.func56 rfl (.tmp rfl) sb ?_)
            first | exact ⟨oI (broken_0 h9).symm, rfl⟩ | exact ⟨oI (broken_1 h9 ((bAt_of hz).trans h12)).symm, rfl⟩ | exact ⟨oI (broken_2 h9 ((bAt_of hz).trans h12) (nf h18)).symm, rfl⟩ | exact ⟨oI (broken_3 h9 ((bAt_of hz).trans h12) (nt h18) h26 (nf h23)).symm, rfl⟩ | exact ⟨oI (broken_4 h9 ((bAt_of hz).trans h12) (nt h18) (by first | (rintro ⟨e1, e2⟩; omega) | (rintro ⟨e1, e2⟩; exact absurd (nt h23) (by rw [e2]; decide))) (by omega)).symm, rfl⟩ | exact ⟨oI (broken_ok h9 ((bAt_of hz).trans h12) (nt h18) (by first | (rintro ⟨e1, e2⟩; omega) | (rintro ⟨e1, e2⟩; exact absurd (nt h23) (by rw [e2]; decide))) (by omega)).symm, rfl⟩
          ·
           refine vno rfl rfl rfl rfl rfl ?_
           refine vno rfl rfl rfl rfl rfl ?_
           refine vno rfl rfl rfl rfl rfl ?_
           refine vone rfl (vxq (vpkf rfl rfl) rfl rfl ?_)
           refine vone rfl (vxq (vas rfl) rfl rfl ?_)
           refine vnil ?_
           refine vcondf rfl ?_
           refine vskip ?_
           refine vinblock ?_
           refine vseq ?_
           refine vregion ?_
           refine vone rfl (vxq (vas rfl) rfl rfl ?_)
           refine vnil ?_
           refine vret (vr1 (H' := H) Tryd.func56 rfl (.tmp rfl) sb ?_)
           first | exact ⟨oI (broken_0 h9).symm, rfl⟩ | exact ⟨oI (broken_1 h9 ((bAt_of hz).trans h12)).symm, rfl⟩ | exact ⟨oI (broken_2 h9 ((bAt_of hz).trans h12) (nf h18)).symm, rfl⟩ | exact ⟨oI (broken_3 h9 ((bAt_of hz).trans h12) (nt h18) h26 (nf h23)).symm, rfl⟩ | exact ⟨oI (broken_4 h9 ((bAt_of hz).trans h12) (nt h18) (by first | (rintro ⟨e1, e2⟩; omega) | (rintro ⟨e1, e2⟩; exact absurd (nt h23) (by rw [e2]; decide))) (by omega)).symm, rfl⟩ | exact ⟨oI (broken_ok h9 ((bAt_of hz).trans h12) (nt h18) (by first | (rintro ⟨e1, e2⟩; omega) | (rintro ⟨e1, e2⟩; exact absurd (nt h23) (by rw [e2]; decide))) (by omega)).symm, rfl⟩
         ·
          refine vno rfl rfl rfl rfl rfl ?_
          refine vno rfl rfl rfl rfl rfl ?_
          refine vno rfl rfl rfl rfl rfl ?_
          refine vno rfl rfl rfl rfl rfl ?_
          refine vno rfl rfl rfl rfl rfl ?_
          refine vno rfl rfl rfl rfl rfl ?_
          refine vone rfl (vxq (vpkf rfl rfl) rfl rfl ?_)
          refine vone rfl (vxq (vmv rfl) rfl rfl ?_)
          refine vno rfl rfl rfl rfl rfl ?_
          refine vno rfl rfl rfl rfl rfl ?_
          refine vno rfl rfl rfl rfl rfl ?_
          refine vone rfl (vxq (vpkf rfl rfl) rfl rfl ?_)
          refine vone rfl (vxq (vas rfl) rfl rfl ?_)
          refine vnil ?_
          refine vcondf rfl ?_
          refine vskip ?_
          refine vinblock ?_
          refine vseq ?_
          refine vregion ?_
          refine vone rfl (vxq (vas rfl) rfl rfl ?_)
          refine vnil ?_
          refine vret (vr1 (H' := H) Tryd.func56 rfl (.tmp rfl) sb ?_)
          first | exact ⟨oI (broken_0 h9).symm, rfl⟩ | exact ⟨oI (broken_1 h9 ((bAt_of hz).trans h12)).symm, rfl⟩ | exact ⟨oI (broken_2 h9 ((bAt_of hz).trans h12) (nf h18)).symm, rfl⟩ | exact ⟨oI (broken_3 h9 ((bAt_of hz).trans h12) (nt h18) h26 (nf h23)).symm, rfl⟩ | exact ⟨oI (broken_4 h9 ((bAt_of hz).trans h12) (nt h18) (by first | (rintro ⟨e1, e2⟩; omega) | (rintro ⟨e1, e2⟩; exact absurd (nt h23) (by rw [e2]; decide))) (by omega)).symm, rfl⟩ | exact ⟨oI (broken_ok h9 ((bAt_of hz).trans h12) (nt h18) (by first | (rintro ⟨e1, e2⟩; omega) | (rintro ⟨e1, e2⟩; exact absurd (nt h23) (by rw [e2]; decide))) (by omega)).symm, rfl⟩
       ·
        refine vno rfl rfl rfl rfl rfl ?_
        refine vno rfl rfl rfl rfl rfl ?_
        refine vno rfl rfl rfl rfl rfl ?_
        refine vno rfl rfl rfl rfl rfl ?_
        refine vno rfl rfl rfl rfl rfl ?_
        refine vone rfl (vxq (vpkf rfl rfl) rfl rfl ?_)
        refine vone rfl (vxq (vmv rfl) rfl rfl ?_)
        refine vno rfl rfl rfl rfl rfl ?_
        refine vno rfl rfl rfl rfl rfl ?_
        refine vno rfl rfl rfl rfl rfl ?_
        refine vno rfl rfl rfl rfl rfl ?_
        refine vno rfl rfl rfl rfl rfl ?_
        refine vone rfl (vxq (vpkf rfl rfl) rfl rfl ?_)
        refine vone rfl (vxq (vas rfl) rfl rfl ?_)
        refine vnil ?_
        refine vcondf rfl ?_
        refine vseq ?_
        refine vregion ?_
        refine vone rfl (vxq (vmv rfl) rfl rfl ?_)
        refine vone rfl (vxq (vldn rfl rfl) rfl rfl ?_)
        refine vone rfl (vxq (vcp rfl rfl rfl (c_full L g hokw0)) rfl rfl ?_)
        refine vone rfl (vxq (veql rfl rfl) rfl rfl ?_)
        refine vone rfl (vxq (vmv rfl) rfl rfl ?_)
        refine vsplitd (d := 61) rfl (fun h61 => ?_) (fun h61 => ?_)
        ·
         refine vyes rfl rfl rfl (vxq (vfa rfl) rfl rfl ?_)
         refine vyes rfl rfl rfl (vxq (vld1 rfl rfl) rfl rfl ?_)
         refine vyes rfl rfl rfl (vxq (vfa rfl) rfl rfl ?_)
         refine vyes rfl rfl rfl (vxq (vfa rfl) rfl rfl ?_)
         refine vyes rfl rfl rfl (vxq (vld1 rfl rfl) rfl rfl ?_)
         refine vyes rfl rfl rfl (vxq (vlss rfl rfl) rfl rfl ?_)
         refine vone rfl (vxq (vpkt rfl rfl) rfl rfl ?_)
         refine vone rfl (vxq (vmv rfl) rfl rfl ?_)
         refine vsplitd (d := 69) rfl (fun h69 => ?_) (fun h69 => ?_)
         ·
          refine vyes rfl rfl rfl (vxq (vfa rfl) rfl rfl ?_)
          refine vyes rfl rfl rfl (vxq (vld1 rfl rfl) rfl rfl ?_)
          refine vyes rfl rfl rfl (vxq (vlss rfl rfl) rfl rfl ?_)
          refine vone rfl (vxq (vpkt rfl rfl) rfl rfl ?_)
          refine vone rfl (vxq (vas rfl) rfl rfl ?_)
          refine vnil ?_
          refine vcondd rfl (fun h56 => ?_) (fun h56 => ?_)
          ·
           refine vseq ?_
           refine vregion ?_
           refine vone rfl (vxq (vas rfl) rfl rfl ?_)
           refine vnil ?_
           refine vret (vr1 (H' := H) Tryd.func56 rfl (.tmp rfl) sb ?_)
           first | exact ⟨oI (broken_0 h9).symm, rfl⟩ | exact ⟨oI (broken_1 h9 ((bAt_of hz).trans h12)).symm, rfl⟩ | exact ⟨oI (broken_2 h9 ((bAt_of hz).trans h12) (nf h18)).symm, rfl⟩ | exact ⟨oI (broken_3 h9 ((bAt_of hz).trans h12) (nt h18) h26 (nf h23)).symm, rfl⟩ | exact ⟨oI (broken_4 h9 ((bAt_of hz).trans h12) (nt h18) (by first | (rintro ⟨e1, e2⟩; omega) | (rintro ⟨e1, e2⟩; exact absurd (nt h23) (by rw [e2]; decide))) (by omega)).symm, rfl⟩ | exact ⟨oI (broken_ok h9 ((bAt_of hz).trans h12) (nt h18) (by first | (rintro ⟨e1, e2⟩; omega) | (rintro ⟨e1, e2⟩; exact absurd (nt h23) (by rw [e2]; decide))) (by omega)).symm, rfl⟩
          ·
           refine vskip ?_
           refine vinblock ?_
           refine vseq ?_
           refine vregion ?_
           refine vone rfl (vxq (vas rfl) rfl rfl ?_)
           refine vnil ?_
           refine vret (vr1 (H' := H) Tryd.func56 rfl (.tmp rfl) sb ?_)
           first | exact ⟨oI (broken_0 h9).symm, rfl⟩ | exact ⟨oI (broken_1 h9 ((bAt_of hz).trans h12)).symm, rfl⟩ | exact ⟨oI (broken_2 h9 ((bAt_of hz).trans h12) (nf h18)).symm, rfl⟩ | exact ⟨oI (broken_3 h9 ((bAt_of hz).trans h12) (nt h18) h26 (nf h23)).symm, rfl⟩ | exact ⟨oI (broken_4 h9 ((bAt_of hz).trans h12) (nt h18) (by first | (rintro ⟨e1, e2⟩; omega) | (rintro ⟨e1, e2⟩; exact absurd (nt h23) (by rw [e2]; decide))) (by omega)).symm, rfl⟩ | exact ⟨oI (broken_ok h9 ((bAt_of hz).trans h12) (nt h18) (by first | (rintro ⟨e1, e2⟩; omega) | (rintro ⟨e1, e2⟩; exact absurd (nt h23) (by rw [e2]; decide))) (by omega)).symm, rfl⟩
         ·
          refine vno rfl rfl rfl rfl rfl ?_
          refine vno rfl rfl rfl rfl rfl ?_
          refine vno rfl rfl rfl rfl rfl ?_
          refine vone rfl (vxq (vpkf rfl rfl) rfl rfl ?_)
          refine vone rfl (vxq (vas rfl) rfl rfl ?_)
          refine vnil ?_
          refine vcondf rfl ?_
          refine vskip ?_
          refine vinblock ?_
          refine vseq ?_
          refine vregion ?_
          refine vone rfl (vxq (vas rfl) rfl rfl ?_)
          refine vnil ?_
          refine vret (vr1 (H' := H) Tryd.func56 rfl (.tmp rfl) sb ?_)
          first | exact ⟨oI (broken_0 h9).symm, rfl⟩ | exact ⟨oI (broken_1 h9 ((bAt_of hz).trans h12)).symm, rfl⟩ | exact ⟨oI (broken_2 h9 ((bAt_of hz).trans h12) (nf h18)).symm, rfl⟩ | exact ⟨oI (broken_3 h9 ((bAt_of hz).trans h12) (nt h18) h26 (nf h23)).symm, rfl⟩ | exact ⟨oI (broken_4 h9 ((bAt_of hz).trans h12) (nt h18) (by first | (rintro ⟨e1, e2⟩; omega) | (rintro ⟨e1, e2⟩; exact absurd (nt h23) (by rw [e2]; decide))) (by omega)).symm, rfl⟩ | exact ⟨oI (broken_ok h9 ((bAt_of hz).trans h12) (nt h18) (by first | (rintro ⟨e1, e2⟩; omega) | (rintro ⟨e1, e2⟩; exact absurd (nt h23) (by rw [e2]; decide))) (by omega)).symm, rfl⟩
        ·
         refine vno rfl rfl rfl rfl rfl ?_
         refine vno rfl rfl rfl rfl rfl ?_
         refine vno rfl rfl rfl rfl rfl ?_
         refine vno rfl rfl rfl rfl rfl ?_
         refine vno rfl rfl rfl rfl rfl ?_
         refine vno rfl rfl rfl rfl rfl ?_
         refine vone rfl (vxq (vpkf rfl rfl) rfl rfl ?_)
         refine vone rfl (vxq (vmv rfl) rfl rfl ?_)
         refine vno rfl rfl rfl rfl rfl ?_
         refine vno rfl rfl rfl rfl rfl ?_
         refine vno rfl rfl rfl rfl rfl ?_
         refine vone rfl (vxq (vpkf rfl rfl) rfl rfl ?_)
         refine vone rfl (vxq (vas rfl) rfl rfl ?_)
         refine vnil ?_
         refine vcondf rfl ?_
         refine vskip ?_
         refine vinblock ?_
         refine vseq ?_
         refine vregion ?_
         refine vone rfl (vxq (vas rfl) rfl rfl ?_)
         refine vnil ?_
         refine vret (vr1 (H' := H) Tryd.func56 rfl (.tmp rfl) sb ?_)
         first | exact ⟨oI (broken_0 h9).symm, rfl⟩ | exact ⟨oI (broken_1 h9 ((bAt_of hz).trans h12)).symm, rfl⟩ | exact ⟨oI (broken_2 h9 ((bAt_of hz).trans h12) (nf h18)).symm, rfl⟩ | exact ⟨oI (broken_3 h9 ((bAt_of hz).trans h12) (nt h18) h26 (nf h23)).symm, rfl⟩ | exact ⟨oI (broken_4 h9 ((bAt_of hz).trans h12) (nt h18) (by first | (rintro ⟨e1, e2⟩; omega) | (rintro ⟨e1, e2⟩; exact absurd (nt h23) (by rw [e2]; decide))) (by omega)).symm, rfl⟩ | exact ⟨oI (broken_ok h9 ((bAt_of hz).trans h12) (nt h18) (by first | (rintro ⟨e1, e2⟩; omega) | (rintro ⟨e1, e2⟩; exact absurd (nt h23) (by rw [e2]; decide))) (by omega)).symm, rfl⟩
     ·
      refine vno rfl rfl rfl rfl rfl ?_
      refine vno rfl rfl rfl rfl rfl ?_
      refine vno rfl rfl rfl rfl rfl ?_
      refine vone rfl (vxq (vpkf rfl rfl) rfl rfl ?_)
      refine vone rfl (vxq (vas rfl) rfl rfl ?_)
      refine vnil ?_
      refine vcondf rfl ?_
      refine vregion ?_
      refine vone rfl (vxq (vmv rfl) rfl rfl ?_)
      refine vone rfl (vxq (vgtr rfl rfl) rfl rfl ?_)
      refine vone rfl (vxq (vmv rfl) rfl rfl ?_)
      refine vsplitd (d := 42) rfl (fun h42 => ?_) (fun h42 => ?_)
      ·
       refine vyes rfl rfl rfl (vxq (vmv rfl) rfl rfl ?_)
       refine vyes rfl rfl rfl (vxq (vfa rfl) rfl rfl ?_)
       refine vyes rfl rfl rfl (vxq (vfa rfl) rfl rfl ?_)
       refine vyes rfl rfl rfl (vxq (vld1 rfl rfl) rfl rfl ?_)
       refine vyes rfl rfl rfl (vxq (vleq rfl rfl) rfl rfl ?_)
       refine vone rfl (vxq (vpkt rfl rfl) rfl rfl ?_)
       refine vone rfl (vxq (vmv rfl) rfl rfl ?_)
       refine vsplitd (d := 49) rfl (fun h49 => ?_) (fun h49 => ?_)
       ·
        refine vyes rfl rfl rfl (vxq (vfa rfl) rfl rfl ?_)
        refine vyes rfl rfl rfl (vxq (vld1 rfl rfl) rfl rfl ?_)
        refine vyes rfl rfl rfl (vxq (vmv rfl) rfl rfl ?_)
        refine vyes rfl rfl rfl (vxq (vsub rfl rfl (by unfold InR; omega)) rfl rfl ?_)
        refine vyes rfl rfl rfl (vxq (vneq rfl rfl) rfl rfl ?_)
        refine vone rfl (vxq (vpkt rfl rfl) rfl rfl ?_)
        refine vone rfl (vxq (vas rfl) rfl rfl ?_)
        refine vnil ?_
        refine vcondd rfl (fun h32 => ?_) (fun h32 => ?_)
        ·
         refine vseq ?_
         refine vregion ?_
         refine vone rfl (vxq (vas rfl) rfl rfl ?_)
         refine vnil ?_
         refine vret (vr1 (H' := H) Tryd.func56 rfl (.tmp rfl) sb ?_)
         first | exact ⟨oI (broken_0 h9).symm, rfl⟩ | exact ⟨oI (broken_1 h9 ((bAt_of hz).trans h12)).symm, rfl⟩ | exact ⟨oI (broken_2 h9 ((bAt_of hz).trans h12) (nf h18)).symm, rfl⟩ | exact ⟨oI (broken_3 h9 ((bAt_of hz).trans h12) (nt h18) h26 (nf h23)).symm, rfl⟩ | exact ⟨oI (broken_4 h9 ((bAt_of hz).trans h12) (nt h18) (by first | (rintro ⟨e1, e2⟩; omega) | (rintro ⟨e1, e2⟩; exact absurd (nt h23) (by rw [e2]; decide))) (by omega)).symm, rfl⟩ | exact ⟨oI (broken_ok h9 ((bAt_of hz).trans h12) (nt h18) (by first | (rintro ⟨e1, e2⟩; omega) | (rintro ⟨e1, e2⟩; exact absurd (nt h23) (by rw [e2]; decide))) (by omega)).symm, rfl⟩
        ·
         refine vseq ?_
         refine vregion ?_
         refine vone rfl (vxq (vmv rfl) rfl rfl ?_)
         refine vone rfl (vxq (vldn rfl rfl) rfl rfl ?_)
         refine vone rfl (vxq (vcp rfl rfl rfl (c_full L g hokw0)) rfl rfl ?_)
         refine vone rfl (vxq (veql rfl rfl) rfl rfl ?_)
         refine vone rfl (vxq (vmv rfl) rfl rfl ?_)
         refine vsplitd (d := 61) rfl (fun h61 => ?_) (fun h61 => ?_)
         ·
          refine vyes rfl rfl rfl (vxq (vfa rfl) rfl rfl ?_)
          refine vyes rfl rfl rfl (vxq (vld1 rfl rfl) rfl rfl ?_)
          refine vyes rfl rfl rfl (vxq (vfa rfl) rfl rfl ?_)
          refine vyes rfl rfl rfl (vxq (vfa rfl) rfl rfl ?_)
          refine vyes rfl rfl rfl (vxq (vld1 rfl rfl) rfl rfl ?_)
          refine vyes rfl rfl rfl (vxq (vlss rfl rfl) rfl rfl ?_)
          refine vone rfl (vxq (vpkt rfl rfl) rfl rfl ?_)
          refine vone rfl (vxq (vmv rfl) rfl rfl ?_)
          refine vsplitd (d := 69) rfl (fun h69 => ?_) (fun h69 => ?_)
          ·
           refine vyes rfl rfl rfl (vxq (vfa rfl) rfl rfl ?_)
           refine vyes rfl rfl rfl (vxq (vld1 rfl rfl) rfl rfl ?_)
           refine vyes rfl rfl rfl (vxq (vlss rfl rfl) rfl rfl ?_)
           refine vone rfl (vxq (vpkt rfl rfl) rfl rfl ?_)
           refine vone rfl (vxq (vas rfl) rfl rfl ?_)
           refine vnil ?_
           refine vcondd rfl (fun h56 => ?_) (fun h56 => ?_)
           ·
            refine vseq ?_
            refine vregion ?_
            refine vone rfl (vxq (vas rfl) rfl rfl ?_)
            refine vnil ?_
            refine vret (vr1 (H' := H) Tryd.func56 rfl (.tmp rfl) sb ?_)
            first | exact ⟨oI (broken_0 h9).symm, rfl⟩ | exact ⟨oI (broken_1 h9 ((bAt_of hz).trans h12)).symm, rfl⟩ | exact ⟨oI (broken_2 h9 ((bAt_of hz).trans h12) (nf h18)).symm, rfl⟩ | exact ⟨oI (broken_3 h9 ((bAt_of hz).trans h12) (nt h18) h26 (nf h23)).symm, rfl⟩ | exact ⟨oI (broken_4 h9 ((bAt_of hz).trans h12) (nt h18) (by first | (rintro ⟨e1, e2⟩; omega) | (rintro ⟨e1, e2⟩; exact absurd (nt h23) (by rw [e2]; decide))) (by omega)).symm, rfl⟩ | exact ⟨oI (broken_ok h9 ((bAt_of hz).trans h12) (nt h18) (by first | (rintro ⟨e1, e2⟩; omega) | (rintro ⟨e1, e2⟩; exact absurd (nt h23) (by rw [e2]; decide))) (by omega)).symm, rfl⟩
           ·
            refine vskip ?_
            refine vinblock ?_
            refine vseq ?_
            refine vregion ?_
            refine vone rfl (vxq (vas rfl) rfl rfl ?_)
            refine vnil ?_
            refine vret (vr1 (H' := H) Tryd.func56 rfl (.tmp rfl) sb ?_)
            first | exact ⟨oI (broken_0 h9).symm, rfl⟩ | exact ⟨oI (broken_1 h9 ((bAt_of hz).trans h12)).symm, rfl⟩ | exact ⟨oI (broken_2 h9 ((bAt_of hz).trans h12) (nf h18)).symm, rfl⟩ | exact ⟨oI (broken_3 h9 ((bAt_of hz).trans h12) (nt h18) h26 (nf h23)).symm, rfl⟩ | exact ⟨oI (broken_4 h9 ((bAt_of hz).trans h12) (nt h18) (by first | (rintro ⟨e1, e2⟩; omega) | (rintro ⟨e1, e2⟩; exact absurd (nt h23) (by rw [e2]; decide))) (by omega)).symm, rfl⟩ | exact ⟨oI (broken_ok h9 ((bAt_of hz).trans h12) (nt h18) (by first | (rintro ⟨e1, e2⟩; omega) | (rintro ⟨e1, e2⟩; exact absurd (nt h23) (by rw [e2]; decide))) (by omega)).symm, rfl⟩
          ·
           refine vno rfl rfl rfl rfl rfl ?_
           refine vno rfl rfl rfl rfl rfl ?_
           refine vno rfl rfl rfl rfl rfl ?_
           refine vone rfl (vxq (vpkf rfl rfl) rfl rfl ?_)
           refine vone rfl (vxq (vas rfl) rfl rfl ?_)
           refine vnil ?_
           refine vcondf rfl ?_
           refine vskip ?_
           refine vinblock ?_
           refine vseq ?_
           refine vregion ?_
           refine vone rfl (vxq (vas rfl) rfl rfl ?_)
           refine vnil ?_
           refine vret (vr1 (H' := H) Tryd.func56 rfl (.tmp rfl) sb ?_)
           first | exact ⟨oI (broken_0 h9).symm, rfl⟩ | exact ⟨oI (broken_1 h9 ((bAt_of hz).trans h12)).symm, rfl⟩ | exact ⟨oI (broken_2 h9 ((bAt_of hz).trans h12) (nf h18)).symm, rfl⟩ | exact ⟨oI (broken_3 h9 ((bAt_of hz).trans h12) (nt h18) h26 (nf h23)).symm, rfl⟩ | exact ⟨oI (broken_4 h9 ((bAt_of hz).trans h12) (nt h18) (by first | (rintro ⟨e1, e2⟩; omega) | (rintro ⟨e1, e2⟩; exact absurd (nt h23) (by rw [e2]; decide))) (by omega)).symm, rfl⟩ | exact ⟨oI (broken_ok h9 ((bAt_of hz).trans h12) (nt h18) (by first | (rintro ⟨e1, e2⟩; omega) | (rintro ⟨e1, e2⟩; exact absurd (nt h23) (by rw [e2]; decide))) (by omega)).symm, rfl⟩
         ·
          refine vno rfl rfl rfl rfl rfl ?_
          refine vno rfl rfl rfl rfl rfl ?_
          refine vno rfl rfl rfl rfl rfl ?_
          refine vno rfl rfl rfl rfl rfl ?_
          refine vno rfl rfl rfl rfl rfl ?_
          refine vno rfl rfl rfl rfl rfl ?_
          refine vone rfl (vxq (vpkf rfl rfl) rfl rfl ?_)
          refine vone rfl (vxq (vmv rfl) rfl rfl ?_)
          refine vno rfl rfl rfl rfl rfl ?_
          refine vno rfl rfl rfl rfl rfl ?_
          refine vno rfl rfl rfl rfl rfl ?_
          refine vone rfl (vxq (vpkf rfl rfl) rfl rfl ?_)
          refine vone rfl (vxq (vas rfl) rfl rfl ?_)
          refine vnil ?_
          refine vcondf rfl ?_
          refine vskip ?_
          refine vinblock ?_
          refine vseq ?_
          refine vregion ?_
          refine vone rfl (vxq (vas rfl) rfl rfl ?_)
          refine vnil ?_
          refine vret (vr1 (H' := H) Tryd.func56 rfl (.tmp rfl) sb ?_)
          first | exact ⟨oI (broken_0 h9).symm, rfl⟩ | exact ⟨oI (broken_1 h9 ((bAt_of hz).trans h12)).symm, rfl⟩ | exact ⟨oI (broken_2 h9 ((bAt_of hz).trans h12) (nf h18)).symm, rfl⟩ | exact ⟨oI (broken_3 h9 ((bAt_of hz).trans h12) (nt h18) h26 (nf h23)).symm, rfl⟩ | exact ⟨oI (broken_4 h9 ((bAt_of hz).trans h12) (nt h18) (by first | (rintro ⟨e1, e2⟩; omega) | (rintro ⟨e1, e2⟩; exact absurd (nt h23) (by rw [e2]; decide))) (by omega)).symm, rfl⟩ | exact ⟨oI (broken_ok h9 ((bAt_of hz).trans h12) (nt h18) (by first | (rintro ⟨e1, e2⟩; omega) | (rintro ⟨e1, e2⟩; exact absurd (nt h23) (by rw [e2]; decide))) (by omega)).symm, rfl⟩
       ·
        refine vno rfl rfl rfl rfl rfl ?_
        refine vno rfl rfl rfl rfl rfl ?_
        refine vno rfl rfl rfl rfl rfl ?_
        refine vno rfl rfl rfl rfl rfl ?_
        refine vno rfl rfl rfl rfl rfl ?_
        refine vone rfl (vxq (vpkf rfl rfl) rfl rfl ?_)
        refine vone rfl (vxq (vas rfl) rfl rfl ?_)
        refine vnil ?_
        refine vcondf rfl ?_
        refine vseq ?_
        refine vregion ?_
        refine vone rfl (vxq (vmv rfl) rfl rfl ?_)
        refine vone rfl (vxq (vldn rfl rfl) rfl rfl ?_)
        refine vone rfl (vxq (vcp rfl rfl rfl (c_full L g hokw0)) rfl rfl ?_)
        refine vone rfl (vxq (veql rfl rfl) rfl rfl ?_)
        refine vone rfl (vxq (vmv rfl) rfl rfl ?_)
        refine vsplitd (d := 61) rfl (fun h61 => ?_) (fun h61 => ?_)
        ·
         refine vyes rfl rfl rfl (vxq (vfa rfl) rfl rfl ?_)
         refine vyes rfl rfl rfl (vxq (vld1 rfl rfl) rfl rfl ?_)
         refine vyes rfl rfl rfl (vxq (vfa rfl) rfl rfl ?_)
         refine vyes rfl rfl rfl (vxq (vfa rfl) rfl rfl ?_)
         refine vyes rfl rfl rfl (vxq (vld1 rfl rfl) rfl rfl ?_)
         refine vyes rfl rfl rfl (vxq (vlss rfl rfl) rfl rfl ?_)
         refine vone rfl (vxq (vpkt rfl rfl) rfl rfl ?_)
         refine vone rfl (vxq (vmv rfl) rfl rfl ?_)
         refine vsplitd (d := 69) rfl (fun h69 => ?_) (fun h69 => ?_)
         ·
          refine vyes rfl rfl rfl (vxq (vfa rfl) rfl rfl ?_)
          refine vyes rfl rfl rfl (vxq (vld1 rfl rfl) rfl rfl ?_)
          refine vyes rfl rfl rfl (vxq (vlss rfl rfl) rfl rfl ?_)
          refine vone rfl (vxq (vpkt rfl rfl) rfl rfl ?_)
          refine vone rfl (vxq (vas rfl) rfl rfl ?_)
          refine vnil ?_
          refine vcondd rfl (fun h56 => ?_) (fun h56 => ?_)
          ·
           refine vseq ?_
           refine vregion ?_
           refine vone rfl (vxq (vas rfl) rfl rfl ?_)
           refine vnil ?_
           refine vret (vr1 (H' := H) Tryd.func56 rfl (.tmp rfl) sb ?_)
           first | exact ⟨oI (broken_0 h9).symm, rfl⟩ | exact ⟨oI (broken_1 h9 ((bAt_of hz).trans h12)).symm, rfl⟩ | exact ⟨oI (broken_2 h9 ((bAt_of hz).trans h12) (nf h18)).symm, rfl⟩ | exact ⟨oI (broken_3 h9 ((bAt_of hz).trans h12) (nt h18) h26 (nf h23)).symm, rfl⟩ | exact ⟨oI (broken_4 h9 ((bAt_of hz).trans h12) (nt h18) (by first | (rintro ⟨e1, e2⟩; omega) | (rintro ⟨e1, e2⟩; exact absurd (nt h23) (by rw [e2]; decide))) (by omega)).symm, rfl⟩ | exact ⟨oI (broken_ok h9 ((bAt_of hz).trans h12) (nt h18) (by first | (rintro ⟨e1, e2⟩; omega) | (rintro ⟨e1, e2⟩; exact absurd (nt h23) (by rw [e2]; decide))) (by omega)).symm, rfl⟩
          ·
           refine vskip ?_
           refine vinblock ?_
           refine vseq ?_
           refine vregion ?_
           refine vone rfl (vxq (vas rfl) rfl rfl ?_)
           refine vnil ?_
           refine vret (vr1 (H' := H) Tryd.func56 rfl (.tmp rfl) sb ?_)
           first | exact ⟨oI (broken_0 h9).symm, rfl⟩ | exact ⟨oI (broken_1 h9 ((bAt_of hz).trans h12)).symm, rfl⟩ | exact ⟨oI (broken_2 h9 ((bAt_of hz).trans h12) (nf h18)).symm, rfl⟩ | exact ⟨oI (broken_3 h9 ((bAt_of hz).trans h12) (nt h18) h26 (nf h23)).symm, rfl⟩ | exact ⟨oI (broken_4 h9 ((bAt_of hz).trans h12) (nt h18) (by first | (rintro ⟨e1, e2⟩; omega) | (rintro ⟨e1, e2⟩; exact absurd (nt h23) (by rw [e2]; decide))) (by omega)).symm, rfl⟩ | exact ⟨oI (broken_ok h9 ((bAt_of hz).trans h12) (nt h18) (by first | (rintro ⟨e1, e2⟩; omega) | (rintro ⟨e1, e2⟩; exact absurd (nt h23) (by rw [e2]; decide))) (by omega)).symm, rfl⟩
         ·
          refine vno rfl rfl rfl rfl rfl ?_
          refine vno rfl rfl rfl rfl rfl ?_
          refine vno rfl rfl rfl rfl rfl ?_
          refine vone rfl (vxq (vpkf rfl rfl) rfl rfl ?_)
          refine vone rfl (vxq (vas rfl) rfl rfl ?_)
          refine vnil ?_
          refine vcondf rfl ?_
          refine vskip ?_
          refine vinblock ?_
          refine vseq ?_
          refine vregion ?_
          refine vone rfl (vxq (vas rfl) rfl rfl ?_)
          refine vnil ?_
          refine vret (vr1 (H' := H) Tryd.func56 rfl (.tmp rfl) sb ?_)
          first | exact ⟨oI (broken_0 h9).symm, rfl⟩ | exact ⟨oI (broken_1 h9 ((bAt_of hz).trans h12)).symm, rfl⟩ | exact ⟨oI (broken_2 h9 ((bAt_of hz).trans h12) (nf h18)).symm, rfl⟩ | exact ⟨oI (broken_3 h9 ((bAt_of hz).trans h12) (nt h18) h26 (nf h23)).symm, rfl⟩ | exact ⟨oI (broken_4 h9 ((bAt_of hz).trans h12) (nt h18) (by first | (rintro ⟨e1, e2⟩; omega) | (rintro ⟨e1, e2⟩; exact absurd (nt h23) (by rw [e2]; decide))) (by omega)).symm, rfl⟩ | exact ⟨oI (broken_ok h9 ((bAt_of hz).trans h12) (nt h18) (by first | (rintro ⟨e1, e2⟩; omega) | (rintro ⟨e1, e2⟩; exact absurd (nt h23) (by rw [e2]; decide))) (by omega)).symm, rfl⟩
        ·
         refine vno rfl rfl rfl rfl rfl ?_
         refine vno rfl rfl rfl rfl rfl ?_
         refine vno rfl rfl rfl rfl rfl ?_
         refine vno rfl rfl rfl rfl rfl ?_
         refine vno rfl rfl rfl rfl rfl ?_
         refine vno rfl rfl rfl rfl rfl ?_
         refine vone rfl (vxq (vpkf rfl rfl) rfl rfl ?_)
         refine vone rfl (vxq (vmv rfl) rfl rfl ?_)
         refine vno rfl rfl rfl rfl rfl ?_
         refine vno rfl rfl rfl rfl rfl ?_
         refine vno rfl rfl rfl rfl rfl ?_
         refine vone rfl (vxq (vpkf rfl rfl) rfl rfl ?_)
         refine vone rfl (vxq (vas rfl) rfl rfl ?_)
         refine vnil ?_
         refine vcondf rfl ?_
         refine vskip ?_
         refine vinblock ?_
         refine vseq ?_
         refine vregion ?_
         refine vone rfl (vxq (vas rfl) rfl rfl ?_)
         refine vnil ?_
         refine vret (vr1 (H' := H) Tryd.func56 rfl (.tmp rfl) sb ?_)
         first | exact ⟨oI (broken_0 h9).symm, rfl⟩ | exact ⟨oI (broken_1 h9 ((bAt_of hz).trans h12)).symm, rfl⟩ | exact ⟨oI (broken_2 h9 ((bAt_of hz).trans h12) (nf h18)).symm, rfl⟩ | exact ⟨oI (broken_3 h9 ((bAt_of hz).trans h12) (nt h18) h26 (nf h23)).symm, rfl⟩ | exact ⟨oI (broken_4 h9 ((bAt_of hz).trans h12) (nt h18) (by first | (rintro ⟨e1, e2⟩; omega) | (rintro ⟨e1, e2⟩; exact absurd (nt h23) (by rw [e2]; decide))) (by omega)).symm, rfl⟩ | exact ⟨oI (broken_ok h9 ((bAt_of hz).trans h12) (nt h18) (by first | (rintro ⟨e1, e2⟩; omega) | (rintro ⟨e1, e2⟩; exact absurd (nt h23) (by rw [e2]; decide))) (by omega)).symm, rfl⟩
      ·
       refine vno rfl rfl rfl rfl rfl ?_
       refine vno rfl rfl rfl rfl rfl ?_
       refine vno rfl rfl rfl rfl rfl ?_
       refine vno rfl rfl rfl rfl rfl ?_
       refine vno rfl rfl rfl rfl rfl ?_
       refine vone rfl (vxq (vpkf rfl rfl) rfl rfl ?_)
       refine vone rfl (vxq (vmv rfl) rfl rfl ?_)
       refine vno rfl rfl rfl rfl rfl ?_
       refine vno rfl rfl rfl rfl rfl ?_
       refine vno rfl rfl rfl rfl rfl ?_
       refine vno rfl rfl rfl rfl rfl ?_
       refine vno rfl rfl rfl rfl rfl ?_
       refine vone rfl (vxq (vpkf rfl rfl) rfl rfl ?_)
       refine vone rfl (vxq (vas rfl) rfl rfl ?_)
       refine vnil ?_
       refine vcondf rfl ?_
       refine vseq ?_
       refine vregion ?_
       refine vone rfl (vxq (vmv rfl) rfl rfl ?_)
       refine vone rfl (vxq (vldn rfl rfl) rfl rfl ?_)
       refine vone rfl (vxq (vcp rfl rfl rfl (c_full L g hokw0)) rfl rfl ?_)
       refine vone rfl (vxq (veql rfl rfl) rfl rfl ?_)
       refine vone rfl (vxq (vmv rfl) rfl rfl ?_)
       refine vsplitd (d := 61) rfl (fun h61 => ?_) (fun h61 => ?_)
       ·
        refine vyes rfl rfl rfl (vxq (vfa rfl) rfl rfl ?_)
        refine vyes rfl rfl rfl (vxq (vld1 rfl rfl) rfl rfl ?_)
        refine vyes rfl rfl rfl (vxq (vfa rfl) rfl rfl ?_)
        refine vyes rfl rfl rfl (vxq (vfa rfl) rfl rfl ?_)
        refine vyes rfl rfl rfl (vxq (vld1 rfl rfl) rfl rfl ?_)
        refine vyes rfl rfl rfl (vxq (vlss rfl rfl) rfl rfl ?_)
        refine vone rfl (vxq (vpkt rfl rfl) rfl rfl ?_)
        refine vone rfl (vxq (vmv rfl) rfl rfl ?_)
        refine vsplitd (d := 69) rfl (fun h69 => ?_) (fun h69 => ?_)
        ·
         refine vyes rfl rfl rfl (vxq (vfa rfl) rfl rfl ?_)
         refine vyes rfl rfl rfl (vxq (vld1 rfl rfl) rfl rfl ?_)
         refine vyes rfl rfl rfl (vxq (vlss rfl rfl) rfl rfl ?_)
         refine vone rfl (vxq (vpkt rfl rfl) rfl rfl ?_)
         refine vone rfl (vxq (vas rfl) rfl rfl ?_)
         refine vnil ?_
         refine vcondd rfl (fun h56 => ?_) (fun h56 => ?_)
         ·
          refine vseq ?_
          refine vregion ?_
          refine vone rfl (vxq (vas rfl) rfl rfl ?_)
          refine vnil ?_
          refine vret (vr1 (H' := H) Tryd.func56 rfl (.tmp rfl) sb ?_)
          first | exact ⟨oI (broken_0 h9).symm, rfl⟩ | exact ⟨oI (broken_1 h9 ((bAt_of hz).trans h12)).symm, rfl⟩ | exact ⟨oI (broken_2 h9 ((bAt_of hz).trans h12) (nf h18)).symm, rfl⟩ | exact ⟨oI (broken_3 h9 ((bAt_of hz).trans h12) (nt h18) h26 (nf h23)).symm, rfl⟩ | exact ⟨oI (broken_4 h9 ((bAt_of hz).trans h12) (nt h18) (by first | (rintro ⟨e1, e2⟩; omega) | (rintro ⟨e1, e2⟩; exact absurd (nt h23) (by rw [e2]; decide))) (by omega)).symm, rfl⟩ | exact ⟨oI (broken_ok h9 ((bAt_of hz).trans h12) (nt h18) (by first | (rintro ⟨e1, e2⟩; omega) | (rintro ⟨e1, e2⟩; exact absurd (nt h23) (by rw [e2]; decide))) (by omega)).symm, rfl⟩
         ·
          refine vskip ?_
          refine vinblock ?_
          refine vseq ?_
          refine vregion ?_
          refine vone rfl (vxq (vas rfl) rfl rfl ?_)
          refine vnil ?_
          refine vret (vr1 (H' := H) Tryd.func56 rfl (.tmp rfl) sb ?_)
          first | exact ⟨oI (broken_0 h9).symm, rfl⟩ | exact ⟨oI (broken_1 h9 ((bAt_of hz).trans h12)).symm, rfl⟩ | exact ⟨oI (broken_2 h9 ((bAt_of hz).trans h12) (nf h18)).symm, rfl⟩ | exact ⟨oI (broken_3 h9 ((bAt_of hz).trans h12) (nt h18) h26 (nf h23)).symm, rfl⟩ | exact ⟨oI (broken_4 h9 ((bAt_of hz).trans h12) (nt h18) (by first | (rintro ⟨e1, e2⟩; omega) | (rintro ⟨e1, e2⟩; exact absurd (nt h23) (by rw [e2]; decide))) (by omega)).symm, rfl⟩ | exact ⟨oI (broken_ok h9 ((bAt_of hz).trans h12) (nt h18) (by first | (rintro ⟨e1, e2⟩; omega) | (rintro ⟨e1, e2⟩; exact absurd (nt h23) (by rw [e2]; decide))) (by omega)).symm, rfl⟩
        ·
         refine vno rfl rfl rfl rfl rfl ?_
         refine vno rfl rfl rfl rfl rfl ?_
         refine vno rfl rfl rfl rfl rfl ?_
         refine vone rfl (vxq (vpkf rfl rfl) rfl rfl ?_)
         refine vone rfl (vxq (vas rfl) rfl rfl ?_)
         refine vnil ?_
         refine vcondf rfl ?_
         refine vskip ?_
         refine vinblock ?_
         refine vseq ?_
         refine vregion ?_
         refine vone rfl (vxq (vas rfl) rfl rfl ?_)
         refine vnil ?_
         refine vret (vr1 (H' := H) Tryd.func56 rfl (.tmp rfl) sb ?_)
         first | exact ⟨oI (broken_0 h9).symm, rfl⟩ | exact ⟨oI (broken_1 h9 ((bAt_of hz).trans h12)).symm, rfl⟩ | exact ⟨oI (broken_2 h9 ((bAt_of hz).trans h12) (nf h18)).symm, rfl⟩ | exact ⟨oI (broken_3 h9 ((bAt_of hz).trans h12) (nt h18) h26 (nf h23)).symm, rfl⟩ | exact ⟨oI (broken_4 h9 ((bAt_of hz).trans h12) (nt h18) (by first | (rintro ⟨e1, e2⟩; omega) | (rintro ⟨e1, e2⟩; exact absurd (nt h23) (by rw [e2]; decide))) (by omega)).symm, rfl⟩ | exact ⟨oI (broken_ok h9 ((bAt_of hz).trans h12) (nt h18) (by first | (rintro ⟨e1, e2⟩; omega) | (rintro ⟨e1, e2⟩; exact absurd (nt h23) (by rw [e2]; decide))) (by omega)).symm, rfl⟩
       ·
        refine vno rfl rfl rfl rfl rfl ?_
        refine vno rfl rfl rfl rfl rfl ?_
        refine vno rfl rfl rfl rfl rfl ?_
        refine vno rfl rfl rfl rfl rfl ?_
        refine vno rfl rfl rfl rfl rfl ?_
        refine vno rfl rfl rfl rfl rfl ?_
        refine vone rfl (vxq (vpkf rfl rfl) rfl rfl ?_)
        refine vone rfl (vxq (vmv rfl) rfl rfl ?_)
        refine vno rfl rfl rfl rfl rfl ?_
        refine vno rfl rfl rfl rfl rfl ?_
        refine vno rfl rfl rfl rfl rfl ?_
        refine vone rfl (vxq (vpkf rfl rfl) rfl rfl ?_)
        refine vone rfl (vxq (vas rfl) rfl rfl ?_)
        refine vnil ?_
        refine vcondf rfl ?_
        refine vskip ?_
        refine vinblock ?_
        refine vseq ?_
        refine vregion ?_
        refine vone rfl (vxq (vas rfl) rfl rfl ?_)
        refine vnil ?_
        refine vret (vr1 (H' := H) Tryd.func56 rfl (.tmp rfl) sb ?_)
        first | exact ⟨oI (broken_0 h9).symm, rfl⟩ | exact ⟨oI (broken_1 h9 ((bAt_of hz).trans h12)).symm, rfl⟩ | exact ⟨oI (broken_2 h9 ((bAt_of hz).trans h12) (nf h18)).symm, rfl⟩ | exact ⟨oI (broken_3 h9 ((bAt_of hz).trans h12) (nt h18) h26 (nf h23)).symm, rfl⟩ | exact ⟨oI (broken_4 h9 ((bAt_of hz).trans h12) (nt h18) (by first | (rintro ⟨e1, e2⟩; omega) | (rintro ⟨e1, e2⟩; exact absurd (nt h23) (by rw [e2]; decide))) (by omega)).symm, rfl⟩ | exact ⟨oI (broken_ok h9 ((bAt_of hz).trans h12) (nt h18) (by first | (rintro ⟨e1, e2⟩; omega) | (rintro ⟨e1, e2⟩; exact absurd (nt h23) (by rw [e2]; decide))) (by omega)).symm, rfl⟩
/-- (paravane/watch.log).after -/
theorem c_after (L : LH) (g : Lg) (H : Heap) [hlg : LgO H L g] (t : Int) (ht : 0 ≤ t ∧ t < g.s.ship.length) (x : Sta) (hx : okSt x) (m : Int) : VHas Tryd.prog 57 [vLg L g, I t, vSt x, I m] (vSt (afterP g t x m)) (H) (H) := by
 obtain ⟨hlen, hokw, hcap⟩ := hlg.facts
 have hokw0 := hokw
 unfold okW at hokw
 unfold okSt at hx
 obtain ⟨z, hz⟩ := get_of_lt g.d (i := t.toNat) (by omega)
 refine vcall_of_vrun Tryd.func57 rfl (N := 51) rfl rfl ?_
 refine vseq ?_
 refine vregion ?_
 refine vone rfl (vxa (vbox rfl rfl) rfl rfl (fun b1 => ?_))
 refine vone rfl (vxa (vbox rfl rfl) rfl rfl (fun b2 => ?_))
 refine vone rfl (vxa valloc rfl rfl (fun b3 => ?_))
 refine vnil ?_
 refine vseq ?_
 refine vregion ?_
 refine vone rfl (vxq (vmv rfl) rfl rfl ?_)
 refine vone rfl (vxq (vbd rfl rfl) rfl rfl ?_)
 refine vone rfl (vxa valloc rfl rfl (fun b4 => ?_))
 refine vone rfl (vxs (vstn rfl rfl rfl rfl rfl) rfl ?_)
 refine vnil ?_
 refine vseq ?_
 refine vseq ?_
 refine vregion ?_
 refine vone rfl (vxq (vmv rfl) rfl rfl ?_)
 refine vone rfl (vxq (vneq rfl rfl) rfl rfl ?_)
 refine vone rfl (vxq (vmv rfl) rfl rfl ?_)
 refine vsplitd (d := 14) rfl (fun h14 => ?_) (fun h14 => ?_)
 ·
  refine vno rfl rfl rfl rfl rfl ?_
  refine vno rfl rfl rfl rfl rfl ?_
  refine vno rfl rfl rfl rfl rfl ?_
  refine vno rfl rfl rfl rfl rfl ?_
  refine vno rfl rfl rfl rfl rfl ?_
  refine vone rfl (vxq (vpkt rfl rfl) rfl rfl ?_)
  refine vone rfl (vxq (vmv rfl) rfl rfl ?_)
  refine vno rfl rfl rfl rfl rfl ?_
  refine vno rfl rfl rfl rfl rfl ?_
  refine vno rfl rfl rfl rfl rfl ?_
  refine vno rfl rfl rfl rfl rfl ?_
  refine vone rfl (vxq (vpkt rfl rfl) rfl rfl ?_)
  refine vnil ?_
  refine vcondt rfl ?_
  refine vseq ?_
  refine vregion ?_
  refine vone rfl (vxq (vldn rfl rfl) rfl rfl ?_)
  refine vone rfl (vxs (vstn rfl rfl rfl rfl rfl) rfl ?_)
  refine vnil ?_
  refine vret (vr1 (H' := H) Tryd.func57 rfl (.celln rfl rfl) sb ?_)
  first | exact ⟨oV (by rw [after_no (.inl h14)]), rfl⟩ | exact ⟨oV (by rw [after_no (.inr (.inl ((bAt_of hz).trans h21)))]), rfl⟩ | exact ⟨oV (by rw [after_no (.inr (.inr (nf h26)))]), rfl⟩ | (rw [after_q (Classical.not_not.1 h14) ((bAt_of hz).trans h21) (nt h26)]; first | (rw [quietP_full h28, if_pos h48]; exact ⟨rfl, rfl⟩) | (rw [quietP_full h28, if_neg h48]; exact ⟨rfl, rfl⟩) | (rw [quietP_qu h28 h35, if_pos h48]; exact ⟨rfl, rfl⟩) | (rw [quietP_qu h28 h35, if_neg h48]; exact ⟨rfl, rfl⟩) | (rw [quietP_no h28 h35]; exact ⟨rfl, rfl⟩))
 ·
  refine vyes rfl rfl rfl (vxq (vfa rfl) rfl rfl ?_)
  refine vyes rfl rfl rfl (vxq (vld1 rfl rfl) rfl rfl ?_)
  refine vyes rfl rfl rfl (vxq (vmv rfl) rfl rfl ?_)
  refine vyes rfl rfl rfl (vxq (visg (enc := encB) rfl rfl (by omega) hz) rfl rfl ?_)
  refine vyes rfl rfl rfl (vxq (vldS1 (enc := encB) rfl hz rfl) rfl rfl ?_)
  refine vone rfl (vxq (vpkf rfl rfl) rfl rfl ?_)
  refine vone rfl (vxq (vmv rfl) rfl rfl ?_)
  refine vsplit (d := 21) rfl (fun h21 => ?_) (fun h21 => ?_)
  ·
   refine vno rfl rfl rfl rfl rfl ?_
   refine vno rfl rfl rfl rfl rfl ?_
   refine vno rfl rfl rfl rfl rfl ?_
   refine vno rfl rfl rfl rfl rfl ?_
   refine vone rfl (vxq (vpkt rfl rfl) rfl rfl ?_)
   refine vnil ?_
   refine vcondt rfl ?_
   refine vseq ?_
   refine vregion ?_
   refine vone rfl (vxq (vldn rfl rfl) rfl rfl ?_)
   refine vone rfl (vxs (vstn rfl rfl rfl rfl rfl) rfl ?_)
   refine vnil ?_
   refine vret (vr1 (H' := H) Tryd.func57 rfl (.celln rfl rfl) sb ?_)
   first | exact ⟨oV (by rw [after_no (.inl h14)]), rfl⟩ | exact ⟨oV (by rw [after_no (.inr (.inl ((bAt_of hz).trans h21)))]), rfl⟩ | exact ⟨oV (by rw [after_no (.inr (.inr (nf h26)))]), rfl⟩ | (rw [after_q (Classical.not_not.1 h14) ((bAt_of hz).trans h21) (nt h26)]; first | (rw [quietP_full h28, if_pos h48]; exact ⟨rfl, rfl⟩) | (rw [quietP_full h28, if_neg h48]; exact ⟨rfl, rfl⟩) | (rw [quietP_qu h28 h35, if_pos h48]; exact ⟨rfl, rfl⟩) | (rw [quietP_qu h28 h35, if_neg h48]; exact ⟨rfl, rfl⟩) | (rw [quietP_no h28 h35]; exact ⟨rfl, rfl⟩))
  ·
   refine vyes rfl rfl rfl (vxq (vldn rfl rfl) rfl rfl ?_)
   refine vyes rfl rfl rfl (vxq (vmv rfl) rfl rfl ?_)
   refine vyes rfl rfl rfl (vxq (vcq rfl rfl rfl (c_watched L g _ t ht)) rfl rfl ?_)
   refine vyes rfl rfl rfl (vxq (vnot rfl) rfl rfl ?_)
   refine vone rfl (vxq (vpkf rfl rfl) rfl rfl ?_)
   refine vnil ?_
   refine vcond rfl (fun h26 => ?_) (fun h26 => ?_)
   ·
    refine vseq ?_
    refine vregion ?_
    refine vone rfl (vxq (vldn rfl rfl) rfl rfl ?_)
    refine vone rfl (vxs (vstn rfl rfl rfl rfl rfl) rfl ?_)
    refine vnil ?_
    refine vret (vr1 (H' := H) Tryd.func57 rfl (.celln rfl rfl) sb ?_)
    first | exact ⟨oV (by rw [after_no (.inl h14)]), rfl⟩ | exact ⟨oV (by rw [after_no (.inr (.inl ((bAt_of hz).trans h21)))]), rfl⟩ | exact ⟨oV (by rw [after_no (.inr (.inr (nf h26)))]), rfl⟩ | (rw [after_q (Classical.not_not.1 h14) ((bAt_of hz).trans h21) (nt h26)]; first | (rw [quietP_full h28, if_pos h48]; exact ⟨rfl, rfl⟩) | (rw [quietP_full h28, if_neg h48]; exact ⟨rfl, rfl⟩) | (rw [quietP_qu h28 h35, if_pos h48]; exact ⟨rfl, rfl⟩) | (rw [quietP_qu h28 h35, if_neg h48]; exact ⟨rfl, rfl⟩) | (rw [quietP_no h28 h35]; exact ⟨rfl, rfl⟩))
   ·
    refine vskip ?_
    refine vseq ?_
    refine vblock ?_
    refine vseq ?_
    refine vdraw0 [(.q, 0), (.q, 1), (.q, 2), (.q, 3), (.q, 4), (.q, 5)] Tryd.mixed (by kernel_rfl) (by kernel_rfl) ?_
    refine vdq (mone rfl) (vfa rfl) rfl rfl ?_
    refine vdq (mone rfl) (vld1 rfl rfl) rfl rfl ?_
    refine vdq (mone rfl) (vldn rfl rfl) rfl rfl ?_
    refine vdq (mone rfl) (vcp rfl rfl rfl (c_full L g hokw0)) rfl rfl ?_
    refine vdq (mone rfl) (veql rfl rfl) rfl rfl ?_
    refine vdq (mone rfl) (vas rfl) rfl rfl ?_
    refine vdend rfl ?_
    refine vcondd rfl (fun h28 => ?_) (fun h28 => ?_)
    ·
     refine vregion ?_
     refine vone rfl (vxq (vfa rfl) rfl rfl ?_)
     refine vone rfl (vxs (vst1 rfl rfl rfl rfl) rfl ?_)
     refine vnil ?_
     refine vinblock ?_
     refine vseq ?_
     refine vseq ?_
     refine vregion ?_
     refine vone rfl (vxq (vfa rfl) rfl rfl ?_)
     refine vone rfl (vxq (vld1 rfl rfl) rfl rfl ?_)
     refine vone rfl (vxq (vfa rfl) rfl rfl ?_)
     refine vone rfl (vxq (vfa rfl) rfl rfl ?_)
     refine vone rfl (vxq (vld1 rfl rfl) rfl rfl ?_)
     refine vone rfl (vxq (vgtr rfl rfl) rfl rfl ?_)
     refine vnil ?_
     refine vcondd rfl (fun h48 => ?_) (fun h48 => ?_)
     ·
      refine vregion ?_
      refine vone rfl (vxq (vfa rfl) rfl rfl ?_)
      refine vone rfl (vxs (vst1 rfl rfl rfl rfl) rfl ?_)
      refine vnil ?_
      refine vseq ?_
      refine vregion ?_
      refine vone rfl (vxq (vldn rfl rfl) rfl rfl ?_)
      refine vone rfl (vxs (vstn rfl rfl rfl rfl rfl) rfl ?_)
      refine vnil ?_
      refine vret (vr1 (H' := H) Tryd.func57 rfl (.celln rfl rfl) sb ?_)
      first | exact ⟨oV (by rw [after_no (.inl h14)]), rfl⟩ | exact ⟨oV (by rw [after_no (.inr (.inl ((bAt_of hz).trans h21)))]), rfl⟩ | exact ⟨oV (by rw [after_no (.inr (.inr (nf h26)))]), rfl⟩ | (rw [after_q (Classical.not_not.1 h14) ((bAt_of hz).trans h21) (nt h26)]; first | (rw [quietP_full h28, if_pos h48]; exact ⟨rfl, rfl⟩) | (rw [quietP_full h28, if_neg h48]; exact ⟨rfl, rfl⟩) | (rw [quietP_qu h28 h35, if_pos h48]; exact ⟨rfl, rfl⟩) | (rw [quietP_qu h28 h35, if_neg h48]; exact ⟨rfl, rfl⟩) | (rw [quietP_no h28 h35]; exact ⟨rfl, rfl⟩))
     ·
      refine vskip ?_
      refine vseq ?_
      refine vregion ?_
      refine vone rfl (vxq (vldn rfl rfl) rfl rfl ?_)
      refine vone rfl (vxs (vstn rfl rfl rfl rfl rfl) rfl ?_)
      refine vnil ?_
      refine vret (vr1 (H' := H) Tryd.func57 rfl (.celln rfl rfl) sb ?_)
      first | exact ⟨oV (by rw [after_no (.inl h14)]), rfl⟩ | exact ⟨oV (by rw [after_no (.inr (.inl ((bAt_of hz).trans h21)))]), rfl⟩ | exact ⟨oV (by rw [after_no (.inr (.inr (nf h26)))]), rfl⟩ | (rw [after_q (Classical.not_not.1 h14) ((bAt_of hz).trans h21) (nt h26)]; first | (rw [quietP_full h28, if_pos h48]; exact ⟨rfl, rfl⟩) | (rw [quietP_full h28, if_neg h48]; exact ⟨rfl, rfl⟩) | (rw [quietP_qu h28 h35, if_pos h48]; exact ⟨rfl, rfl⟩) | (rw [quietP_qu h28 h35, if_neg h48]; exact ⟨rfl, rfl⟩) | (rw [quietP_no h28 h35]; exact ⟨rfl, rfl⟩))
    ·
     refine vseq ?_
     refine vregion ?_
     refine vone rfl (vxq (vfa rfl) rfl rfl ?_)
     refine vone rfl (vxq (vld1 rfl rfl) rfl rfl ?_)
     refine vone rfl (vxq (vgtr rfl rfl) rfl rfl ?_)
     refine vone rfl (vxq (vas rfl) rfl rfl ?_)
     refine vnil ?_
     refine vcondd rfl (fun h35 => ?_) (fun h35 => ?_)
     ·
      refine vregion ?_
      refine vone rfl (vxq (vfa rfl) rfl rfl ?_)
      refine vone rfl (vxq (vld1 rfl rfl) rfl rfl ?_)
      refine vone rfl (vxq (vadd rfl rfl (by unfold InR; omega)) rfl rfl ?_)
      refine vone rfl (vxq (vfa rfl) rfl rfl ?_)
      refine vone rfl (vxs (vst1 rfl rfl rfl rfl) rfl ?_)
      refine vnil ?_
      refine vinblock ?_
      refine vseq ?_
      refine vseq ?_
      refine vregion ?_
      refine vone rfl (vxq (vfa rfl) rfl rfl ?_)
      refine vone rfl (vxq (vld1 rfl rfl) rfl rfl ?_)
      refine vone rfl (vxq (vfa rfl) rfl rfl ?_)
      refine vone rfl (vxq (vfa rfl) rfl rfl ?_)
      refine vone rfl (vxq (vld1 rfl rfl) rfl rfl ?_)
      refine vone rfl (vxq (vgtr rfl rfl) rfl rfl ?_)
      refine vnil ?_
      refine vcondd rfl (fun h48 => ?_) (fun h48 => ?_)
      ·
       refine vregion ?_
       refine vone rfl (vxq (vfa rfl) rfl rfl ?_)
       refine vone rfl (vxs (vst1 rfl rfl rfl rfl) rfl ?_)
       refine vnil ?_
       refine vseq ?_
       refine vregion ?_
       refine vone rfl (vxq (vldn rfl rfl) rfl rfl ?_)
       refine vone rfl (vxs (vstn rfl rfl rfl rfl rfl) rfl ?_)
       refine vnil ?_
       refine vret (vr1 (H' := H) Tryd.func57 rfl (.celln rfl rfl) sb ?_)
       first | exact ⟨oV (by rw [after_no (.inl h14)]), rfl⟩ | exact ⟨oV (by rw [after_no (.inr (.inl ((bAt_of hz).trans h21)))]), rfl⟩ | exact ⟨oV (by rw [after_no (.inr (.inr (nf h26)))]), rfl⟩ | (rw [after_q (Classical.not_not.1 h14) ((bAt_of hz).trans h21) (nt h26)]; first | (rw [quietP_full h28, if_pos h48]; exact ⟨rfl, rfl⟩) | (rw [quietP_full h28, if_neg h48]; exact ⟨rfl, rfl⟩) | (rw [quietP_qu h28 h35, if_pos h48]; exact ⟨rfl, rfl⟩) | (rw [quietP_qu h28 h35, if_neg h48]; exact ⟨rfl, rfl⟩) | (rw [quietP_no h28 h35]; exact ⟨rfl, rfl⟩))
      ·
       refine vskip ?_
       refine vseq ?_
       refine vregion ?_
       refine vone rfl (vxq (vldn rfl rfl) rfl rfl ?_)
       refine vone rfl (vxs (vstn rfl rfl rfl rfl rfl) rfl ?_)
       refine vnil ?_
       refine vret (vr1 (H' := H) Tryd.func57 rfl (.celln rfl rfl) sb ?_)
       first | exact ⟨oV (by rw [after_no (.inl h14)]), rfl⟩ | exact ⟨oV (by rw [after_no (.inr (.inl ((bAt_of hz).trans h21)))]), rfl⟩ | exact ⟨oV (by rw [after_no (.inr (.inr (nf h26)))]), rfl⟩ | (rw [after_q (Classical.not_not.1 h14) ((bAt_of hz).trans h21) (nt h26)]; first | (rw [quietP_full h28, if_pos h48]; exact ⟨rfl, rfl⟩) | (rw [quietP_full h28, if_neg h48]; exact ⟨rfl, rfl⟩) | (rw [quietP_qu h28 h35, if_pos h48]; exact ⟨rfl, rfl⟩) | (rw [quietP_qu h28 h35, if_neg h48]; exact ⟨rfl, rfl⟩) | (rw [quietP_no h28 h35]; exact ⟨rfl, rfl⟩))
     ·
      refine vskip ?_
      refine vinblock ?_
      refine vseq ?_
      refine vseq ?_
      refine vregion ?_
      refine vone rfl (vxq (vfa rfl) rfl rfl ?_)
      refine vone rfl (vxq (vld1 rfl rfl) rfl rfl ?_)
      refine vone rfl (vxq (vfa rfl) rfl rfl ?_)
      refine vone rfl (vxq (vfa rfl) rfl rfl ?_)
      refine vone rfl (vxq (vld1 rfl rfl) rfl rfl ?_)
      refine vone rfl (vxq (vgtr rfl rfl) rfl rfl ?_)
      refine vnil ?_
      refine vcondd rfl (fun h48 => ?_) (fun h48 => ?_)
      ·
       refine vregion ?_
       refine vone rfl (vxq (vfa rfl) rfl rfl ?_)
       refine vone rfl (vxs (vst1 rfl rfl rfl rfl) rfl ?_)
       refine vnil ?_
       refine vseq ?_
       refine vregion ?_
       refine vone rfl (vxq (vldn rfl rfl) rfl rfl ?_)
       refine vone rfl (vxs (vstn rfl rfl rfl rfl rfl) rfl ?_)
       refine vnil ?_
       refine vret (vr1 (H' := H) Tryd.func57 rfl (.celln rfl rfl) sb ?_)
       first | exact ⟨oV (by rw [after_no (.inl h14)]), rfl⟩ | exact ⟨oV (by rw [after_no (.inr (.inl ((bAt_of hz).trans h21)))]), rfl⟩ | exact ⟨oV (by rw [after_no (.inr (.inr (nf h26)))]), rfl⟩ | (rw [after_q (Classical.not_not.1 h14) ((bAt_of hz).trans h21) (nt h26)]; first | (rw [quietP_full h28, if_pos h48]; exact ⟨rfl, rfl⟩) | (rw [quietP_full h28, if_neg h48]; exact ⟨rfl, rfl⟩) | (rw [quietP_qu h28 h35, if_pos h48]; exact ⟨rfl, rfl⟩) | (rw [quietP_qu h28 h35, if_neg h48]; exact ⟨rfl, rfl⟩) | (rw [quietP_no h28 h35]; exact ⟨rfl, rfl⟩))
      ·
       refine vskip ?_
       refine vseq ?_
       refine vregion ?_
       refine vone rfl (vxq (vldn rfl rfl) rfl rfl ?_)
       refine vone rfl (vxs (vstn rfl rfl rfl rfl rfl) rfl ?_)
       refine vnil ?_
       refine vret (vr1 (H' := H) Tryd.func57 rfl (.celln rfl rfl) sb ?_)
       first | exact ⟨oV (by rw [after_no (.inl h14)]), rfl⟩ | exact ⟨oV (by rw [after_no (.inr (.inl ((bAt_of hz).trans h21)))]), rfl⟩ | exact ⟨oV (by rw [after_no (.inr (.inr (nf h26)))]), rfl⟩ | (rw [after_q (Classical.not_not.1 h14) ((bAt_of hz).trans h21) (nt h26)]; first | (rw [quietP_full h28, if_pos h48]; exact ⟨rfl, rfl⟩) | (rw [quietP_full h28, if_neg h48]; exact ⟨rfl, rfl⟩) | (rw [quietP_qu h28 h35, if_pos h48]; exact ⟨rfl, rfl⟩) | (rw [quietP_qu h28 h35, if_neg h48]; exact ⟨rfl, rfl⟩) | (rw [quietP_no h28 h35]; exact ⟨rfl, rfl⟩))
end Go.Proofs.YtaplkoimhecacaaDoor
