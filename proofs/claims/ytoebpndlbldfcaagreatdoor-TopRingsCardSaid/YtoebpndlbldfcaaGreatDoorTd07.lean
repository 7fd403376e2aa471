/-
  Parts of the proof: rules of the engine, walks of functions, plain Lean. No condition.
-/
import Derived.Test.YtoebpndlbldfcaaGreatDoorTd06
namespace Go.Proofs.YtoebpndlbldfcaaGreatDoor
open Go
set_option maxRecDepth 100000
attribute [local irreducible] tightP hullP rootP farP rows endsOf
abbrev clSt (x : Sta) : List Value := [I x.md, I x.qu]
abbrev vSt (x : Sta) : Value := .agg (clSt x).toArray
theorem start_no1 {g : Lg} {t : Int} (h : t < g.w.pre) : startP g t = false := by unfold startP; rw [decide_eq_false (by omega)]; rfl
theorem start_no2 {g : Lg} {t : Int} (h1 : allTr g.s.eyes (t - g.w.pre) t = false) (h2 : allTr g.s.ears (t - g.w.pre) t = false) : startP g t = false := by unfold startP; rw [h1, h2]; simp
theorem start_is {g : Lg} {t : Int} (h : ¬ t < g.w.pre) (h1 : allTr g.s.eyes (t - g.w.pre) t = true ∨ allTr g.s.ears (t - g.w.pre) t = true) : startP g t = !anyTr g.d (max 0 (t - g.w.delay)) (t + 1) := by
  unfold startP; rw [decide_eq_true (by omega)]
  rcases h1 with h1 | h1 <;> rw [h1] <;> simp
theorem nf {b : Bool} (h : (!b) = true) : b = false := by cases b <;> simp_all
theorem nt {b : Bool} (h : (!b) = false) : b = true := by cases b <;> simp_all
section
variable {g : Lg} {t m : Int} {x : Sta}
theorem broken_0 (h : m = 0) : brokenP g t x m = 0 := if_pos h
theorem broken_1 (h : m ≠ 0) (hd : bAt g.d t = true) : brokenP g t x m = 1 := by unfold brokenP; rw [if_neg h, if_pos hd]
theorem broken_2 (h : m ≠ 0) (hd : bAt g.d t = false) (hl : lookB g t = false) : brokenP g t x m = 2 := by unfold brokenP; rw [if_neg h, if_neg (by rw [hd]; decide), if_pos hl]
theorem broken_3 (h : m ≠ 0) (hd : bAt g.d t = false) (hl : lookB g t = true) (h1 : m = 1) (hs : startP g t = false) : brokenP g t x m = 3 := by
  unfold brokenP; rw [if_neg h, if_neg (by rw [hd]; decide), if_neg (by rw [hl]; decide), if_pos ⟨h1, hs⟩]
theorem broken_4 (h : m ≠ 0) (hd : bAt g.d t = false) (hl : lookB g t = true) (hs : ¬ (m = 1 ∧ startP g t = false)) (h4 : (m = 1 ∧ x.md ≠ 0 ∨ (1 < m ∧ m ≤ g.w.soft ∧ x.md ≠ m - 1)) ∨ (m = g.w.soft + 1 ∧ x.md < g.w.soft ∧ x.qu < 0)) : brokenP g t x m = 4 := by
  unfold brokenP; rw [if_neg h, if_neg (by rw [hd]; decide), if_neg (by rw [hl]; decide), if_neg hs]
  rcases h4 with h4 | h4
  · rw [if_pos h4]
  · split
    · rfl
    · first | rfl | rw [if_pos h4]
theorem broken_ok (h : m ≠ 0) (hd : bAt g.d t = false) (hl : lookB g t = true) (hs : ¬ (m = 1 ∧ startP g t = false)) (h4 : ¬ ((m = 1 ∧ x.md ≠ 0 ∨ (1 < m ∧ m ≤ g.w.soft ∧ x.md ≠ m - 1)) ∨ (m = g.w.soft + 1 ∧ x.md < g.w.soft ∧ x.qu < 0))) : brokenP g t x m = 0 := by
  unfold brokenP; rw [if_neg h, if_neg (by rw [hd]; decide), if_neg (by rw [hl]; decide), if_neg hs, if_neg (fun e => h4 (.inl e)), if_neg (fun e => h4 (.inr e))]
theorem after_no (h : m ≠ 0 ∨ bAt g.d t = true ∨ lookB g t = false) : afterP g t x m = ⟨m, -1⟩ := by unfold afterP; rw [if_pos h]
theorem after_q (h1 : m = 0) (h2 : bAt g.d t = false) (h3 : lookB g t = true) : afterP g t x m = ⟨m, quietP g x⟩ := by
  unfold afterP; rw [if_neg]; rintro (h | h | h)
  · exact h h1
  · rw [h2] at h; cases h
  · rw [h3] at h; cases h
end
def okSt (x : Sta) : Prop := -1 ≤ x.qu ∧ x.qu ≤ 16
theorem after_okSt {g : Lg} (hw : okW g.w) (t : Int) (x : Sta) (m : Int) : okSt (afterP g t x m) := by
  unfold okW at hw
  unfold afterP okSt
  split
  · simp only; omega
  · simp only
    by_cases h1 : x.md = g.w.soft + 1
    · rw [quietP_full h1]; split <;> omega
    · by_cases h2 : 0 < x.qu
      · rw [quietP_qu h1 h2]; split <;> omega
      · rw [quietP_no h1 h2]; omega
theorem sta0_ok : okSt sta0 := by unfold okSt sta0; simp only; omega
theorem c_starts (L : LH) (g : Lg) (H : Heap) [hlg : LgO H L g] (t : Int) (ht : 0 ≤ t ∧ t < g.s.ship.length) : VHas Tryz.prog 77 [vLg L g, I t] (.bool (startP g t)) (H) (H) := by
 obtain ⟨hlen, hokw, hcap⟩ := hlg.facts
 have hokw0 := hokw
 unfold okW at hokw
 refine CV 43 Tryz.func77 ?_
 refine KK2 (BX fun b1 => ?_)
 refine QA (vnil (vseq (KK2 ?_)))
 refine QM ?_
 refine QF ?_
 refine QF ?_
 refine QL ?_
 refine QS ?_
 refine QM ?_
 refine vsplitd (d := 10) rfl (fun h10 => ?_) (fun h10 => ?_)
 ·
  refine NO4 ?_
  refine NO4 ?_
  refine NO ?_
  refine vnou rfl rfl rfl rfl rfl ?_
  refine vnou rfl rfl rfl rfl rfl ?_
  refine vnou rfl rfl rfl rfl rfl ?_
  refine vnou rfl rfl rfl rfl rfl ?_
  refine vnou rfl rfl rfl rfl rfl ?_
  refine vnou rfl rfl rfl rfl rfl ?_
  refine vnou rfl rfl rfl rfl rfl ?_
  refine vnou rfl rfl rfl rfl rfl ?_
  refine NO ?_
  refine QT (vnil ?_)
  refine vcondt rfl (KK2 (QA (vnil ?_)))
  refine vret (V1 (H) Tryz.func77 ?_)
  exact ⟨oV (by rw [start_no1 h10]), rfl⟩
 ·
  refine YN ?_
  refine YF ?_
  refine YF ?_
  refine YF ?_
  refine YL ?_
  refine YM ?_
  refine YY (vcq rfl rfl rfl (c_always L g hokw0 g.s.eyes _ _ hcap.1 _ t (by omega) (by omega))) rfl ?_
  refine YY (vnot rfl) rfl ?_
  refine YM ?_
  refine vsplit (d := 19) rfl (fun h19 => ?_) (fun h19 => ?_)
  ·
   refine YN ?_
   refine YF ?_
   refine YF ?_
   refine YF ?_
   refine YL ?_
   refine YM ?_
   refine YY (vcq rfl rfl rfl (c_always L g hokw0 g.s.ears _ _ hcap.2.1 _ t (by omega) (by omega))) rfl ?_
   refine YY (vnot rfl) rfl ?_
   refine YT ?_
   refine QU (vnil ?_)
   refine vcond rfl (fun h29 => ?_) (fun h29 => ?_)
   ·
    refine KK2 (QA (vnil ?_))
    refine vret (V1 (H) Tryz.func77 ?_)
    exact ⟨oV (by rw [start_no2 (nf h19) (nf h29)]), rfl⟩
   ·
    refine vskip (KK2 (QF ?_))
    refine QL ?_
    refine QM ?_
    refine QF ?_
    refine QF ?_
    refine QL ?_
    refine QQ (vsub rfl rfl (by unfold InR; omega)) rfl ?_
    refine QQ (vmax2 rfl rfl) rfl ?_
    refine QM ?_
    refine QQ (vadd rfl rfl (by unfold InR; omega)) rfl ?_
    refine QQ (vslc rfl rfl rfl (by omega) (by omega) (by omega)) rfl ?_
    refine QQ (vcq rfl rfl rfl ((haveI := hlg.d.part (c := L.dc) (l := (max 0 (t - g.w.delay)).toNat) (m := (t + 1).toNat) (by omega); q_ContainsB ((g.d.drop (max 0 (t - g.w.delay)).toNat).take ((t + 1).toNat - (max 0 (t - g.w.delay)).toNat)) true _ _ _ (by rw [List.length_take, List.length_drop]; omega) (by omega) _))) rfl ?_
    refine QQ (vnot rfl) rfl ?_
    refine QA (vnil ?_)
    refine vret (V1 (H) Tryz.func77 ?_)
    exact ⟨oV (by rw [start_is h10 (by first | exact .inl (nt h19) | exact .inr (nt h29)), ← part_tr (by omega) (by omega) (by omega), show (t + 1).toNat - (max 0 (t - g.w.delay)).toNat = (t + 1 - max 0 (t - g.w.delay)).toNat by omega]), rfl⟩
  ·
   refine NO4 ?_
   refine NO4 ?_
   refine YU ?_
   refine QU (vnil ?_)
   refine vcondf rfl (vskip (KK2 (QF ?_)))
   refine QL ?_
   refine QM ?_
   refine QF ?_
   refine QF ?_
   refine QL ?_
   refine QQ (vsub rfl rfl (by unfold InR; omega)) rfl ?_
   refine QQ (vmax2 rfl rfl) rfl ?_
   refine QM ?_
   refine QQ (vadd rfl rfl (by unfold InR; omega)) rfl ?_
   refine QQ (vslc rfl rfl rfl (by omega) (by omega) (by omega)) rfl ?_
   refine QQ (vcq rfl rfl rfl ((haveI := hlg.d.part (c := L.dc) (l := (max 0 (t - g.w.delay)).toNat) (m := (t + 1).toNat) (by omega); q_ContainsB ((g.d.drop (max 0 (t - g.w.delay)).toNat).take ((t + 1).toNat - (max 0 (t - g.w.delay)).toNat)) true _ _ _ (by rw [List.length_take, List.length_drop]; omega) (by omega) _))) rfl ?_
   refine QQ (vnot rfl) rfl ?_
   refine QA (vnil ?_)
   refine vret (V1 (H) Tryz.func77 ?_)
   exact ⟨oV (by rw [start_is h10 (by first | exact .inl (nt h19) | exact .inr (nt h29)), ← part_tr (by omega) (by omega) (by omega), show (t + 1).toNat - (max 0 (t - g.w.delay)).toNat = (t + 1 - max 0 (t - g.w.delay)).toNat by omega]), rfl⟩
theorem c_broken (L : LH) (g : Lg) (H : Heap) [hlg : LgO H L g] (t : Int) (ht : 0 ≤ t ∧ t < g.s.ship.length) (x : Sta) (m : Int) : VHas Tryz.prog 58 [vLg L g, I t, vSt x, I m] (I (brokenP g t x m)) (H) (H) := by
 obtain ⟨hlen, hokw, hcap⟩ := hlg.facts
 have hokw0 := hokw
 unfold okW at hokw
 obtain ⟨z, hz⟩ := get_of_lt g.d (i := t.toNat) (by omega)
 refine CV 74 Tryz.func58 ?_
 refine KK2 (BX fun b1 => ?_)
 refine BX fun b2 => ?_
 refine QA (vnil (vseq (vblock (KK2 ?_))))
 refine QM ?_
 refine QE ?_
 refine QA (vnil ?_)
 refine vcondd rfl (fun h9 => ?_) (fun h9 => ?_)
 ·
  refine KK2 (QA (vnil ?_))
  refine vret (V1 (H) Tryz.func58 ?_)
  exact ⟨oI (broken_0 h9).symm, rfl⟩
 ·
  refine KK2 (QF ?_)
  refine QL ?_
  refine QM ?_
  refine QQ (visg (enc := encB) rfl rfl (by omega) hz) rfl ?_
  refine QQ (vldS1 (enc := encB) rfl hz rfl) rfl ?_
  refine QA (vnil ?_)
  refine vcond rfl (fun h12 => ?_) (fun h12 => ?_)
  ·
   refine KK2 (QA (vnil ?_))
   refine vret (V1 (H) Tryz.func58 ?_)
   exact ⟨oI (broken_1 h9 ((bAt_of hz).trans h12)).symm, rfl⟩
  ·
   refine KK2 (QN ?_)
   refine QM ?_
   refine QQ (vcq rfl rfl rfl (c_watched L g _ t ht)) rfl ?_
   refine QQ (vnot rfl) rfl ?_
   refine QA (vnil ?_)
   refine vcond rfl (fun h18 => ?_) (fun h18 => ?_)
   ·
    refine KK2 (QA (vnil ?_))
    refine vret (V1 (H) Tryz.func58 ?_)
    exact ⟨oI (broken_2 h9 ((bAt_of hz).trans h12) (nf h18)).symm, rfl⟩
   ·
    refine KK2 (QM ?_)
    refine QE ?_
    refine QM ?_
    refine vsplitd (d := 26) rfl (fun h26 => ?_) (fun h26 => ?_)
    ·
     refine YN ?_
     refine YM ?_
     refine YY (vcq rfl rfl rfl (c_starts L g _ t ht)) rfl ?_
     refine YY (vnot rfl) rfl ?_
     refine QT ?_
     refine QA (vnil ?_)
     refine vcond rfl (fun h23 => ?_) (fun h23 => ?_)
     ·
      refine KK2 (QA (vnil ?_))
      refine vret (V1 (H) Tryz.func58 ?_)
      exact ⟨oI (broken_3 h9 ((bAt_of hz).trans h12) (nt h18) h26 (nf h23)).symm, rfl⟩
     ·
      refine vseq (KK2 (QM ?_))
      refine QE ?_
      refine QM ?_
      refine vsplitd (d := 35) rfl (fun h35 => ?_) (fun h35 => ?_)
      ·
       refine YF ?_
       refine YL ?_
       refine YG ?_
       refine QT ?_
       refine QA (vnil ?_)
       refine vcondd rfl (fun h32 => ?_) (fun h32 => ?_)
       ·
        refine vskip ?_
        refine vcondd rfl (fun h32 => ?_) (fun h32 => ?_)
        ·
         refine KK2 (QA (vnil ?_))
         refine vret (V1 (H) Tryz.func58 ?_)
         exact ⟨oI (broken_4 h9 ((bAt_of hz).trans h12) (nt h18) (by first | (rintro ⟨e1, e2⟩; omega) | (rintro ⟨e1, e2⟩; exact absurd (nt h23) (by rw [e2]; decide))) (by omega)).symm, rfl⟩
        ·
         refine KK2 (QM ?_)
         refine QN ?_
         refine QQ (vcp rfl rfl rfl (c_full L g hokw0)) rfl ?_
         refine QE ?_
         refine QM ?_
         refine vsplitd (d := 61) rfl (fun h61 => ?_) (fun h61 => ?_)
         ·
          refine YF ?_
          refine YL ?_
          refine YF ?_
          refine YF ?_
          refine YL ?_
          refine YS ?_
          refine QT ?_
          refine QM ?_
          refine vsplitd (d := 69) rfl (fun h69 => ?_) (fun h69 => ?_)
          ·
           refine YF ?_
           refine YL ?_
           refine YS ?_
           refine QT ?_
           refine QA (vnil ?_)
           refine vcondd rfl (fun h56 => ?_) (fun h56 => ?_)
           ·
            refine KK2 (QA (vnil ?_))
            refine vret (V1 (H) Tryz.func58 ?_)
            exact ⟨oI (broken_4 h9 ((bAt_of hz).trans h12) (nt h18) (by first | (rintro ⟨e1, e2⟩; omega) | (rintro ⟨e1, e2⟩; exact absurd (nt h23) (by rw [e2]; decide))) (by omega)).symm, rfl⟩
           ·
            refine vskip (vinblock (KK2 (QA (vnil ?_))))
            refine vret (V1 (H) Tryz.func58 ?_)
            exact ⟨oI (broken_ok h9 ((bAt_of hz).trans h12) (nt h18) (by first | (rintro ⟨e1, e2⟩; omega) | (rintro ⟨e1, e2⟩; exact absurd (nt h23) (by rw [e2]; decide))) (by omega)).symm, rfl⟩
          ·
           refine NO3 ?_
           refine QU ?_
           refine QA (vnil ?_)
           refine vcondf rfl (vskip (vinblock (KK2 (QA (vnil ?_)))))
           refine vret (V1 (H) Tryz.func58 ?_)
           exact ⟨oI (broken_ok h9 ((bAt_of hz).trans h12) (nt h18) (by first | (rintro ⟨e1, e2⟩; omega) | (rintro ⟨e1, e2⟩; exact absurd (nt h23) (by rw [e2]; decide))) (by omega)).symm, rfl⟩
         ·
          refine NO4 ?_
          refine NO2 ?_
          refine QU ?_
          refine QM ?_
          refine NO3 ?_
          refine QU ?_
          refine QA (vnil ?_)
          refine vcondf rfl (vskip (vinblock (KK2 (QA (vnil ?_)))))
          refine vret (V1 (H) Tryz.func58 ?_)
          exact ⟨oI (broken_ok h9 ((bAt_of hz).trans h12) (nt h18) (by first | (rintro ⟨e1, e2⟩; omega) | (rintro ⟨e1, e2⟩; exact absurd (nt h23) (by rw [e2]; decide))) (by omega)).symm, rfl⟩
       ·
        refine vregion (QM ?_)
        refine QQ (vgtr rfl rfl) rfl ?_
        refine QM ?_
        refine vsplitd (d := 42) rfl (fun h42 => ?_) (fun h42 => ?_)
        ·
         refine YM ?_
         refine YF ?_
         refine YF ?_
         refine YL ?_
         refine YY (vleq rfl rfl) rfl ?_
         refine QT ?_
         refine QM ?_
         refine vsplitd (d := 49) rfl (fun h49 => ?_) (fun h49 => ?_)
         ·
          refine YF ?_
          refine YL ?_
          refine YM ?_
          refine YY (vsub rfl rfl (by unfold InR; omega)) rfl ?_
          refine YG ?_
          refine QT ?_
          refine QA (vnil ?_)
          refine vcondd rfl (fun h32 => ?_) (fun h32 => ?_)
          ·
           refine KK2 (QA (vnil ?_))
           refine vret (V1 (H) Tryz.func58 ?_)
           exact ⟨oI (broken_4 h9 ((bAt_of hz).trans h12) (nt h18) (by first | (rintro ⟨e1, e2⟩; omega) | (rintro ⟨e1, e2⟩; exact absurd (nt h23) (by rw [e2]; decide))) (by omega)).symm, rfl⟩
          ·
           refine KK2 (QM ?_)
           refine QN ?_
           refine QQ (vcp rfl rfl rfl (c_full L g hokw0)) rfl ?_
           refine QE ?_
           refine QM ?_
           refine vsplitd (d := 61) rfl (fun h61 => ?_) (fun h61 => ?_)
           ·
            refine YF ?_
            refine YL ?_
            refine YF ?_
            refine YF ?_
            refine YL ?_
            refine YS ?_
            refine QT ?_
            refine QM ?_
            refine vsplitd (d := 69) rfl (fun h69 => ?_) (fun h69 => ?_)
            ·
             refine YF ?_
             refine YL ?_
             refine YS ?_
             refine QT ?_
             refine QA (vnil ?_)
             refine vcondd rfl (fun h56 => ?_) (fun h56 => ?_)
             ·
              refine KK2 (QA (vnil ?_))
              refine vret (V1 (H) Tryz.func58 ?_)
              exact ⟨oI (broken_4 h9 ((bAt_of hz).trans h12) (nt h18) (by first | (rintro ⟨e1, e2⟩; omega) | (rintro ⟨e1, e2⟩; exact absurd (nt h23) (by rw [e2]; decide))) (by omega)).symm, rfl⟩
             ·
              refine vskip (vinblock (KK2 (QA (vnil ?_))))
              refine vret (V1 (H) Tryz.func58 ?_)
              exact ⟨oI (broken_ok h9 ((bAt_of hz).trans h12) (nt h18) (by first | (rintro ⟨e1, e2⟩; omega) | (rintro ⟨e1, e2⟩; exact absurd (nt h23) (by rw [e2]; decide))) (by omega)).symm, rfl⟩
            ·
             refine NO3 ?_
             refine QU ?_
             refine QA (vnil ?_)
             refine vcondf rfl (vskip (vinblock (KK2 (QA (vnil ?_)))))
             refine vret (V1 (H) Tryz.func58 ?_)
             exact ⟨oI (broken_ok h9 ((bAt_of hz).trans h12) (nt h18) (by first | (rintro ⟨e1, e2⟩; omega) | (rintro ⟨e1, e2⟩; exact absurd (nt h23) (by rw [e2]; decide))) (by omega)).symm, rfl⟩
           ·
            refine NO4 ?_
            refine NO2 ?_
            refine QU ?_
            refine QM ?_
            refine NO3 ?_
            refine QU ?_
            refine QA (vnil ?_)
            refine vcondf rfl (vskip (vinblock (KK2 (QA (vnil ?_)))))
            refine vret (V1 (H) Tryz.func58 ?_)
            exact ⟨oI (broken_ok h9 ((bAt_of hz).trans h12) (nt h18) (by first | (rintro ⟨e1, e2⟩; omega) | (rintro ⟨e1, e2⟩; exact absurd (nt h23) (by rw [e2]; decide))) (by omega)).symm, rfl⟩
         ·
          refine NO4 ?_
          refine NO ?_
          refine QU ?_
          refine QA (vnil ?_)
          refine vcondf rfl (KK2 (QM ?_))
          refine QN ?_
          refine QQ (vcp rfl rfl rfl (c_full L g hokw0)) rfl ?_
          refine QE ?_
          refine QM ?_
          refine vsplitd (d := 61) rfl (fun h61 => ?_) (fun h61 => ?_)
          ·
           refine YF ?_
           refine YL ?_
           refine YF ?_
           refine YF ?_
           refine YL ?_
           refine YS ?_
           refine QT ?_
           refine QM ?_
           refine vsplitd (d := 69) rfl (fun h69 => ?_) (fun h69 => ?_)
           ·
            refine YF ?_
            refine YL ?_
            refine YS ?_
            refine QT ?_
            refine QA (vnil ?_)
            refine vcondd rfl (fun h56 => ?_) (fun h56 => ?_)
            ·
             refine KK2 (QA (vnil ?_))
             refine vret (V1 (H) Tryz.func58 ?_)
             exact ⟨oI (broken_4 h9 ((bAt_of hz).trans h12) (nt h18) (by first | (rintro ⟨e1, e2⟩; omega) | (rintro ⟨e1, e2⟩; exact absurd (nt h23) (by rw [e2]; decide))) (by omega)).symm, rfl⟩
            ·
             refine vskip (vinblock (KK2 (QA (vnil ?_))))
             refine vret (V1 (H) Tryz.func58 ?_)
             exact ⟨oI (broken_ok h9 ((bAt_of hz).trans h12) (nt h18) (by first | (rintro ⟨e1, e2⟩; omega) | (rintro ⟨e1, e2⟩; exact absurd (nt h23) (by rw [e2]; decide))) (by omega)).symm, rfl⟩
           ·
            refine NO3 ?_
            refine QU ?_
            refine QA (vnil ?_)
            refine vcondf rfl (vskip (vinblock (KK2 (QA (vnil ?_)))))
            refine vret (V1 (H) Tryz.func58 ?_)
            exact ⟨oI (broken_ok h9 ((bAt_of hz).trans h12) (nt h18) (by first | (rintro ⟨e1, e2⟩; omega) | (rintro ⟨e1, e2⟩; exact absurd (nt h23) (by rw [e2]; decide))) (by omega)).symm, rfl⟩
          ·
           refine NO4 ?_
           refine NO2 ?_
           refine QU ?_
           refine QM ?_
           refine NO3 ?_
           refine QU ?_
           refine QA (vnil ?_)
           refine vcondf rfl (vskip (vinblock (KK2 (QA (vnil ?_)))))
           refine vret (V1 (H) Tryz.func58 ?_)
           exact ⟨oI (broken_ok h9 ((bAt_of hz).trans h12) (nt h18) (by first | (rintro ⟨e1, e2⟩; omega) | (rintro ⟨e1, e2⟩; exact absurd (nt h23) (by rw [e2]; decide))) (by omega)).symm, rfl⟩
        ·
         refine NO4 ?_
         refine NO ?_
         refine QU ?_
         refine QM ?_
         refine NO4 ?_
         refine NO ?_
         refine QU ?_
         refine QA (vnil ?_)
         refine vcondf rfl (KK2 (QM ?_))
         refine QN ?_
         refine QQ (vcp rfl rfl rfl (c_full L g hokw0)) rfl ?_
         refine QE ?_
         refine QM ?_
         refine vsplitd (d := 61) rfl (fun h61 => ?_) (fun h61 => ?_)
         ·
          refine YF ?_
          refine YL ?_
          refine YF ?_
          refine YF ?_
          refine YL ?_
          refine YS ?_
          refine QT ?_
          refine QM ?_
          refine vsplitd (d := 69) rfl (fun h69 => ?_) (fun h69 => ?_)
          ·
           refine YF ?_
           refine YL ?_
           refine YS ?_
           refine QT ?_
           refine QA (vnil ?_)
           refine vcondd rfl (fun h56 => ?_) (fun h56 => ?_)
           ·
            refine KK2 (QA (vnil ?_))
            refine vret (V1 (H) Tryz.func58 ?_)
            exact ⟨oI (broken_4 h9 ((bAt_of hz).trans h12) (nt h18) (by first | (rintro ⟨e1, e2⟩; omega) | (rintro ⟨e1, e2⟩; exact absurd (nt h23) (by rw [e2]; decide))) (by omega)).symm, rfl⟩
           ·
            refine vskip (vinblock (KK2 (QA (vnil ?_))))
            refine vret (V1 (H) Tryz.func58 ?_)
            exact ⟨oI (broken_ok h9 ((bAt_of hz).trans h12) (nt h18) (by first | (rintro ⟨e1, e2⟩; omega) | (rintro ⟨e1, e2⟩; exact absurd (nt h23) (by rw [e2]; decide))) (by omega)).symm, rfl⟩
          ·
           refine NO3 ?_
           refine QU ?_
           refine QA (vnil ?_)
           refine vcondf rfl (vskip (vinblock (KK2 (QA (vnil ?_)))))
           refine vret (V1 (H) Tryz.func58 ?_)
           exact ⟨oI (broken_ok h9 ((bAt_of hz).trans h12) (nt h18) (by first | (rintro ⟨e1, e2⟩; omega) | (rintro ⟨e1, e2⟩; exact absurd (nt h23) (by rw [e2]; decide))) (by omega)).symm, rfl⟩
         ·
          refine NO4 ?_
          refine NO2 ?_
          refine QU ?_
          refine QM ?_
          refine NO3 ?_
          refine QU ?_
          refine QA (vnil ?_)
          refine vcondf rfl (vskip (vinblock (KK2 (QA (vnil ?_)))))
          refine vret (V1 (H) Tryz.func58 ?_)
          exact ⟨oI (broken_ok h9 ((bAt_of hz).trans h12) (nt h18) (by first | (rintro ⟨e1, e2⟩; omega) | (rintro ⟨e1, e2⟩; exact absurd (nt h23) (by rw [e2]; decide))) (by omega)).symm, rfl⟩
      ·
       refine NO3 ?_
       refine QU ?_
       refine QA (vnil ?_)
       refine vcondf rfl (vregion (QM ?_))
       refine QQ (vgtr rfl rfl) rfl ?_
       refine QM ?_
       refine vsplitd (d := 42) rfl (fun h42 => ?_) (fun h42 => ?_)
       ·
        refine YM ?_
        refine YF ?_
        refine YF ?_
        refine YL ?_
        refine YY (vleq rfl rfl) rfl ?_
        refine QT ?_
        refine QM ?_
        refine vsplitd (d := 49) rfl (fun h49 => ?_) (fun h49 => ?_)
        ·
         refine YF ?_
         refine YL ?_
         refine YM ?_
         refine YY (vsub rfl rfl (by unfold InR; omega)) rfl ?_
         refine YG ?_
         refine QT ?_
         refine QA (vnil ?_)
         refine vcondd rfl (fun h32 => ?_) (fun h32 => ?_)
         ·
          refine KK2 (QA (vnil ?_))
          refine vret (V1 (H) Tryz.func58 ?_)
          exact ⟨oI (broken_4 h9 ((bAt_of hz).trans h12) (nt h18) (by first | (rintro ⟨e1, e2⟩; omega) | (rintro ⟨e1, e2⟩; exact absurd (nt h23) (by rw [e2]; decide))) (by omega)).symm, rfl⟩
         ·
          refine KK2 (QM ?_)
          refine QN ?_
          refine QQ (vcp rfl rfl rfl (c_full L g hokw0)) rfl ?_
          refine QE ?_
          refine QM ?_
          refine vsplitd (d := 61) rfl (fun h61 => ?_) (fun h61 => ?_)
          ·
           refine YF ?_
           refine YL ?_
           refine YF ?_
           refine YF ?_
           refine YL ?_
           refine YS ?_
           refine QT ?_
           refine QM ?_
           refine vsplitd (d := 69) rfl (fun h69 => ?_) (fun h69 => ?_)
           ·
            refine YF ?_
            refine YL ?_
            refine YS ?_
            refine QT ?_
            refine QA (vnil ?_)
            refine vcondd rfl (fun h56 => ?_) (fun h56 => ?_)
            ·
             refine KK2 (QA (vnil ?_))
             refine vret (V1 (H) Tryz.func58 ?_)
             exact ⟨oI (broken_4 h9 ((bAt_of hz).trans h12) (nt h18) (by first | (rintro ⟨e1, e2⟩; omega) | (rintro ⟨e1, e2⟩; exact absurd (nt h23) (by rw [e2]; decide))) (by omega)).symm, rfl⟩
            ·
             refine vskip (vinblock (KK2 (QA (vnil ?_))))
             refine vret (V1 (H) Tryz.func58 ?_)
             exact ⟨oI (broken_ok h9 ((bAt_of hz).trans h12) (nt h18) (by first | (rintro ⟨e1, e2⟩; omega) | (rintro ⟨e1, e2⟩; exact absurd (nt h23) (by rw [e2]; decide))) (by omega)).symm, rfl⟩
           ·
            refine NO3 ?_
            refine QU ?_
            refine QA (vnil ?_)
            refine vcondf rfl (vskip (vinblock (KK2 (QA (vnil ?_)))))
            refine vret (V1 (H) Tryz.func58 ?_)
            exact ⟨oI (broken_ok h9 ((bAt_of hz).trans h12) (nt h18) (by first | (rintro ⟨e1, e2⟩; omega) | (rintro ⟨e1, e2⟩; exact absurd (nt h23) (by rw [e2]; decide))) (by omega)).symm, rfl⟩
          ·
           refine NO4 ?_
           refine NO2 ?_
           refine QU ?_
           refine QM ?_
           refine NO3 ?_
           refine QU ?_
           refine QA (vnil ?_)
           refine vcondf rfl (vskip (vinblock (KK2 (QA (vnil ?_)))))
           refine vret (V1 (H) Tryz.func58 ?_)
           exact ⟨oI (broken_ok h9 ((bAt_of hz).trans h12) (nt h18) (by first | (rintro ⟨e1, e2⟩; omega) | (rintro ⟨e1, e2⟩; exact absurd (nt h23) (by rw [e2]; decide))) (by omega)).symm, rfl⟩
        ·
         refine NO4 ?_
         refine NO ?_
         refine QU ?_
         refine QA (vnil ?_)
         refine vcondf rfl (KK2 (QM ?_))
         refine QN ?_
         refine QQ (vcp rfl rfl rfl (c_full L g hokw0)) rfl ?_
         refine QE ?_
         refine QM ?_
         refine vsplitd (d := 61) rfl (fun h61 => ?_) (fun h61 => ?_)
         ·
          refine YF ?_
          refine YL ?_
          refine YF ?_
          refine YF ?_
          refine YL ?_
          refine YS ?_
          refine QT ?_
          refine QM ?_
          refine vsplitd (d := 69) rfl (fun h69 => ?_) (fun h69 => ?_)
          ·
           refine YF ?_
           refine YL ?_
           refine YS ?_
           refine QT ?_
           refine QA (vnil ?_)
           refine vcondd rfl (fun h56 => ?_) (fun h56 => ?_)
           ·
            refine KK2 (QA (vnil ?_))
            refine vret (V1 (H) Tryz.func58 ?_)
            exact ⟨oI (broken_4 h9 ((bAt_of hz).trans h12) (nt h18) (by first | (rintro ⟨e1, e2⟩; omega) | (rintro ⟨e1, e2⟩; exact absurd (nt h23) (by rw [e2]; decide))) (by omega)).symm, rfl⟩
           ·
            refine vskip (vinblock (KK2 (QA (vnil ?_))))
            refine vret (V1 (H) Tryz.func58 ?_)
            exact ⟨oI (broken_ok h9 ((bAt_of hz).trans h12) (nt h18) (by first | (rintro ⟨e1, e2⟩; omega) | (rintro ⟨e1, e2⟩; exact absurd (nt h23) (by rw [e2]; decide))) (by omega)).symm, rfl⟩
          ·
           refine NO3 ?_
           refine QU ?_
           refine QA (vnil ?_)
           refine vcondf rfl (vskip (vinblock (KK2 (QA (vnil ?_)))))
           refine vret (V1 (H) Tryz.func58 ?_)
           exact ⟨oI (broken_ok h9 ((bAt_of hz).trans h12) (nt h18) (by first | (rintro ⟨e1, e2⟩; omega) | (rintro ⟨e1, e2⟩; exact absurd (nt h23) (by rw [e2]; decide))) (by omega)).symm, rfl⟩
         ·
          refine NO4 ?_
          refine NO2 ?_
          refine QU ?_
          refine QM ?_
          refine NO3 ?_
          refine QU ?_
          refine QA (vnil ?_)
          refine vcondf rfl (vskip (vinblock (KK2 (QA (vnil ?_)))))
          refine vret (V1 (H) Tryz.func58 ?_)
          exact ⟨oI (broken_ok h9 ((bAt_of hz).trans h12) (nt h18) (by first | (rintro ⟨e1, e2⟩; omega) | (rintro ⟨e1, e2⟩; exact absurd (nt h23) (by rw [e2]; decide))) (by omega)).symm, rfl⟩
       ·
        refine NO4 ?_
        refine NO ?_
        refine QU ?_
        refine QM ?_
        refine NO4 ?_
        refine NO ?_
        refine QU ?_
        refine QA (vnil ?_)
        refine vcondf rfl (KK2 (QM ?_))
        refine QN ?_
        refine QQ (vcp rfl rfl rfl (c_full L g hokw0)) rfl ?_
        refine QE ?_
        refine QM ?_
        refine vsplitd (d := 61) rfl (fun h61 => ?_) (fun h61 => ?_)
        ·
         refine YF ?_
         refine YL ?_
         refine YF ?_
         refine YF ?_
         refine YL ?_
         refine YS ?_
         refine QT ?_
         refine QM ?_
         refine vsplitd (d := 69) rfl (fun h69 => ?_) (fun h69 => ?_)
         ·
          refine YF ?_
          refine YL ?_
          refine YS ?_
          refine QT ?_
          refine QA (vnil ?_)
          refine vcondd rfl (fun h56 => ?_) (fun h56 => ?_)
          ·
           refine KK2 (QA (vnil ?_))
           refine vret (V1 (H) Tryz.func58 ?_)
           exact ⟨oI (broken_4 h9 ((bAt_of hz).trans h12) (nt h18) (by first | (rintro ⟨e1, e2⟩; omega) | (rintro ⟨e1, e2⟩; exact absurd (nt h23) (by rw [e2]; decide))) (by omega)).symm, rfl⟩
          ·
           refine vskip (vinblock (KK2 (QA (vnil ?_))))
           refine vret (V1 (H) Tryz.func58 ?_)
           exact ⟨oI (broken_ok h9 ((bAt_of hz).trans h12) (nt h18) (by first | (rintro ⟨e1, e2⟩; omega) | (rintro ⟨e1, e2⟩; exact absurd (nt h23) (by rw [e2]; decide))) (by omega)).symm, rfl⟩
         ·
          refine NO3 ?_
          refine QU ?_
          refine QA (vnil ?_)
          refine vcondf rfl (vskip (vinblock (KK2 (QA (vnil ?_)))))
          refine vret (V1 (H) Tryz.func58 ?_)
          exact ⟨oI (broken_ok h9 ((bAt_of hz).trans h12) (nt h18) (by first | (rintro ⟨e1, e2⟩; omega) | (rintro ⟨e1, e2⟩; exact absurd (nt h23) (by rw [e2]; decide))) (by omega)).symm, rfl⟩
        ·
         refine NO4 ?_
         refine NO2 ?_
         refine QU ?_
         refine QM ?_
         refine NO3 ?_
         refine QU ?_
         refine QA (vnil ?_)
         refine vcondf rfl (vskip (vinblock (KK2 (QA (vnil ?_)))))
         refine vret (V1 (H) Tryz.func58 ?_)
         exact ⟨oI (broken_ok h9 ((bAt_of hz).trans h12) (nt h18) (by first | (rintro ⟨e1, e2⟩; omega) | (rintro ⟨e1, e2⟩; exact absurd (nt h23) (by rw [e2]; decide))) (by omega)).symm, rfl⟩
    ·
     refine NO4 ?_
     refine QU ?_
     refine QA (vnil ?_)
     refine vcondf rfl (vseq (KK2 (QM ?_)))
     refine QE ?_
     refine QM ?_
     refine vsplitd (d := 35) rfl (fun h35 => ?_) (fun h35 => ?_)
     ·
      refine YF ?_
      refine YL ?_
      refine YG ?_
      refine QT ?_
      refine QA (vnil ?_)
      refine vcondd rfl (fun h32 => ?_) (fun h32 => ?_)
      ·
       refine vskip ?_
       refine vcondd rfl (fun h32 => ?_) (fun h32 => ?_)
       ·
        refine KK2 (QA (vnil ?_))
        refine vret (V1 (H) Tryz.func58 ?_)
        exact ⟨oI (broken_4 h9 ((bAt_of hz).trans h12) (nt h18) (by first | (rintro ⟨e1, e2⟩; omega) | (rintro ⟨e1, e2⟩; exact absurd (nt h23) (by rw [e2]; decide))) (by omega)).symm, rfl⟩
       ·
        refine KK2 (QM ?_)
        refine QN ?_
        refine QQ (vcp rfl rfl rfl (c_full L g hokw0)) rfl ?_
        refine QE ?_
        refine QM ?_
        refine vsplitd (d := 61) rfl (fun h61 => ?_) (fun h61 => ?_)
        ·
         refine YF ?_
         refine YL ?_
         refine YF ?_
         refine YF ?_
         refine YL ?_
         refine YS ?_
         refine QT ?_
         refine QM ?_
         refine vsplitd (d := 69) rfl (fun h69 => ?_) (fun h69 => ?_)
         ·
          refine YF ?_
          refine YL ?_
          refine YS ?_
          refine QT ?_
          refine QA (vnil ?_)
          refine vcondd rfl (fun h56 => ?_) (fun h56 => ?_)
          ·
           refine KK2 (QA (vnil ?_))
           refine vret (V1 (H) Tryz.func58 ?_)
           exact ⟨oI (broken_4 h9 ((bAt_of hz).trans h12) (nt h18) (by first | (rintro ⟨e1, e2⟩; omega) | (rintro ⟨e1, e2⟩; exact absurd (nt h23) (by rw [e2]; decide))) (by omega)).symm, rfl⟩
          ·
           refine vskip (vinblock (KK2 (QA (vnil ?_))))
           refine vret (V1 (H) Tryz.func58 ?_)
           exact ⟨oI (broken_ok h9 ((bAt_of hz).trans h12) (nt h18) (by first | (rintro ⟨e1, e2⟩; omega) | (rintro ⟨e1, e2⟩; exact absurd (nt h23) (by rw [e2]; decide))) (by omega)).symm, rfl⟩
         ·
          refine NO3 ?_
          refine QU ?_
          refine QA (vnil ?_)
          refine vcondf rfl (vskip (vinblock (KK2 (QA (vnil ?_)))))
          refine vret (V1 (H) Tryz.func58 ?_)
          exact ⟨oI (broken_ok h9 ((bAt_of hz).trans h12) (nt h18) (by first | (rintro ⟨e1, e2⟩; omega) | (rintro ⟨e1, e2⟩; exact absurd (nt h23) (by rw [e2]; decide))) (by omega)).symm, rfl⟩
        ·
         refine NO4 ?_
         refine NO2 ?_
         refine QU ?_
         refine QM ?_
         refine NO3 ?_
         refine QU ?_
         refine QA (vnil ?_)
         refine vcondf rfl (vskip (vinblock (KK2 (QA (vnil ?_)))))
         refine vret (V1 (H) Tryz.func58 ?_)
         exact ⟨oI (broken_ok h9 ((bAt_of hz).trans h12) (nt h18) (by first | (rintro ⟨e1, e2⟩; omega) | (rintro ⟨e1, e2⟩; exact absurd (nt h23) (by rw [e2]; decide))) (by omega)).symm, rfl⟩
      ·
       refine vregion (QM ?_)
       refine QQ (vgtr rfl rfl) rfl ?_
       refine QM ?_
       refine vsplitd (d := 42) rfl (fun h42 => ?_) (fun h42 => ?_)
       ·
        refine YM ?_
        refine YF ?_
        refine YF ?_
        refine YL ?_
        refine YY (vleq rfl rfl) rfl ?_
        refine QT ?_
        refine QM ?_
        refine vsplitd (d := 49) rfl (fun h49 => ?_) (fun h49 => ?_)
        ·
         refine YF ?_
         refine YL ?_
         refine YM ?_
         refine YY (vsub rfl rfl (by unfold InR; omega)) rfl ?_
         refine YG ?_
         refine QT ?_
         refine QA (vnil ?_)
         refine vcondd rfl (fun h32 => ?_) (fun h32 => ?_)
         ·
          refine KK2 (QA (vnil ?_))
          refine vret (V1 (H) Tryz.func58 ?_)
          exact ⟨oI (broken_4 h9 ((bAt_of hz).trans h12) (nt h18) (by first | (rintro ⟨e1, e2⟩; omega) | (rintro ⟨e1, e2⟩; exact absurd (nt h23) (by rw [e2]; decide))) (by omega)).symm, rfl⟩
         ·
          refine KK2 (QM ?_)
          refine QN ?_
          refine QQ (vcp rfl rfl rfl (c_full L g hokw0)) rfl ?_
          refine QE ?_
          refine QM ?_
          refine vsplitd (d := 61) rfl (fun h61 => ?_) (fun h61 => ?_)
          ·
           refine YF ?_
           refine YL ?_
           refine YF ?_
           refine YF ?_
           refine YL ?_
           refine YS ?_
           refine QT ?_
           refine QM ?_
           refine vsplitd (d := 69) rfl (fun h69 => ?_) (fun h69 => ?_)
           ·
            refine YF ?_
            refine YL ?_
            refine YS ?_
            refine QT ?_
            refine QA (vnil ?_)
            refine vcondd rfl (fun h56 => ?_) (fun h56 => ?_)
            ·
             refine KK2 (QA (vnil ?_))
             refine vret (V1 (H) Tryz.func58 ?_)
             exact ⟨oI (broken_4 h9 ((bAt_of hz).trans h12) (nt h18) (by first | (rintro ⟨e1, e2⟩; omega) | (rintro ⟨e1, e2⟩; exact absurd (nt h23) (by rw [e2]; decide))) (by omega)).symm, rfl⟩
            ·
             refine vskip (vinblock (KK2 (QA (vnil ?_))))
             refine vret (V1 (H) Tryz.func58 ?_)
             exact ⟨oI (broken_ok h9 ((bAt_of hz).trans h12) (nt h18) (by first | (rintro ⟨e1, e2⟩; omega) | (rintro ⟨e1, e2⟩; exact absurd (nt h23) (by rw [e2]; decide))) (by omega)).symm, rfl⟩
           ·
            refine NO3 ?_
            refine QU ?_
            refine QA (vnil ?_)
            refine vcondf rfl (vskip (vinblock (KK2 (QA (vnil ?_)))))
            refine vret (V1 (H) Tryz.func58 ?_)
            exact ⟨oI (broken_ok h9 ((bAt_of hz).trans h12) (nt h18) (by first | (rintro ⟨e1, e2⟩; omega) | (rintro ⟨e1, e2⟩; exact absurd (nt h23) (by rw [e2]; decide))) (by omega)).symm, rfl⟩
          ·
           refine NO4 ?_
           refine NO2 ?_
           refine QU ?_
           refine QM ?_
           refine NO3 ?_
           refine QU ?_
           refine QA (vnil ?_)
           refine vcondf rfl (vskip (vinblock (KK2 (QA (vnil ?_)))))
           refine vret (V1 (H) Tryz.func58 ?_)
           exact ⟨oI (broken_ok h9 ((bAt_of hz).trans h12) (nt h18) (by first | (rintro ⟨e1, e2⟩; omega) | (rintro ⟨e1, e2⟩; exact absurd (nt h23) (by rw [e2]; decide))) (by omega)).symm, rfl⟩
        ·
         refine NO4 ?_
         refine NO ?_
         refine QU ?_
         refine QA (vnil ?_)
         refine vcondf rfl (KK2 (QM ?_))
         refine QN ?_
         refine QQ (vcp rfl rfl rfl (c_full L g hokw0)) rfl ?_
         refine QE ?_
         refine QM ?_
         refine vsplitd (d := 61) rfl (fun h61 => ?_) (fun h61 => ?_)
         ·
          refine YF ?_
          refine YL ?_
          refine YF ?_
          refine YF ?_
          refine YL ?_
          refine YS ?_
          refine QT ?_
          refine QM ?_
          refine vsplitd (d := 69) rfl (fun h69 => ?_) (fun h69 => ?_)
          ·
           refine YF ?_
           refine YL ?_
           refine YS ?_
           refine QT ?_
           refine QA (vnil ?_)
           refine vcondd rfl (fun h56 => ?_) (fun h56 => ?_)
           ·
            refine KK2 (QA (vnil ?_))
            refine vret (V1 (H) Tryz.func58 ?_)
            exact ⟨oI (broken_4 h9 ((bAt_of hz).trans h12) (nt h18) (by first | (rintro ⟨e1, e2⟩; omega) | (rintro ⟨e1, e2⟩; exact absurd (nt h23) (by rw [e2]; decide))) (by omega)).symm, rfl⟩
           ·
            refine vskip (vinblock (KK2 (QA (vnil ?_))))
            refine vret (V1 (H) Tryz.func58 ?_)
            exact ⟨oI (broken_ok h9 ((bAt_of hz).trans h12) (nt h18) (by first | (rintro ⟨e1, e2⟩; omega) | (rintro ⟨e1, e2⟩; exact absurd (nt h23) (by rw [e2]; decide))) (by omega)).symm, rfl⟩
          ·
           refine NO3 ?_
           refine QU ?_
           refine QA (vnil ?_)
           refine vcondf rfl (vskip (vinblock (KK2 (QA (vnil ?_)))))
           refine vret (V1 (H) Tryz.func58 ?_)
           exact ⟨oI (broken_ok h9 ((bAt_of hz).trans h12) (nt h18) (by first | (rintro ⟨e1, e2⟩; omega) | (rintro ⟨e1, e2⟩; exact absurd (nt h23) (by rw [e2]; decide))) (by omega)).symm, rfl⟩
         ·
          refine NO4 ?_
          refine NO2 ?_
          refine QU ?_
          refine QM ?_
          refine NO3 ?_
          refine QU ?_
          refine QA (vnil ?_)
          refine vcondf rfl (vskip (vinblock (KK2 (QA (vnil ?_)))))
          refine vret (V1 (H) Tryz.func58 ?_)
          exact ⟨oI (broken_ok h9 ((bAt_of hz).trans h12) (nt h18) (by first | (rintro ⟨e1, e2⟩; omega) | (rintro ⟨e1, e2⟩; exact absurd (nt h23) (by rw [e2]; decide))) (by omega)).symm, rfl⟩
       ·
        refine NO4 ?_
        refine NO ?_
        refine QU ?_
        refine QM ?_
        refine NO4 ?_
        refine NO ?_
        refine QU ?_
        refine QA (vnil ?_)
        refine vcondf rfl (KK2 (QM ?_))
        refine QN ?_
        refine QQ (vcp rfl rfl rfl (c_full L g hokw0)) rfl ?_
        refine QE ?_
        refine QM ?_
        refine vsplitd (d := 61) rfl (fun h61 => ?_) (fun h61 => ?_)
        ·
         refine YF ?_
         refine YL ?_
         refine YF ?_
         refine YF ?_
         refine YL ?_
         refine YS ?_
         refine QT ?_
         refine QM ?_
         refine vsplitd (d := 69) rfl (fun h69 => ?_) (fun h69 => ?_)
         ·
          refine YF ?_
          refine YL ?_
          refine YS ?_
          refine QT ?_
          refine QA (vnil ?_)
          refine vcondd rfl (fun h56 => ?_) (fun h56 => ?_)
          ·
           refine KK2 (QA (vnil ?_))
           refine vret (V1 (H) Tryz.func58 ?_)
           exact ⟨oI (broken_4 h9 ((bAt_of hz).trans h12) (nt h18) (by first | (rintro ⟨e1, e2⟩; omega) | (rintro ⟨e1, e2⟩; exact absurd (nt h23) (by rw [e2]; decide))) (by omega)).symm, rfl⟩
          ·
           refine vskip (vinblock (KK2 (QA (vnil ?_))))
           refine vret (V1 (H) Tryz.func58 ?_)
           exact ⟨oI (broken_ok h9 ((bAt_of hz).trans h12) (nt h18) (by first | (rintro ⟨e1, e2⟩; omega) | (rintro ⟨e1, e2⟩; exact absurd (nt h23) (by rw [e2]; decide))) (by omega)).symm, rfl⟩
         ·
          refine NO3 ?_
          refine QU ?_
          refine QA (vnil ?_)
          refine vcondf rfl (vskip (vinblock (KK2 (QA (vnil ?_)))))
          refine vret (V1 (H) Tryz.func58 ?_)
          exact ⟨oI (broken_ok h9 ((bAt_of hz).trans h12) (nt h18) (by first | (rintro ⟨e1, e2⟩; omega) | (rintro ⟨e1, e2⟩; exact absurd (nt h23) (by rw [e2]; decide))) (by omega)).symm, rfl⟩
        ·
         refine NO4 ?_
         refine NO2 ?_
         refine QU ?_
         refine QM ?_
         refine NO3 ?_
         refine QU ?_
         refine QA (vnil ?_)
         refine vcondf rfl (vskip (vinblock (KK2 (QA (vnil ?_)))))
         refine vret (V1 (H) Tryz.func58 ?_)
         exact ⟨oI (broken_ok h9 ((bAt_of hz).trans h12) (nt h18) (by first | (rintro ⟨e1, e2⟩; omega) | (rintro ⟨e1, e2⟩; exact absurd (nt h23) (by rw [e2]; decide))) (by omega)).symm, rfl⟩
     ·
      refine NO3 ?_
      refine QU ?_
      refine QA (vnil ?_)
      refine vcondf rfl (vregion (QM ?_))
      refine QQ (vgtr rfl rfl) rfl ?_
      refine QM ?_
      refine vsplitd (d := 42) rfl (fun h42 => ?_) (fun h42 => ?_)
      ·
       refine YM ?_
       refine YF ?_
       refine YF ?_
       refine YL ?_
       refine YY (vleq rfl rfl) rfl ?_
       refine QT ?_
       refine QM ?_
       refine vsplitd (d := 49) rfl (fun h49 => ?_) (fun h49 => ?_)
       ·
        refine YF ?_
        refine YL ?_
        refine YM ?_
        refine YY (vsub rfl rfl (by unfold InR; omega)) rfl ?_
        refine YG ?_
        refine QT ?_
        refine QA (vnil ?_)
        refine vcondd rfl (fun h32 => ?_) (fun h32 => ?_)
        ·
         refine KK2 (QA (vnil ?_))
         refine vret (V1 (H) Tryz.func58 ?_)
         exact ⟨oI (broken_4 h9 ((bAt_of hz).trans h12) (nt h18) (by first | (rintro ⟨e1, e2⟩; omega) | (rintro ⟨e1, e2⟩; exact absurd (nt h23) (by rw [e2]; decide))) (by omega)).symm, rfl⟩
        ·
         refine KK2 (QM ?_)
         refine QN ?_
         refine QQ (vcp rfl rfl rfl (c_full L g hokw0)) rfl ?_
         refine QE ?_
         refine QM ?_
         refine vsplitd (d := 61) rfl (fun h61 => ?_) (fun h61 => ?_)
         ·
          refine YF ?_
          refine YL ?_
          refine YF ?_
          refine YF ?_
          refine YL ?_
          refine YS ?_
          refine QT ?_
          refine QM ?_
          refine vsplitd (d := 69) rfl (fun h69 => ?_) (fun h69 => ?_)
          ·
           refine YF ?_
           refine YL ?_
           refine YS ?_
           refine QT ?_
           refine QA (vnil ?_)
           refine vcondd rfl (fun h56 => ?_) (fun h56 => ?_)
           ·
            refine KK2 (QA (vnil ?_))
            refine vret (V1 (H) Tryz.func58 ?_)
            exact ⟨oI (broken_4 h9 ((bAt_of hz).trans h12) (nt h18) (by first | (rintro ⟨e1, e2⟩; omega) | (rintro ⟨e1, e2⟩; exact absurd (nt h23) (by rw [e2]; decide))) (by omega)).symm, rfl⟩
           ·
            refine vskip (vinblock (KK2 (QA (vnil ?_))))
            refine vret (V1 (H) Tryz.func58 ?_)
            exact ⟨oI (broken_ok h9 ((bAt_of hz).trans h12) (nt h18) (by first | (rintro ⟨e1, e2⟩; omega) | (rintro ⟨e1, e2⟩; exact absurd (nt h23) (by rw [e2]; decide))) (by omega)).symm, rfl⟩
          ·
           refine NO3 ?_
           refine QU ?_
           refine QA (vnil ?_)
           refine vcondf rfl (vskip (vinblock (KK2 (QA (vnil ?_)))))
           refine vret (V1 (H) Tryz.func58 ?_)
           exact ⟨oI (broken_ok h9 ((bAt_of hz).trans h12) (nt h18) (by first | (rintro ⟨e1, e2⟩; omega) | (rintro ⟨e1, e2⟩; exact absurd (nt h23) (by rw [e2]; decide))) (by omega)).symm, rfl⟩
         ·
          refine NO4 ?_
          refine NO2 ?_
          refine QU ?_
          refine QM ?_
          refine NO3 ?_
          refine QU ?_
          refine QA (vnil ?_)
          refine vcondf rfl (vskip (vinblock (KK2 (QA (vnil ?_)))))
          refine vret (V1 (H) Tryz.func58 ?_)
          exact ⟨oI (broken_ok h9 ((bAt_of hz).trans h12) (nt h18) (by first | (rintro ⟨e1, e2⟩; omega) | (rintro ⟨e1, e2⟩; exact absurd (nt h23) (by rw [e2]; decide))) (by omega)).symm, rfl⟩
       ·
        refine NO4 ?_
        refine NO ?_
        refine QU ?_
        refine QA (vnil ?_)
        refine vcondf rfl (KK2 (QM ?_))
        refine QN ?_
        refine QQ (vcp rfl rfl rfl (c_full L g hokw0)) rfl ?_
        refine QE ?_
        refine QM ?_
        refine vsplitd (d := 61) rfl (fun h61 => ?_) (fun h61 => ?_)
        ·
         refine YF ?_
         refine YL ?_
         refine YF ?_
         refine YF ?_
         refine YL ?_
         refine YS ?_
         refine QT ?_
         refine QM ?_
         refine vsplitd (d := 69) rfl (fun h69 => ?_) (fun h69 => ?_)
         ·
          refine YF ?_
          refine YL ?_
          refine YS ?_
          refine QT ?_
          refine QA (vnil ?_)
          refine vcondd rfl (fun h56 => ?_) (fun h56 => ?_)
          ·
           refine KK2 (QA (vnil ?_))
           refine vret (V1 (H) Tryz.func58 ?_)
           exact ⟨oI (broken_4 h9 ((bAt_of hz).trans h12) (nt h18) (by first | (rintro ⟨e1, e2⟩; omega) | (rintro ⟨e1, e2⟩; exact absurd (nt h23) (by rw [e2]; decide))) (by omega)).symm, rfl⟩
          ·
           refine vskip (vinblock (KK2 (QA (vnil ?_))))
           refine vret (V1 (H) Tryz.func58 ?_)
           exact ⟨oI (broken_ok h9 ((bAt_of hz).trans h12) (nt h18) (by first | (rintro ⟨e1, e2⟩; omega) | (rintro ⟨e1, e2⟩; exact absurd (nt h23) (by rw [e2]; decide))) (by omega)).symm, rfl⟩
         ·
          refine NO3 ?_
          refine QU ?_
          refine QA (vnil ?_)
          refine vcondf rfl (vskip (vinblock (KK2 (QA (vnil ?_)))))
          refine vret (V1 (H) Tryz.func58 ?_)
          exact ⟨oI (broken_ok h9 ((bAt_of hz).trans h12) (nt h18) (by first | (rintro ⟨e1, e2⟩; omega) | (rintro ⟨e1, e2⟩; exact absurd (nt h23) (by rw [e2]; decide))) (by omega)).symm, rfl⟩
        ·
         refine NO4 ?_
         refine NO2 ?_
         refine QU ?_
         refine QM ?_
         refine NO3 ?_
         refine QU ?_
         refine QA (vnil ?_)
         refine vcondf rfl (vskip (vinblock (KK2 (QA (vnil ?_)))))
         refine vret (V1 (H) Tryz.func58 ?_)
         exact ⟨oI (broken_ok h9 ((bAt_of hz).trans h12) (nt h18) (by first | (rintro ⟨e1, e2⟩; omega) | (rintro ⟨e1, e2⟩; exact absurd (nt h23) (by rw [e2]; decide))) (by omega)).symm, rfl⟩
      ·
       refine NO4 ?_
       refine NO ?_
       refine QU ?_
       refine QM ?_
       refine NO4 ?_
       refine NO ?_
       refine QU ?_
       refine QA (vnil ?_)
       refine vcondf rfl (KK2 (QM ?_))
       refine QN ?_
       refine QQ (vcp rfl rfl rfl (c_full L g hokw0)) rfl ?_
       refine QE ?_
       refine QM ?_
       refine vsplitd (d := 61) rfl (fun h61 => ?_) (fun h61 => ?_)
       ·
        refine YF ?_
        refine YL ?_
        refine YF ?_
        refine YF ?_
        refine YL ?_
        refine YS ?_
        refine QT ?_
        refine QM ?_
        refine vsplitd (d := 69) rfl (fun h69 => ?_) (fun h69 => ?_)
        ·
         refine YF ?_
         refine YL ?_
         refine YS ?_
         refine QT ?_
         refine QA (vnil ?_)
         refine vcondd rfl (fun h56 => ?_) (fun h56 => ?_)
         ·
          refine KK2 (QA (vnil ?_))
          refine vret (V1 (H) Tryz.func58 ?_)
          exact ⟨oI (broken_4 h9 ((bAt_of hz).trans h12) (nt h18) (by first | (rintro ⟨e1, e2⟩; omega) | (rintro ⟨e1, e2⟩; exact absurd (nt h23) (by rw [e2]; decide))) (by omega)).symm, rfl⟩
         ·
          refine vskip (vinblock (KK2 (QA (vnil ?_))))
          refine vret (V1 (H) Tryz.func58 ?_)
          exact ⟨oI (broken_ok h9 ((bAt_of hz).trans h12) (nt h18) (by first | (rintro ⟨e1, e2⟩; omega) | (rintro ⟨e1, e2⟩; exact absurd (nt h23) (by rw [e2]; decide))) (by omega)).symm, rfl⟩
        ·
         refine NO3 ?_
         refine QU ?_
         refine QA (vnil ?_)
         refine vcondf rfl (vskip (vinblock (KK2 (QA (vnil ?_)))))
         refine vret (V1 (H) Tryz.func58 ?_)
         exact ⟨oI (broken_ok h9 ((bAt_of hz).trans h12) (nt h18) (by first | (rintro ⟨e1, e2⟩; omega) | (rintro ⟨e1, e2⟩; exact absurd (nt h23) (by rw [e2]; decide))) (by omega)).symm, rfl⟩
       ·
        refine NO4 ?_
        refine NO2 ?_
        refine QU ?_
        refine QM ?_
        refine NO3 ?_
        refine QU ?_
        refine QA (vnil ?_)
        refine vcondf rfl (vskip (vinblock (KK2 (QA (vnil ?_)))))
        refine vret (V1 (H) Tryz.func58 ?_)
        exact ⟨oI (broken_ok h9 ((bAt_of hz).trans h12) (nt h18) (by first | (rintro ⟨e1, e2⟩; omega) | (rintro ⟨e1, e2⟩; exact absurd (nt h23) (by rw [e2]; decide))) (by omega)).symm, rfl⟩
theorem c_after (L : LH) (g : Lg) (H : Heap) [hlg : LgO H L g] (t : Int) (ht : 0 ≤ t ∧ t < g.s.ship.length) (x : Sta) (hx : okSt x) (m : Int) : VHas Tryz.prog 59 [vLg L g, I t, vSt x, I m] (vSt (afterP g t x m)) (H) (H) := by
 obtain ⟨hlen, hokw, hcap⟩ := hlg.facts
 have hokw0 := hokw
 unfold okW at hokw
 unfold okSt at hx
 obtain ⟨z, hz⟩ := get_of_lt g.d (i := t.toNat) (by omega)
 refine CV 51 Tryz.func59 ?_
 refine KK2 (BX fun b1 => ?_)
 refine BX fun b2 => ?_
 refine AL fun b3 => (KK3 ?_)
 refine QM ?_
 refine QB ?_
 refine AL fun b4 => ?_
 refine SN (vnil (vseq (KK2 ?_)))
 refine QM ?_
 refine QG ?_
 refine QM ?_
 refine vsplitd (d := 14) rfl (fun h14 => ?_) (fun h14 => ?_)
 ·
  refine NO4 ?_
  refine NO ?_
  refine QT ?_
  refine QM ?_
  refine NO4 ?_
  refine QT (vnil ?_)
  refine vcondt rfl (KK2 (QN ?_))
  refine SN (vnil ?_)
  refine vret (VN (H) Tryz.func59 ?_)
  exact ⟨oV (by rw [after_no (.inl h14)]), rfl⟩
 ·
  refine YF ?_
  refine YL ?_
  refine YM ?_
  refine YY (visg (enc := encB) rfl rfl (by omega) hz) rfl ?_
  refine YY (vldS1 (enc := encB) rfl hz rfl) rfl ?_
  refine QU ?_
  refine QM ?_
  refine vsplit (d := 21) rfl (fun h21 => ?_) (fun h21 => ?_)
  ·
   refine NO4 ?_
   refine QT (vnil ?_)
   refine vcondt rfl (KK2 (QN ?_))
   refine SN (vnil ?_)
   refine vret (VN (H) Tryz.func59 ?_)
   exact ⟨oV (by rw [after_no (.inr (.inl ((bAt_of hz).trans h21)))]), rfl⟩
  ·
   refine YN ?_
   refine YM ?_
   refine YY (vcq rfl rfl rfl (c_watched L g _ t ht)) rfl ?_
   refine YY (vnot rfl) rfl ?_
   refine QU (vnil ?_)
   refine vcond rfl (fun h26 => ?_) (fun h26 => ?_)
   ·
    refine KK2 (QN ?_)
    refine SN (vnil ?_)
    refine vret (VN (H) Tryz.func59 ?_)
    exact ⟨oV (by rw [after_no (.inr (.inr (nf h26)))]), rfl⟩
   ·
    refine vskip (vseq (vblock (vseq ?_)))
    refine DR [(.q, 0), (.q, 1), (.q, 2), (.q, 3), (.q, 4), (.q, 5)] Tryz.mixed ?_
    refine DF ?_
    refine DL ?_
    refine DN ?_
    refine DD (vcp rfl rfl rfl (c_full L g hokw0)) rfl ?_
    refine DE ?_
    refine DA (vdend rfl ?_)
    refine vcondd rfl (fun h28 => ?_) (fun h28 => ?_)
    ·
     refine vregion (QF ?_)
     refine SU (vnil (vinblock (vseq (KK2 ?_))))
     refine QF ?_
     refine QL ?_
     refine QF ?_
     refine QF ?_
     refine QL ?_
     refine QQ (vgtr rfl rfl) rfl (vnil ?_)
     refine vcondd rfl (fun h48 => ?_) (fun h48 => ?_)
     ·
      refine vregion (QF ?_)
      refine SU (KK3 ?_)
      refine QN ?_
      refine SN (vnil ?_)
      refine vret (VN (H) Tryz.func59 ?_)
      (rw [after_q (Classical.not_not.1 h14) ((bAt_of hz).trans h21) (nt h26)]; first | (rw [quietP_full h28, if_pos h48]; exact ⟨rfl, rfl⟩) | (rw [quietP_full h28, if_neg h48]; exact ⟨rfl, rfl⟩) | (rw [quietP_qu h28 h35, if_pos h48]; exact ⟨rfl, rfl⟩) | (rw [quietP_qu h28 h35, if_neg h48]; exact ⟨rfl, rfl⟩) | (rw [quietP_no h28 h35]; exact ⟨rfl, rfl⟩))
     ·
      refine vskip (KK2 (QN ?_))
      refine SN (vnil ?_)
      refine vret (VN (H) Tryz.func59 ?_)
      (rw [after_q (Classical.not_not.1 h14) ((bAt_of hz).trans h21) (nt h26)]; first | (rw [quietP_full h28, if_pos h48]; exact ⟨rfl, rfl⟩) | (rw [quietP_full h28, if_neg h48]; exact ⟨rfl, rfl⟩) | (rw [quietP_qu h28 h35, if_pos h48]; exact ⟨rfl, rfl⟩) | (rw [quietP_qu h28 h35, if_neg h48]; exact ⟨rfl, rfl⟩) | (rw [quietP_no h28 h35]; exact ⟨rfl, rfl⟩))
    ·
     refine KK2 (QF ?_)
     refine QL ?_
     refine QQ (vgtr rfl rfl) rfl ?_
     refine QA (vnil ?_)
     refine vcondd rfl (fun h35 => ?_) (fun h35 => ?_)
     ·
      refine vregion (QF ?_)
      refine QL ?_
      refine QQ (vadd rfl rfl (by unfold InR; omega)) rfl ?_
      refine QF ?_
      refine SU (vnil (vinblock (vseq (KK2 ?_))))
      refine QF ?_
      refine QL ?_
      refine QF ?_
      refine QF ?_
      refine QL ?_
      refine QQ (vgtr rfl rfl) rfl (vnil ?_)
      refine vcondd rfl (fun h48 => ?_) (fun h48 => ?_)
      ·
       refine vregion (QF ?_)
       refine SU (KK3 ?_)
       refine QN ?_
       refine SN (vnil ?_)
       refine vret (VN (H) Tryz.func59 ?_)
       (rw [after_q (Classical.not_not.1 h14) ((bAt_of hz).trans h21) (nt h26)]; first | (rw [quietP_full h28, if_pos h48]; exact ⟨rfl, rfl⟩) | (rw [quietP_full h28, if_neg h48]; exact ⟨rfl, rfl⟩) | (rw [quietP_qu h28 h35, if_pos h48]; exact ⟨rfl, rfl⟩) | (rw [quietP_qu h28 h35, if_neg h48]; exact ⟨rfl, rfl⟩) | (rw [quietP_no h28 h35]; exact ⟨rfl, rfl⟩))
      ·
       refine vskip (KK2 (QN ?_))
       refine SN (vnil ?_)
       refine vret (VN (H) Tryz.func59 ?_)
       (rw [after_q (Classical.not_not.1 h14) ((bAt_of hz).trans h21) (nt h26)]; first | (rw [quietP_full h28, if_pos h48]; exact ⟨rfl, rfl⟩) | (rw [quietP_full h28, if_neg h48]; exact ⟨rfl, rfl⟩) | (rw [quietP_qu h28 h35, if_pos h48]; exact ⟨rfl, rfl⟩) | (rw [quietP_qu h28 h35, if_neg h48]; exact ⟨rfl, rfl⟩) | (rw [quietP_no h28 h35]; exact ⟨rfl, rfl⟩))
     ·
      refine vskip (vinblock (vseq (KK2 (QF ?_))))
      refine QL ?_
      refine QF ?_
      refine QF ?_
      refine QL ?_
      refine QQ (vgtr rfl rfl) rfl (vnil ?_)
      refine vcondd rfl (fun h48 => ?_) (fun h48 => ?_)
      ·
       refine vregion (QF ?_)
       refine SU (KK3 ?_)
       refine QN ?_
       refine SN (vnil ?_)
       refine vret (VN (H) Tryz.func59 ?_)
       (rw [after_q (Classical.not_not.1 h14) ((bAt_of hz).trans h21) (nt h26)]; first | (rw [quietP_full h28, if_pos h48]; exact ⟨rfl, rfl⟩) | (rw [quietP_full h28, if_neg h48]; exact ⟨rfl, rfl⟩) | (rw [quietP_qu h28 h35, if_pos h48]; exact ⟨rfl, rfl⟩) | (rw [quietP_qu h28 h35, if_neg h48]; exact ⟨rfl, rfl⟩) | (rw [quietP_no h28 h35]; exact ⟨rfl, rfl⟩))
      ·
       refine vskip (KK2 (QN ?_))
       refine SN (vnil ?_)
       refine vret (VN (H) Tryz.func59 ?_)
       (rw [after_q (Classical.not_not.1 h14) ((bAt_of hz).trans h21) (nt h26)]; first | (rw [quietP_full h28, if_pos h48]; exact ⟨rfl, rfl⟩) | (rw [quietP_full h28, if_neg h48]; exact ⟨rfl, rfl⟩) | (rw [quietP_qu h28 h35, if_pos h48]; exact ⟨rfl, rfl⟩) | (rw [quietP_qu h28 h35, if_neg h48]; exact ⟨rfl, rfl⟩) | (rw [quietP_no h28 h35]; exact ⟨rfl, rfl⟩))
end Go.Proofs.YtoebpndlbldfcaaGreatDoor
namespace Go.Proofs.YtoebpndlbldfcaaGreatDoor
open Go
set_option maxRecDepth 100000
attribute [local irreducible] tightP hullP rootP farP rows endsOf
abbrev clAn (a : Rg × Int) : List Value := [I a.1.x.lo, I a.1.x.hi, I a.1.y.lo, I a.1.y.hi, I a.1.s.lo, I a.1.s.hi, I a.1.d.lo, I a.1.d.hi, I a.2]
abbrev evA (a : Rg × Int) : Value := .agg (clAn a).toArray
theorem Tryz.und252 : Tryz.prog.underlying 252 = some (.map 9 254) := by kernel_rfl
theorem Tryz.undS : Tryz.prog.underlying 9 = some .string := by kernel_rfl
instance tMk252 : TMk Tryz.prog 252 Value.string (.agg [I 0, I 0, I 0, I 0, I 0, I 0, I 0, I 0, I 0].toArray) := mkTMkS Tryz.und252 Tryz.undS (by kernel_rfl)
def IdxR {α : Type} (p : α → Bool) (l : List α) (r : Int) : Prop := (r = -1 ∧ l.any p = false) ∨ (0 ≤ r ∧ ∃ z, l[r.toNat]? = some z ∧ p z = true ∧ (l.take r.toNat).any p = false)
theorem any_take_snocP {α : Type} {l : List α} {p : α → Bool} {z : α} {i : Nat} (hz : l[i]? = some z) : (l.take (i + 1)).any p = ((l.take i).any p || p z) := by rw [take_succ_of hz, List.any_append]; simp
theorem IdxR.any {α : Type} {p : α → Bool} {l : List α} {r : Int} (h : IdxR p l r) : 0 ≤ r ↔ l.any p = true := by
  rcases h with ⟨h1, h2⟩ | ⟨h1, z, h2, h3, _⟩
  · constructor
    · intro h; omega
    · intro h; rw [h2] at h; cases h
  · exact ⟨fun _ => List.any_eq_true.2 ⟨z, List.mem_of_getElem? h2, h3⟩, fun _ => h1⟩
theorem g_IndexS (kf : FuncId) [TFn Tryz.prog kf] (caps : List Value) (p : Sg → Bool) (l : List Sg) (oa : Option Addr) (n c : Nat) (hn : l.length = n) (hmax : n ≤ 9223372036854775807) (H : Heap) [SlO H oa 5 clSg l] (hg : ∀ z ∈ l, VHas Tryz.prog kf (vSg z :: caps) (.bool (p z)) H H) : VCall Tryz.prog 235 [sli oa n c, .func (.func kf) #[] caps.toArray].toArray H (fun o H' => ∃ r, o = .val (I r) ∧ IdxR p l r ∧ H' = H) := by
 refine CV 19 Tryz.func235 ?_
 refine KK2 (QA (vnil (vseq (KK2 ?_))))
 refine QM ?_
 refine QQ (vlen rfl) rfl ?_
 refine QM (vnil (vblock ?_))
 refine vwhile (σ := Int) (fun i => (n - i).toNat) (fun i => [(0, sli oa n c), (1, .func (.func kf) #[] caps.toArray), (7, I n), (8, I i)]) (fun i => H) (fun i => (0 ≤ i ∧ i ≤ n) ∧ (l.take i.toNat).any p = false) 0 ⟨⟨by omega, by omega⟩, rfl⟩ ⟨rfl, rfl, rfl, rfl, True.intro⟩ sb ?_
 rintro i ⟨⟨hi0, hin⟩, hno⟩ IH
 change VRun _ _ _ _ _ [(0, sli oa n c), (1, .func (.func kf) #[] caps.toArray), (7, I n), (8, I i)] _ (H) _
 refine KK2 (QS (vnil (vseq ?_)))
 refine vcondd rfl (fun h9 => ?_) (fun h9 => ?_)
 ·
  obtain ⟨z, hz⟩ := get_of_lt l (i := i.toNat) (by omega)
  refine vskip (vseq (vblock (KK2 (QM ?_))))
  refine QA (KK3 ?_)
  refine QM ?_
  refine QM ?_
  refine QM ?_
  refine QQ (visg (enc := clSg) rfl rfl (by omega) hz) rfl ?_
  refine QQ (vldS (enc := clSg) rfl hz) rfl ?_
  refine QQ (vcq rfl rfl rfl (hg z (List.mem_of_getElem? hz))) rfl (vnil ?_)
  refine vcond rfl (fun h16 => ?_) (fun h16 => ?_)
  ·
   refine KK2 (QM ?_)
   refine QA (vnil ?_)
   refine vret (V1 (H) Tryz.func235 ?_)
   exact ⟨_, rfl, .inr ⟨hi0, z, hz, h16, hno⟩, rfl⟩
  ·
   refine vskip (vinblock (vregion (QQ (vadd rfl rfl (by unfold InR; omega)) rfl ?_)))
   refine QM (vnil ?_)
   exact vback (IH (i + 1) ⟨⟨by omega, by omega⟩, by rw [show (i + 1).toNat = i.toNat + 1 by omega, any_take_snocP hz, hno, h16]; rfl⟩ (by show (_ : Int).toNat < (_ : Int).toNat; omega)) ⟨rfl, rfl, rfl, rfl, True.intro⟩ sb
 ·
  refine vexit (k' := _) rfl ?_
  refine KK2 (QA (vnil ?_))
  refine vret (V1 (H) Tryz.func235 ?_)
  exact ⟨-1, rfl, .inl ⟨rfl, by rw [show i.toNat = l.length by omega, List.take_length] at hno; exact hno⟩, rfl⟩
theorem q_ContainsS (kf : FuncId) [TFn Tryz.prog kf] (caps : List Value) (p : Sg → Bool) (l : List Sg) (oa : Option Addr) (n c : Nat) (hn : l.length = n) (hmax : n ≤ 9223372036854775807) (H : Heap) [SlO H oa 5 clSg l] (hg : ∀ z ∈ l, VHas Tryz.prog kf (vSg z :: caps) (.bool (p z)) H H) : VHas Tryz.prog 206 [sli oa n c, .func (.func kf) #[] caps.toArray] (.bool (l.any p)) H H := by
 refine CV 9 Tryz.func206 ?_
 refine KK2 (QA (KK3 ?_))
 refine QM ?_
 refine QM ?_
 refine vone rfl (vxg (vcg (R := fun v H' => ∃ r, v = I r ∧ IdxR p l r ∧ H' = H) rfl rfl rfl (g_IndexS kf caps p l oa n c hn hmax _ hg) (fun _ _ ⟨r, h1, h2, h3⟩ => ⟨_, h1, r, rfl, h2, h3⟩)) rfl rfl ?_)
 rintro _ _ ⟨r, rfl, hr, rfl⟩
 refine QQ (vgeq rfl rfl) rfl ?_
 refine QA (vnil ?_)
 refine vret (V1 (_) Tryz.func206 ?_)
 exact ⟨oV (by congr 1; rw [Bool.eq_iff_iff, decide_eq_true_iff]; exact hr.any), rfl⟩
theorem c_seen1 (z : Sg) (nm : ByteArray) (t : Int) (b1' b2' : Nat) (H : Heap) [HAt H b1' [.string nm] 9] [HAt H b2' [I t] 3] : VHas Tryz.prog 207 [vSg z, ptr b1', ptr b2'] (.bool (decide (z.nm = nm) && decide (z.st = t))) (H) (H) := by
 refine CV 15 Tryz.func207 ?_
 refine KK2 (BX fun b1 => ?_)
 refine QA (KK3 ?_)
 refine QF ?_
 refine QL ?_
 refine QL ?_
 refine QQ (veqst rfl rfl) rfl ?_
 refine QM ?_
 refine vsplitd (d := 9) rfl (fun h9 => ?_) (fun h9 => ?_)
 ·
  refine YF ?_
  refine YL ?_
  refine YL ?_
  refine YE ?_
  refine QT ?_
  refine QA (vnil ?_)
  refine vret (V1 (H) Tryz.func207 ?_)
  exact ⟨oV (by rw [decide_eq_true h9]; rfl), rfl⟩
 ·
  refine NO4 ?_
  refine QU ?_
  refine QA (vnil ?_)
  refine vret (V1 (H) Tryz.func207 ?_)
  exact ⟨oV (by rw [decide_eq_false h9]; rfl), rfl⟩
theorem c_seen (h : SH) (s : Sc) (H : Heap) [hsc : ScO H h s] (nm : ByteArray) (t : Int) : VHas Tryz.prog 173 [vSc h s, .string nm, I t] (.bool (seenB s nm t)) (H) (H) := by
 have hbd := hsc.bd
 refine CV 12 Tryz.func173 ?_
 refine KK2 (BX fun b1 => ?_)
 refine BX fun b2 => ?_
 refine BX fun b3 => ?_
 refine QA (KK3 ?_)
 refine QF ?_
 refine QF ?_
 refine QL ?_
 refine QQ (vmf rfl) rfl ?_
 refine QQ (vcq rfl rfl rfl (q_ContainsS 207 [ptr b2, ptr b3] (fun x => decide (x.nm = nm) && decide (x.st = t)) s.sg _ _ _ rfl (by omega) _ (fun z hz => c_seen1 z nm t b2 b3 _))) rfl ?_
 refine QA (vnil ?_)
 refine vret (V1 (H) Tryz.func173 ?_)
 exact ⟨rfl, rfl⟩
theorem c_far (h : SH) (s : Sc) (H : Heap) [hsc : ScO H h s] (a : Rg × Int) (x : Sg) (hst : 0 ≤ x.st ∧ x.st < s.ship.length) (hnr : 0 ≤ x.nr ∧ x.nr ≤ 256) : VHas Tryz.prog 176 [vSc h s, evA a, vSg x] (.bool (decide (farOk s (some a) x))) (H) (H) := by
 have hbd := hsc.bd
 have hsq := sq_bd (n := x.nr) (by omega)
 obtain ⟨z, hz⟩ := get_of_lt s.ship (i := x.st.toNat) (by omega)
 have hza := atR_of hz
 refine CV 30 Tryz.func176 ?_
 refine KK2 (BX fun b1 => ?_)
 refine BX fun b2 => ?_
 refine BX fun b3 => ?_
 refine QA (vnil (vseq ?_))
 refine vdraw [(.q, 0), (.q, 1), (.q, 2), (.q, 3), (.q, 4), (.q, 5), (.q, 6), (.q, 7), (.q, 8), (.q, 9), (.q, 10), (.q, 11), (.q, 12), (.a (blk [.int .i64 0, .int .i64 0] (56)), 13), (.s, 14), (.q, 15)] Tryz.mixed (by kernel_rfl) ⟨⟨_, _, _, _, _, rfl, _, inferInstance, rfl⟩, True.intro⟩ ?_
 refine DF ?_
 refine DF ?_
 refine DL ?_
 refine DF ?_
 refine DL ?_
 refine DD (visg (enc := clR) rfl rfl (by omega) hz) rfl ?_
 refine DD (vldS (enc := clR) rfl hz) rfl ?_
 refine DF ?_
 refine DN ?_
 refine DD (vcp rfl rfl rfl (c_Gap z a.1)) rfl ?_
 refine DM ?_
 refine DX ?_
 refine DX ?_
 refine vda rfl rfl (fun b4 => ?_)
 refine vds (mone rfl) (vstn rfl rfl rfl rfl rfl) rfl ?_
 refine DA (vdend rfl (KK2 ?_))
 refine QF ?_
 refine QL ?_
 refine QF ?_
 refine QL ?_
 refine QF ?_
 refine QL ?_
 refine QQ (vmul rfl rfl (by unfold InR; omega)) rfl ?_
 refine QQ (vgeq rfl rfl) rfl ?_
 refine QA (vnil ?_)
 refine vret (V1 (H) Tryz.func176 ?_)
 exact ⟨obd (by unfold farOk gapW; rw [hza]), rfl⟩
def seeM (s : Sc) (l : List (Ent ByteArray (Rg × Int))) (c : Nat) (x : Sg) : Bool × List (Ent ByteArray (Rg × Int)) × Nat :=
  match seeP s (mget x.nm l) x with
  | some (some a) => (true, mput x.nm a c l, mclk x.nm l c)
  | _ => (false, l, c)
theorem seeM_no {s : Sc} {l : List (Ent ByteArray (Rg × Int))} {c : Nat} {x : Sg} (h : seeP s (mget x.nm l) x = none) : seeM s l c x = (false, l, c) := by unfold seeM; rw [h]
theorem seeM_yes {s : Sc} {l : List (Ent ByteArray (Rg × Int))} {c : Nat} {x : Sg} {a : Rg × Int} (h : seeP s (mget x.nm l) x = some (some a)) : seeM s l c x = (true, mput x.nm a c l, mclk x.nm l c) := by unfold seeM; rw [h]
theorem see_no1 {s : Sc} {k : Kn} {x : Sg} (h : sightP s x = none) : seeP s k x = none := by unfold seeP; rw [h]
theorem see_n {s : Sc} {x : Sg} {g : Rg} (h : sightP s x = some g) : seeP s none x = some (some (g, x.st)) := by unfold seeP; rw [h]
theorem see_meet {s : Sc} {a : Rg × Int} {x : Sg} {g : Rg} (h : sightP s x = some g) (ha : Tgt1 a.1) (hg : Tgt1 g) : (meetE a.1 g).2 ≠ 0 ∧ seeP s (some a) x = none ∨ ((meetE a.1 g).2 = 0 ∧ seeP s (some a) x = some (some ((meetE a.1 g).1, x.st))) := by
  have e : meetE a.1 g = optE (tightP (a.1.map2 Bd.cut g)) := by unfold meetE; rw [if_pos (chk2_zero.2 ⟨ha.ok, hg.ok⟩)]
  have e2 : seeP s (some a) x = match tightP (a.1.map2 Bd.cut g) with | none => none | some m => some (some (m, x.st)) := by
    obtain ⟨a1, a2⟩ := a
    unfold seeP
    rw [h]
    rfl
  rw [e2, e]
  cases tightP (a.1.map2 Bd.cut g) with
  | none => exact .inl ⟨by decide, rfl⟩
  | some m => exact .inr ⟨rfl, rfl⟩
theorem h_see (h : SH) (s : Sc) (H : Heap) [hsc : ScO H h s] [hgl : Glob H] (x : Sg) (hx : (0 ≤ x.st ∧ x.st < s.ship.length) ∧ smallR (atR s.ship x.st.toNat) ∧ (0 ≤ x.nr ∧ x.nr ≤ x.fr ∧ x.fr ≤ 256) ∧ (x.oc = 0 ∨ x.oc = 1 ∨ x.oc = 2 ∨ x.oc = 3 ∨ x.oc = 4 ∨ x.oc = 5 ∨ x.oc = 6 ∨ x.oc = 7 ∨ x.oc = -1)) (l : List (Ent ByteArray (Rg × Int))) (c : Nat) (hl : ∀ a, mget x.nm l = some a → Tgt1 a.1) (bm : Nat) : VHas Tryz.prog 175 [vSc h s, .map (some bm), vSg x] (.bool (seeM s l c x).1) ((bm, mapO Value.string evA l c) :: H) ((bm, mapO Value.string evA (seeM s l c x).2.1 (seeM s l c x).2.2) :: H) := by
 obtain ⟨g1, g2, g3, g4⟩ := hx
 have hsT : ∀ r, sightP s x = some r → Tgt1 r := fun r hr => sight_tgt g2 (by omega) hr
 refine CV 46 Tryz.func175 ?_
 refine KK2 (BX fun b1 => ?_)
 refine BX fun b2 => ?_
 refine QA (KK3 ?_)
 refine QN ?_
 refine QN ?_
 refine QQ (vcq rfl rfl rfl (c_sighted h s _ _ _ _ _ _ g1 g2 g3 g4)) rfl ?_
 refine QM ?_
 refine QX ?_
 refine QX ?_
 refine AL fun b3 => ?_
 refine SN ?_
 refine QA (vnil (vseq (KK2 ?_)))
 refine QM ?_
 refine QQ (vnot rfl) rfl (vnil ?_)
 refine vcond rfl (fun h20 => ?_) (fun h20 => ?_)
 ·
  refine KK2 (QA (vnil ?_))
  refine vret (V1 ((bm, _) :: H) Tryz.func175 ?_)
  (rw [seeM_no (see_no1 (optN h20))]; exact ⟨rfl, rfl⟩)
 ·
  obtain ⟨gg, hgg⟩ : ∃ gg, sightP s x = some gg := optS h20
  refine vskip (vseq (KK2 (QM ?_)))
  refine QF ?_
  refine QL ?_
  refine QQ (vlook (ek := Value.string) (ev' := evA) rfl rfl) rfl ?_
  cases hk : mget x.nm l
  ·
   refine QM ?_
   refine QX ?_
   refine QX ?_
   refine AL fun b4 => ?_
   refine SN ?_
   refine QA (KK3 ?_)
   refine QM (vnil ?_)
   refine vcondf rfl (vskip (KK2 (QM ?_)))
   refine QF ?_
   refine QL ?_
   refine QN ?_
   refine QF ?_
   refine QL ?_
   refine QB ?_
   refine vone rfl (vxs (by first | exact (vmup (ek := Value.string) (ev' := evA) (v := ((sightP s x).getD zR, x.st)) rfl rfl rfl) | exact (vmup (ek := Value.string) (ev' := evA) (v := ((meetE ak.1 ((sightP s x).getD zR)).1, x.st)) rfl rfl rfl)) rfl ?_)
   refine KK3 (QA (vnil ?_))
   refine vret (V1 ((bm, _) :: H) Tryz.func175 ?_)
   (rw [seeM_yes (by rw [hk]; exact see_n hgg), show gg = (sightP s x).getD zR by rw [hgg]; rfl]; exact ⟨rfl, rfl⟩)
  ·
   rename_i ak
   refine QM ?_
   refine QX ?_
   refine QX ?_
   refine AL fun b5 => ?_
   refine SN ?_
   refine QA (KK3 ?_)
   refine QM (vnil ?_)
   refine vcondt rfl (KK2 (QF ?_))
   refine QN ?_
   refine QN ?_
   refine QQ (vcp rfl rfl rfl (c_Meet ak.1 _)) rfl ?_
   refine QM ?_
   refine QX ?_
   refine QX ?_
   refine AL fun b6 => ?_
   refine SN ?_
   refine QA (vnil (vseq (KK2 ?_)))
   refine QM ?_
   refine QG (vnil ?_)
   refine vcondd rfl (fun h37 => ?_) (fun h37 => ?_)
   ·
    refine KK2 (QA (vnil ?_))
    refine vret (V1 ((bm, _) :: H) Tryz.func175 ?_)
    (have e := see_meet hgg (hl ak hk) (hsT gg hgg); rw [show gg = (sightP s x).getD zR by rw [hgg]; rfl] at e; first | (rcases e with ⟨_, e⟩ | ⟨e, _⟩; (rw [seeM_no (by rw [hk]; exact e)]; exact ⟨rfl, rfl⟩); exact absurd e h37) | (rcases e with ⟨e, _⟩ | ⟨_, e⟩; exact absurd e h37; (rw [seeM_yes (by rw [hk]; exact e)]; exact ⟨rfl, rfl⟩)))
   ·
    refine vskip (vregion (QN ?_))
    refine SN (KK3 ?_)
    refine QM ?_
    refine QF ?_
    refine QL ?_
    refine QN ?_
    refine QF ?_
    refine QL ?_
    refine QB ?_
    refine vone rfl (vxs (by first | exact (vmup (ek := Value.string) (ev' := evA) (v := ((sightP s x).getD zR, x.st)) rfl rfl rfl) | exact (vmup (ek := Value.string) (ev' := evA) (v := ((meetE ak.1 ((sightP s x).getD zR)).1, x.st)) rfl rfl rfl)) rfl ?_)
    refine KK3 (QA (vnil ?_))
    refine vret (V1 ((bm, _) :: H) Tryz.func175 ?_)
    (have e := see_meet hgg (hl ak hk) (hsT gg hgg); rw [show gg = (sightP s x).getD zR by rw [hgg]; rfl] at e; first | (rcases e with ⟨_, e⟩ | ⟨e, _⟩; (rw [seeM_no (by rw [hk]; exact e)]; exact ⟨rfl, rfl⟩); exact absurd e h37) | (rcases e with ⟨e, _⟩ | ⟨_, e⟩; exact absurd e h37; (rw [seeM_yes (by rw [hk]; exact e)]; exact ⟨rfl, rfl⟩)))
end Go.Proofs.YtoebpndlbldfcaaGreatDoor
namespace Go.Proofs.YtoebpndlbldfcaaGreatDoor
open Go
set_option maxRecDepth 100000
attribute [local irreducible] tightP hullP rootP farP rows endsOf
abbrev mO (l : List EnA) (c : Nat) : Obj := mapO Value.string evA l c
def XF (w : Wn) (s : Sc) (H0 : Heap) (x : Nat × Bool) (vs : List Value) (Hx : Heap) : Prop := ∃ m l c, vs = [.map (some m), .bool x.2] ∧ Hx = (m, mO l c) :: H0 ∧ wfM l c ∧ (x.2 = true → ∃ K, Kst w s (x.1 + 1) = some K ∧ ∀ nm, mget nm l = K nm)
theorem sees_bd {s : Sc} {t : Int} : ∀ {L : List Sg} {k k' : Kn} {a : Rg × Int}, (∀ x ∈ L, x.st = t) → seesP s k L = some k' → k' = some a → a.2 = t ∨ ∃ b, k = some b ∧ b.2 = a.2
  | [], k, k', a, _, h, ha => by simp only [seesP, Option.some.injEq] at h; subst h; exact .inr ⟨a, ha, rfl⟩
  | x :: r, k, k', a, hx, h, ha => by
    obtain ⟨r', hr'⟩ := seesP_last (by simp) hx h
    rw [hr'] at ha; cases ha; exact .inl rfl
theorem kst_bd {w : Wn} {s : Sc} {nm : ByteArray} : ∀ {n : Nat} {k : Kn} {a : Rg × Int}, kst w s nm n = some k → k = some a → 0 ≤ a.2 ∧ a.2 < n
  | 0, k, a, h, ha => by simp only [kst, Option.some.injEq] at h; subst h; cases ha
  | n + 1, k, a, h, ha => by
    simp only [kst] at h
    cases hk : kst w s nm n with
    | none => rw [hk] at h; cases h
    | some k0 =>
      rw [hk] at h
      simp only [stepT] at h
      cases hs : seesP s (swimP w k0) (inStep s nm n) with
      | none => rw [hs] at h; cases h
      | some k1 =>
        rw [hs] at h
        simp only at h
        split at h
        · simp only [Option.some.injEq] at h
          subst h
          have ha := Option.eq_some_of_filter_eq_some ha
          rcases sees_bd (fun x hx => (inStep_mem hx).2.1) hs ha with h1 | ⟨b, h1, h2⟩
          · omega
          · unfold swimP at h1
            cases k0 with
            | none => cases h1
            | some b0 =>
              cases h1
              have := kst_bd hk rfl
              simp only at h2
              omega
        · cases h
theorem ageK_del {w : Wn} {s : Sc} {t : Int} {nm : ByteArray} {a : Rg × Int} (h1 : w.hold < t - a.2) (h2 : (!seenB s nm t) = true) : ageK w s t nm (some a) = none := by
  show (if w.hold < t - a.2 ∧ seenB s nm t = false then none else some (reachR a.1 w.speed, a.2)) = none
  rw [if_pos ⟨h1, nf h2⟩]
theorem ageK_keep {w : Wn} {s : Sc} {t : Int} {nm : ByteArray} {a : Rg × Int} (h : ¬ w.hold < t - a.2 ∨ (!seenB s nm t) = false) : ageK w s t nm (some a) = some (reachR a.1 w.speed, a.2) := by
  show (if w.hold < t - a.2 ∧ seenB s nm t = false then none else some (reachR a.1 w.speed, a.2)) = some _
  rw [if_neg]
  rintro ⟨h1, h2⟩
  rcases h with h | h
  · exact h h1
  · rw [nt h] at h2; cases h2
theorem mclk_in {e : EnA} {l : List EnA} {c : Nat} (hk : (l.map Ent.k).Nodup) (he : e ∈ l) : mclk e.k l c = c := by unfold mclk; rw [mget_of_mem hk he]; rfl
theorem ageF_tgt {w : Wn} {s : Sc} {t : Int} {K : Kf} (hw : 0 ≤ w.speed ∧ w.speed ≤ 32) (h : ∀ nm a, K nm = some a → Tgt1 a.1) {nm : ByteArray} {a : Rg × Int} (ha : ageF w s t K nm = some a) : Tgt1 a.1 := by
  unfold ageF at ha
  cases hk : K nm with
  | none => rw [hk] at ha; cases ha
  | some b =>
    rw [hk] at ha
    change (if w.hold < t - b.2 ∧ seenB s nm t = false then none else some (reachR b.1 w.speed, b.2)) = some a at ha
    split at ha
    · cases ha
    · cases ha; exact reach_tgt (h nm b hk) (by omega)
structure SeeI (w : Wn) (s : Sc) (t : Int) (K1 : Kf) (i : Int) (l : List EnA) (c : Nat) (ok : Bool) : Prop where
  bd : 0 ≤ i ∧ i ≤ s.sg.length
  wf : wfM l c
  tg : ∀ nm a, mget nm l = some a → Tgt1 a.1
  yes : ok = true → ∃ K2, seeF s t K1 (s.sg.take i.toNat) = some K2 ∧ ∀ nm, mget nm l = K2 nm
  no : ok = false → seeF s t K1 (s.sg.take i.toNat) = none
section
variable {w : Wn} {s : Sc} {t i : Int} {K1 : Kf} {l : List EnA} {c : Nat} {ok : Bool} {x : Sg}
theorem SeeI.take (h : SeeI w s t K1 i l c ok) (hx : s.sg[i.toNat]? = some x) : s.sg.take (i + 1).toNat = s.sg.take i.toNat ++ [x] := by
  have := h.bd
  rw [show (i + 1).toNat = i.toNat + 1 by omega]; exact take_succ_of hx
theorem SeeI.lt (h : SeeI w s t K1 i l c ok) (hx : s.sg[i.toNat]? = some x) : 0 ≤ i + 1 ∧ i + 1 ≤ s.sg.length := by
  have h1 := h.bd
  have := (List.getElem?_eq_some_iff.1 hx).1
  omega
theorem SeeI.skip (h : SeeI w s t K1 i l c ok) (hx : s.sg[i.toNat]? = some x) (hst : ok = true → x.st ≠ t) : SeeI w s t K1 (i + 1) l c ok := by
  refine ⟨h.lt hx, h.wf, h.tg, fun e => ?_, fun e => ?_⟩
  · obtain ⟨K2, h1, h2⟩ := h.yes e
    exact ⟨K2, by rw [h.take hx, seeF_snoc, h1]; simp only; rw [seeF_one, if_pos (hst e)], h2⟩
  · rw [h.take hx, seeF_snoc, h.no e]
theorem SeeI.see (h : SeeI w s t K1 i l c true) (hx : s.sg[i.toNat]? = some x) (hst : ¬ x.st ≠ t) (hsm : smallR (atR s.ship x.st.toNat) ∧ 0 ≤ x.fr ∧ x.fr ≤ 256) : SeeI w s t K1 (i + 1) (seeM s l c x).2.1 (seeM s l c x).2.2 (seeM s l c x).1 := by
  obtain ⟨K2, h1, h2⟩ := h.yes rfl
  have hstep : seeF s t K1 (s.sg.take (i + 1).toNat) = match seeP s (mget x.nm l) x with | none => none | some k => some (fun n => if n = x.nm then k else K2 n) := by
    rw [h.take hx, seeF_snoc, h1]; simp only; rw [seeF_one, if_neg hst, ← h2]
    cases seeP s (mget x.nm l) x <;> rfl
  cases hs : seeP s (mget x.nm l) x with
  | none =>
    rw [seeM_no hs]
    rw [hs] at hstep
    exact ⟨h.lt hx, h.wf, h.tg, fun e => (by cases e), fun _ => hstep⟩
  | some k =>
    obtain ⟨a, rfl⟩ : ∃ a, k = some a := by
      have hss : seesP s (mget x.nm l) [x] = some k := by simp only [seesP, hs]
      obtain ⟨r, hr⟩ := seesP_last (t := x.st) (by simp) (fun y hy => by rw [List.mem_singleton.1 hy]) hss
      exact ⟨_, hr⟩
    rw [seeM_yes hs]
    rw [hs] at hstep
    have htk : tgtK (mget x.nm l) := fun b hb => h.tg _ b hb
    have ht := see_tgt hsm htk hs
    refine ⟨h.lt hx, h.wf.put _ _, fun nm b hb => ?_, fun _ => ⟨_, hstep, fun nm => ?_⟩, fun e => by cases e⟩
    · rw [mget_mput] at hb
      split at hb
      · cases hb; exact ht _ rfl
      · exact h.tg nm b hb
    · rw [mget_mput]
      split
      · rfl
      · exact h2 nm
theorem SeeI.whole (h : SeeI w s t K1 i l c ok) (hi : ¬ i < s.sg.length) : (ok = true → ∃ K2, seeF s t K1 s.sg = some K2 ∧ ∀ nm, mget nm l = K2 nm) ∧ (ok = false → seeF s t K1 s.sg = none) := by
  have h1 := h.bd
  have e : s.sg.take i.toNat = s.sg := by rw [show i.toNat = s.sg.length by omega, List.take_length]
  have h2 := h.yes
  have h3 := h.no
  rw [e] at h2 h3
  exact ⟨h2, h3⟩
def FarI (s : Sc) (t : Int) (l : List EnA) (ok2 : Bool) (i : Int) (ok : Bool) : Prop := (0 ≤ i ∧ i ≤ s.sg.length) ∧ (ok = true ↔ ok2 = true ∧ ∀ x ∈ s.sg.take i.toNat, x.st = t → farOk s (mget x.nm l) x)
theorem FarI.start {ok2 : Bool} : FarI s t l ok2 0 ok2 := ⟨⟨by omega, by omega⟩, by simp⟩
theorem FarI.next {ok2 b : Bool} (h : FarI s t l ok2 i ok) (hx : s.sg[i.toNat]? = some x) (hb : b = true ↔ ok = true ∧ (x.st = t → farOk s (mget x.nm l) x)) : FarI s t l ok2 (i + 1) b := by
  have h1 := (List.getElem?_eq_some_iff.1 hx).1
  have h2 := h.1
  refine ⟨by omega, ?_⟩
  rw [hb, h.2, show (i + 1).toNat = i.toNat + 1 by omega, take_succ_of hx]
  constructor
  · rintro ⟨⟨g1, g2⟩, g3⟩
    refine ⟨g1, fun y hy => ?_⟩
    rcases List.mem_append.1 hy with hy | hy
    · exact g2 y hy
    · rw [List.mem_singleton.1 hy]; exact g3
  · rintro ⟨g1, g2⟩
    exact ⟨⟨g1, fun y hy => g2 y (List.mem_append_left _ hy)⟩, g2 x (by simp)⟩
end
theorem step_fin {w : Wn} {s : Sc} {t : Nat} {K : Kf} {l2 : List EnA} {ok2 ok3 : Bool} {i3 : Int} (hK : Kst w s t = some K) (h2 : (ok2 = true → ∃ K2, seeF s t (ageF w s t K) s.sg = some K2 ∧ ∀ nm, mget nm l2 = K2 nm) ∧ (ok2 = false → seeF s t (ageF w s t K) s.sg = none)) (h3 : FarI s t l2 ok2 i3 ok3) (hi : ¬ i3 < s.sg.length) :
    ok3 = (Kst w s (t + 1)).isSome ∧ (ok3 = true → ∃ K, Kst w s (t + 1) = some K ∧ ∀ nm, mget nm l2 = K nm) := by
  have e : s.sg.take i3.toNat = s.sg := by have := h3.1; rw [show i3.toNat = s.sg.length by omega, List.take_length]
  have h3 := h3.2
  rw [e] at h3
  have hk : Kst w s (t + 1) = stepF w s t K := by simp only [Kst, hK]
  cases hb : ok2 with
  | false =>
    have hn := h2.2 hb
    have h4 : ok3 = false := by
      cases ho : ok3 with
      | false => rfl
      | true => have := (h3.1 ho).1; rw [hb] at this; cases this
    have h5 : stepF w s t K = none := by unfold stepF; rw [hn]
    rw [hk, h5, h4]
    exact ⟨rfl, fun e => by cases e⟩
  | true =>
    obtain ⟨K2, g1, g2⟩ := h2.1 hb
    have hf : farF s t K2 ↔ ∀ x ∈ s.sg, x.st = t → farOk s (mget x.nm l2) x := by unfold farF; simp only [g2]
    by_cases hfar : farF s t K2
    · have h4 : ok3 = true := h3.2 ⟨hb, hf.1 hfar⟩
      have h5 : stepF w s t K = some K2 := by unfold stepF; rw [g1]; simp only; rw [if_pos hfar]
      rw [hk, h5, h4]
      exact ⟨rfl, fun _ => ⟨K2, rfl, g2⟩⟩
    · have h4 : ok3 = false := by
        cases ho : ok3 with
        | false => rfl
        | true => exact absurd (hf.2 (h3.1 ho).2) hfar
      have h5 : stepF w s t K = none := by unfold stepF; rw [g1]; simp only; rw [if_neg hfar]
      rw [hk, h5, h4]
      exact ⟨rfl, fun e => by cases e⟩
theorem it_follow (h : SH) (s : Sc) (w : Wn) (hw : okW w) (hs : okSc s) (H0 : Heap) [hsc : ScO H0 h s] [hgl : Glob H0] (bs bw : Nat) : VItM Tryz.prog 172 [ptr bs, ptr bw] (XF w s H0) (flwF w s s.ship.length 0) ((bs, blk (clSc h s) 109) :: (bw, blk (clWn w) 78) :: H0) := by
 have hw0 := hw
 unfold okW at hw
 have hbd := hsc.bd
 have hships := hs.ships
 have hn64 := hs.1
 intro yf ya yc J Jx Hc0 hJ0 hy
 change VCall _ _ _ ((bs, blk (clSc h s) 109) :: (bw, blk (clWn w) 78) :: (H0 ++ Hc0)) _
 refine CV 111 Tryz.func172 ?_
 refine KK2 ?_
 refine vone rfl (vxg (vmm (ek := Value.string) (ev' := evA) rfl) rfl rfl ?_)
 rintro _ _ ⟨bm, rfl, rfl⟩
 refine QA (KK3 ?_)
 refine QN ?_
 refine QQ (vcp rfl rfl rfl (c_steps h s)) rfl ?_
 refine QM (vnil (vblock ?_))
 refine VRun.perm (H' := (bs, blk (clSc h s) 109) :: (bw, blk (clWn w) 78) :: (bm, mO [] 0) :: (H0 ++ Hc0)) (List.Perm.trans (List.Perm.swap _ _ _) ((List.Perm.swap _ _ _).cons _)) ?_
 refine vwhile (σ := Nat × List EnA × Nat × Heap) (fun ⟨t, l, c, Hc⟩ => s.ship.length - t) (fun ⟨t, l, c, Hc⟩ => [(0, .func yf ya yc), (1, ptr bs), (2, ptr bw), (4, .map (some bm)), (15, I s.ship.length), (16, I (t : Int))]) (fun ⟨t, l, c, Hc⟩ => (bs, blk (clSc h s) 109) :: (bw, blk (clWn w) 78) :: (bm, mO l c) :: (H0 ++ Hc)) (fun ⟨t, l, c, Hc⟩ => (t ≤ s.ship.length ∧ wfM l c) ∧ (∃ K, Kst w s t = some K ∧ ∀ nm, mget nm l = K nm) ∧ J (preL t) Hc) (0, [], 0, Hc0) ⟨⟨Nat.zero_le _, wfM.nil⟩, ⟨_, rfl, fun _ => rfl⟩, hJ0⟩ ⟨rfl, rfl, rfl, rfl, rfl, rfl, True.intro⟩ sb ?_
 rintro ⟨t, l, c, Hc⟩ ⟨⟨htn, hwf⟩, ⟨K, hK, hKl⟩, hJ⟩ IH
 change VRun _ _ _ _ _ [(0, .func yf ya yc), (1, ptr bs), (2, ptr bw), (4, .map (some bm)), (15, I s.ship.length), (16, I (t : Int))] _ ((bs, blk (clSc h s) 109) :: (bw, blk (clWn w) 78) :: (bm, mO l c) :: (H0 ++ Hc)) _
 refine KK2 (QS (vnil (vseq ?_)))
 refine vcondd rfl (fun h17 => ?_) (fun h17 => ?_)
 ·
  have htn2 : t < s.ship.length := by omega
  refine vskip (vseq (vblock (KK2 (QM ?_))))
  refine QA (vnil (vseq (KK2 ?_)))
  refine QM ?_
  refine vone rfl (vxg (vmrange (ek := Value.string) (ev' := evA) rfl) rfl rfl ?_)
  rintro _ _ ⟨bi, rfl, rfl⟩
  refine vnil (vblock ?_)
  refine vwhile (σ := Array Nat) (fun seen => (l.filter fun x => !seen.contains x.b).length) (fun seen => [(0, .func yf ya yc), (1, ptr bs), (2, ptr bw), (4, .map (some bm)), (5, I (t : Int)), (15, I s.ship.length), (16, I (t : Int)), (20, ptr bi)]) (fun seen => (bi, Obj.mapIter (some bm) c seen c) :: (bs, blk (clSc h s) 109) :: (bw, blk (clWn w) 78) :: (bm, mO (agedM w s t seen l) c) :: (H0 ++ Hc)) (fun seen => True) #[] True.intro ⟨rfl, rfl, rfl, rfl, rfl, rfl, rfl, rfl, True.intro⟩ (by simp only [agedM_nil]; exact sb) ?_
  rintro seen _htr IH1
  change VRun _ _ _ _ _ [(0, .func yf ya yc), (1, ptr bs), (2, ptr bw), (4, .map (some bm)), (5, I (t : Int)), (15, I s.ship.length), (16, I (t : Int)), (20, ptr bi)] _ ((bi, Obj.mapIter (some bm) c seen c) :: (bs, blk (clSc h s) 109) :: (bw, blk (clWn w) 78) :: (bm, mO (agedM w s t seen l) c) :: (H0 ++ Hc)) _
  refine KK2 ?_
  refine vone rfl (vxg (vmnext (ek := Value.string) (ev' := evA) rfl rfl (agedM_wf hwf).lt) rfl rfl ?_)
  rintro v1 H1' hR
  rcases hR with ⟨rfl, rfl, hall⟩ | ⟨e, he, hse, rfl, rfl⟩
  ·
   have hwf1 := agedM_wf (w := w) (s := s) (t := t) (seen := seen) hwf
   have hK1 : ∀ nm, mget nm (agedM w s t seen l) = ageF w s t K nm := fun nm => by rw [agedM_all hall, mget_aged nm hwf.ks, hKl]; rfl
   generalize agedM w s t seen l = l1 at hall hwf1 hK1 ⊢
   refine QX (vnil (vseq ?_))
   refine vcondf rfl ?_
   refine vexit (k' := _) rfl ?_
   refine KK2 (QA (vnil (vseq (KK2 ?_))))
   refine QF ?_
   refine QF ?_
   refine QL ?_
   refine QQ (vlen rfl) rfl ?_
   refine QM (vnil (vblock ?_))
   refine vwhile (σ := Int × List EnA × Nat × Bool) (fun ⟨i, l2, c2, ok⟩ => (s.sg.length - i).toNat) (fun ⟨i, l2, c2, ok⟩ => [(0, .func yf ya yc), (1, ptr bs), (2, ptr bw), (4, .map (some bm)), (5, I (t : Int)), (8, .bool ok), (15, I s.ship.length), (16, I (t : Int)), (56, .slice h.a5 s.sg.length h.c5), (57, I s.sg.length), (58, I i)]) (fun ⟨i, l2, c2, ok⟩ => (bs, blk (clSc h s) 109) :: (bw, blk (clWn w) 78) :: (bm, mO l2 c2) :: (H0 ++ Hc)) (fun ⟨i, l2, c2, ok⟩ => SeeI w s t (ageF w s t K) i l2 c2 ok) (0, l1, c, true) ⟨⟨by omega, by omega⟩, hwf1, (fun nm a ha => ageF_tgt (w := w) (by omega) (fun nm a ha => kst_tgt (w := w) (by omega) hships (Kst_some (by omega) hK nm) a ha) (nm := nm) (by rw [← hK1]; exact ha)), (fun _ => ⟨_, rfl, hK1⟩), (fun e => by cases e)⟩ ⟨rfl, rfl, rfl, rfl, rfl, rfl, rfl, rfl, rfl, rfl, rfl, True.intro⟩ sb ?_
   rintro ⟨i, l2, c2, ok⟩ hI IH2
   change VRun _ _ _ _ _ [(0, .func yf ya yc), (1, ptr bs), (2, ptr bw), (4, .map (some bm)), (5, I (t : Int)), (8, .bool ok), (15, I s.ship.length), (16, I (t : Int)), (56, .slice h.a5 s.sg.length h.c5), (57, I s.sg.length), (58, I i)] _ ((bs, blk (clSc h s) 109) :: (bw, blk (clWn w) 78) :: (bm, mO l2 c2) :: (H0 ++ Hc)) _
   refine KK2 (QS (vnil (vseq ?_)))
   refine vcondd rfl (fun h59 => ?_) (fun h59 => ?_)
   ·
    obtain ⟨x, hx⟩ := get_of_lt s.sg (i := i.toNat) (by have := hI.bd; omega)
    have hib := hI.bd
    have g1 := hs.sight hx
    refine vskip (vseq (vblock (KK2 (QQ (visg (enc := clSg) rfl rfl (by omega) hx) rfl ?_))))
    refine QQ (vldS (enc := clSg) rfl hx) rfl ?_
    refine AL fun b1 => ?_
    refine SN (vnil (vregion ?_))
    refine QM ?_
    refine QM ?_
    refine vsplit (d := 63) rfl (fun h63 => ?_) (fun h63 => ?_)
    ·
     refine YF ?_
     refine YL ?_
     refine YM ?_
     refine YG ?_
     refine YM ?_
     refine vsplitd (d := 68) rfl (fun h68 => ?_) (fun h68 => ?_)
     ·
      refine NO4 ?_
      refine YT ?_
      refine QT ?_
      refine QA (vnil (vinblock (vregion ?_)))
      refine QQ (vadd rfl rfl (by unfold InR; omega)) rfl ?_
      refine QM (vnil ?_)
      exact vback (IH2 (i + 1, l2, c2, true) ((h63 ▸ hI).skip hx (fun _ => h68)) (by show (_ : Int).toNat < (_ : Int).toNat; omega)) ⟨rfl, rfl, rfl, rfl, rfl, rfl, rfl, rfl, rfl, rfl, rfl, True.intro⟩ sb
     ·
      refine YN ?_
      refine YM ?_
      refine YN ?_
      refine vyes rfl rfl rfl (vxg (vch rfl rfl rfl ((h_see h s _ x g1 l2 c2 (hI.tg _) bm).atO)) rfl rfl ?_)
      rintro _ _ ⟨rfl, rfl⟩
      refine YU ?_
      refine QT ?_
      refine QA (vnil (vinblock (vregion ?_)))
      refine QQ (vadd rfl rfl (by unfold InR; omega)) rfl ?_
      refine QM (vnil ?_)
      exact vback (IH2 (i + 1, (seeM s l2 c2 x).2.1, (seeM s l2 c2 x).2.2, (seeM s l2 c2 x).1) ((h63 ▸ hI).see hx h68 ⟨g1.2.1, by omega⟩) (by show (_ : Int).toNat < (_ : Int).toNat; omega)) ⟨rfl, rfl, rfl, rfl, rfl, rfl, rfl, rfl, rfl, rfl, rfl, True.intro⟩ sb
    ·
     refine NO4 ?_
     refine NO ?_
     refine vnou rfl rfl rfl rfl rfl ?_
     refine vnou rfl rfl rfl rfl rfl ?_
     refine vnou rfl rfl rfl rfl rfl ?_
     refine vnou rfl rfl rfl rfl rfl ?_
     refine NO ?_
     refine QU ?_
     refine QA (vnil (vinblock (vregion ?_)))
     refine QQ (vadd rfl rfl (by unfold InR; omega)) rfl ?_
     refine QM (vnil ?_)
     exact vback (IH2 (i + 1, l2, c2, false) ((h63 ▸ hI).skip hx (fun e => by cases e)) (by show (_ : Int).toNat < (_ : Int).toNat; omega)) ⟨rfl, rfl, rfl, rfl, rfl, rfl, rfl, rfl, rfl, rfl, rfl, True.intro⟩ sb
   ·
    have hwh := hI.whole h59
    refine vexit (k' := _) rfl ?_
    refine vseq (KK2 (QF ?_))
    refine QF ?_
    refine QL ?_
    refine QQ (vlen rfl) rfl ?_
    refine QM (vnil (vblock ?_))
    refine vwhile (σ := Int × Bool) (fun ⟨i3, ok3⟩ => (s.sg.length - i3).toNat) (fun ⟨i3, ok3⟩ => [(0, .func yf ya yc), (1, ptr bs), (2, ptr bw), (4, .map (some bm)), (5, I (t : Int)), (8, .bool ok3), (15, I s.ship.length), (16, I (t : Int)), (78, .slice h.a5 s.sg.length h.c5), (79, I s.sg.length), (80, I i3)]) (fun ⟨i3, ok3⟩ => (bs, blk (clSc h s) 109) :: (bw, blk (clWn w) 78) :: (bm, mO l2 c2) :: (H0 ++ Hc)) (fun ⟨i3, ok3⟩ => FarI s t l2 ok i3 ok3) (0, ok) FarI.start ⟨rfl, rfl, rfl, rfl, rfl, rfl, rfl, rfl, rfl, rfl, rfl, True.intro⟩ sb ?_
    rintro ⟨i3, ok3⟩ hI3 IH3
    change VRun _ _ _ _ _ [(0, .func yf ya yc), (1, ptr bs), (2, ptr bw), (4, .map (some bm)), (5, I (t : Int)), (8, .bool ok3), (15, I s.ship.length), (16, I (t : Int)), (78, .slice h.a5 s.sg.length h.c5), (79, I s.sg.length), (80, I i3)] _ ((bs, blk (clSc h s) 109) :: (bw, blk (clWn w) 78) :: (bm, mO l2 c2) :: (H0 ++ Hc)) _
    refine KK2 (QS (vnil (vseq ?_)))
    refine vcondd rfl (fun h81 => ?_) (fun h81 => ?_)
    ·
     obtain ⟨x, hx⟩ := get_of_lt s.sg (i := i3.toNat) (by have := hI3.1; omega)
     have hib := hI3.1
     have g1 := hs.sight hx
     refine vskip (vseq (vblock (KK2 (QQ (visg (enc := clSg) rfl rfl (by omega) hx) rfl ?_))))
     refine QQ (vldS (enc := clSg) rfl hx) rfl ?_
     refine AL fun b2 => ?_
     refine SN (vnil (vregion ?_))
     refine QM ?_
     refine QM ?_
     refine vsplit (d := 85) rfl (fun h85 => ?_) (fun h85 => ?_)
     ·
      refine YF ?_
      refine YL ?_
      refine YM ?_
      refine YG ?_
      refine YM ?_
      refine vsplitd (d := 90) rfl (fun h90 => ?_) (fun h90 => ?_)
      ·
       refine NO4 ?_
       refine NO3 ?_
       refine YT ?_
       refine QT ?_
       refine QA (vnil (vinblock (vregion ?_)))
       refine QQ (vadd rfl rfl (by unfold InR; omega)) rfl ?_
       refine QM (vnil ?_)
       exact vback (IH3 (i3 + 1, true) (hI3.next hx ⟨fun _ => ⟨h85, fun e => absurd e h90⟩, fun _ => rfl⟩) (by show (_ : Int).toNat < (_ : Int).toNat; omega)) ⟨rfl, rfl, rfl, rfl, rfl, rfl, rfl, rfl, rfl, rfl, rfl, True.intro⟩ sb
      ·
       refine YN ?_
       refine YM ?_
       refine YF ?_
       refine YL ?_
       obtain ⟨K2, hsF, hK2⟩ := hwh.1 ((hI3.2.1 h85).1)
       obtain ⟨ak, hak⟩ := seeF_known hsF (List.mem_of_getElem? hx) (Classical.not_not.1 h90)
       rw [← hK2] at hak
       refine YY (vlook1s (ek := Value.string) (ev' := evA) (v := ak) hak rfl rfl) rfl ?_
       refine YN ?_
       refine YY (vcq rfl rfl rfl (c_far h s _ ak x g1.1 (by omega))) rfl ?_
       refine YU ?_
       refine QT ?_
       refine QA (vnil (vinblock (vregion ?_)))
       refine QQ (vadd rfl rfl (by unfold InR; omega)) rfl ?_
       refine QM (vnil ?_)
       exact vback (IH3 (i3 + 1, decide (farOk s (some ak) x)) (hI3.next hx (by rw [decide_eq_true_iff, hak]; exact ⟨fun e => ⟨h85, fun _ => e⟩, fun e => e.2 (Classical.not_not.1 h90)⟩)) (by show (_ : Int).toNat < (_ : Int).toNat; omega)) ⟨rfl, rfl, rfl, rfl, rfl, rfl, rfl, rfl, rfl, rfl, rfl, True.intro⟩ sb
     ·
      refine NO4 ?_
      refine NO ?_
      refine vnou rfl rfl rfl rfl rfl ?_
      refine vnou rfl rfl rfl rfl rfl ?_
      refine vnou rfl rfl rfl rfl rfl ?_
      refine vnou rfl rfl rfl rfl rfl ?_
      refine vnou rfl rfl rfl rfl rfl ?_
      refine vnou rfl rfl rfl rfl rfl ?_
      refine vnou rfl rfl rfl rfl rfl ?_
      refine NO ?_
      refine QU ?_
      refine QA (vnil (vinblock (vregion ?_)))
      refine QQ (vadd rfl rfl (by unfold InR; omega)) rfl ?_
      refine QM (vnil ?_)
      exact vback (IH3 (i3 + 1, false) (hI3.next hx ⟨fun e => (by cases e), fun e => (by rw [h85] at e; exact absurd e.1 (by decide))⟩) (by show (_ : Int).toNat < (_ : Int).toNat; omega)) ⟨rfl, rfl, rfl, rfl, rfl, rfl, rfl, rfl, rfl, rfl, rfl, True.intro⟩ sb
    ·
     have hfin := step_fin hK hwh hI3 h81
     obtain ⟨post, hps, hpe⟩ := flw_at hK htn2
     rw [← hfin.1] at hps hpe
     refine vexit (k' := _) rfl ?_
     refine KK2 (QM ?_)
     refine QM ?_
     refine QM ?_
     refine vone rfl (vxg (vcy rfl rfl (VY.b2 (hy (preL t) (t, ok3) post hps _ _ _ ⟨bm, l2, c2, rfl, rfl, hI.wf, hfin.2⟩ hJ))) rfl rfl ?_)
     rintro _ _ ⟨bb, rfl, _, rfl, Hc2, rfl, hJ2⟩
     rcases bb with _ | _
     ·
      refine QQ (vnot rfl) rfl ?_
      refine QM ?_
      refine NO2 ?_
      refine QT (vnil ?_)
      refine vcondt rfl ?_
      refine vret (vr0 (H' := (bs, blk (clSc h s) 109) :: (bw, blk (clWn w) 78) :: (H0 ++ _)) Tryz.func172 rfl  sb ?_)
      exact ⟨rfl, _, rfl, .inr hJ2⟩
     ·
      refine QQ (vnot rfl) rfl ?_
      refine QM ?_
      refine YM ?_
      refine YY (vnot rfl) rfl ?_
      refine QU (vnil ?_)
      refine vcond rfl (fun h109 => ?_) (fun h109 => ?_)
      ·
       refine vret (vr0 (H' := (bs, blk (clSc h s) 109) :: (bw, blk (clWn w) 78) :: (H0 ++ _)) Tryz.func172 rfl  sb ?_)
       exact ⟨rfl, _, rfl, .inl (by rw [hps, hpe (nf h109)]; exact hJ2)⟩
      ·
       refine vskip (vinblock (vregion (QQ (vadd rfl rfl (by unfold InR; omega)) rfl ?_)))
       refine QM (vnil ?_)
       exact vback (IH (t + 1, l2, c2, Hc2) ⟨⟨by omega, hI.wf⟩, hfin.2 (nt h109), by rw [preL_succ, ← nt h109]; exact hJ2⟩ (by show s.ship.length - (t + 1) < s.ship.length - t; omega)) ⟨rfl, rfl, rfl, rfl, rfl, rfl, True.intro⟩ sb
  ·
   have hel := agedM_mem hse he
   have hKe : K e.k = some e.v := by rw [← hKl]; exact mget_of_mem hwf.ks hel
   have hlb := kst_bd (Kst_some (by omega) hK e.k) hKe
   have htge := kst_tgt (by omega) hships (Kst_some (by omega) hK e.k) e.v hKe
   refine QX (vnil (vseq ?_))
   refine vcondt rfl (vskip (vblock (KK2 (QQ (vmentry (ek := Value.string) (ev' := evA) (e := e) rfl rfl he (agedM_wf hwf).bs) rfl ?_))))
   refine QX ?_
   refine QX ?_
   refine AL fun b3 => ?_
   refine QA ?_
   refine SN (vnil (vseq (KK2 ?_)))
   refine QM ?_
   refine QF ?_
   refine QL ?_
   refine QQ (vsub rfl rfl (by unfold InR; omega)) rfl ?_
   refine QF ?_
   refine QL ?_
   refine QQ (vgtr rfl rfl) rfl ?_
   refine QM ?_
   refine vsplitd (d := 33) rfl (fun h33 => ?_) (fun h33 => ?_)
   ·
    refine YN ?_
    refine YM ?_
    refine YM ?_
    refine YY (vcq rfl rfl rfl (c_seen h s _ e.k t)) rfl ?_
    refine YY (vnot rfl) rfl ?_
    refine QT (vnil ?_)
    refine vcond rfl (fun h39 => ?_) (fun h39 => ?_)
    ·
     refine KK2 (QM ?_)
     refine QM ?_
     refine vone rfl (vxs (vmdel (ek := Value.string) (ev' := evA) rfl rfl) rfl ?_)
     refine vnil ?_
     refine vexit (k' := _) rfl ?_
     exact vback (IH1 (seen.push e.b) True.intro (unseen_lt hel hse)) ⟨rfl, rfl, rfl, rfl, rfl, rfl, rfl, rfl, True.intro⟩ (by rw [agedM_push hse c hwf.ks hwf.bs hel, ageK_del h33 h39]; exact sb)
    ·
     refine vskip (KK2 (QF ?_))
     refine QN ?_
     refine QF ?_
     refine QL ?_
     refine QQ (vcp rfl rfl rfl (c_ReachG htge (by omega))) rfl ?_
     refine QM ?_
     refine QX ?_
     refine QX ?_
     refine QF ?_
     refine SN (vnil (vregion ?_))
     refine QM ?_
     refine QM ?_
     refine QN ?_
     refine vone rfl (vxs (vmup (ek := Value.string) (ev' := evA) (v := (reachR e.v.1 w.speed, e.v.2)) rfl rfl rfl) rfl ?_)
     refine vnil (vinblock ?_)
     exact vback (IH1 (seen.push e.b) True.intro (unseen_lt hel hse)) ⟨rfl, rfl, rfl, rfl, rfl, rfl, rfl, rfl, True.intro⟩ (by rw [agedM_push hse c hwf.ks hwf.bs hel, ageK_keep (by first | exact .inl h33 | exact .inr h39)]; simp only [mclk_in (agedM_wf hwf).ks he]; exact sb)
   ·
    refine NO4 ?_
    refine NO ?_
    refine QU (vnil ?_)
    refine vcondf rfl (vskip (KK2 (QF ?_)))
    refine QN ?_
    refine QF ?_
    refine QL ?_
    refine QQ (vcp rfl rfl rfl (c_ReachG htge (by omega))) rfl ?_
    refine QM ?_
    refine QX ?_
    refine QX ?_
    refine QF ?_
    refine SN (vnil (vregion ?_))
    refine QM ?_
    refine QM ?_
    refine QN ?_
    refine vone rfl (vxs (vmup (ek := Value.string) (ev' := evA) (v := (reachR e.v.1 w.speed, e.v.2)) rfl rfl rfl) rfl ?_)
    refine vnil (vinblock ?_)
    exact vback (IH1 (seen.push e.b) True.intro (unseen_lt hel hse)) ⟨rfl, rfl, rfl, rfl, rfl, rfl, rfl, rfl, True.intro⟩ (by rw [agedM_push hse c hwf.ks hwf.bs hel, ageK_keep (by first | exact .inl h33 | exact .inr h39)]; simp only [mclk_in (agedM_wf hwf).ks he]; exact sb)
 ·
  refine vexit (k' := _) rfl ?_
  refine vend (vr0 (H' := (bs, blk (clSc h s) 109) :: (bw, blk (clWn w) 78) :: (H0 ++ _)) Tryz.func172 rfl  sb ?_)
  exact ⟨rfl, _, rfl, .inl (by rw [flw_end (show Kst w s s.ship.length = some K by rw [show s.ship.length = t by omega]; exact hK), show s.ship.length = t by omega]; exact hJ)⟩
end Go.Proofs.YtoebpndlbldfcaaGreatDoor
namespace Go.Proofs.YtoebpndlbldfcaaGreatDoor
open Go
theorem OwnS.shape {e size n : Nat} {v : Value} {xs : List Value} {B : Heap} (h : OwnS e size v n xs B) : ∃ oa c, v = .slice oa n c ∧ n ≤ c := by
  rcases h with ⟨rfl, rfl, _, _⟩ | ⟨g, cap, cur, rfl, _, h1, _⟩
  · exact ⟨_, _, rfl, Nat.le_refl _⟩
  · exact ⟨_, _, rfl, h1⟩
theorem OwnS.slo {α : Type} {e size n c : Nat} {oa : Option Addr} {xs : List Value} {B : Heap} {enc : α → List Value} {l : List α} (h : OwnS e size (.slice oa n c) n xs B) (he : ∀ x, (enc x).length = size) (hs : 0 < size) (hl : xs = l.flatMap enc) (hn : l.length = n) : SlO B oa size enc l := by
  rcases h with ⟨h1, rfl, _, _⟩ | ⟨g, cap, cur, h1, rfl, h2, h3, h4, h5⟩
  · have : l = [] := List.eq_nil_of_length_eq_zero hn
    subst this; exact SlO.nil
  · cases h1
    refine SlO.blk (T := e) (cs := cur) fun i x hx => ⟨he x, fun j v hj => ?_⟩
    have h6 := flat_get he l i x j v hx hj
    rw [← hl, ← h5, List.getElem?_take] at h6
    split at h6
    · exact h6
    · cases h6
theorem perm_mid (X C H : Heap) : (X ++ (C ++ H)).Perm (C ++ (X ++ H)) := by
  rw [← List.append_assoc, ← List.append_assoc]; exact (List.perm_append_comm).append_right H
section
variable {P : Program} {N : Nat} {E : Env} {D : List Deferred} {H H0 B : Heap}
variable {d : Nat} {x y : Operand} {T ty : TypeId} {pos : String} {af : Array Edge} {g : Option (Nat × Bool)}
theorem vappF (F : Heap → Heap) {v : Value} {n m c e size bytes : Nat} {xs news : List Value} {a : Addr} [hT : TAp P T e size bytes] (hF : ∀ C, (F C).Perm (C ++ H0)) (hx : ev E x = some v) (hy : ev E y = some (.slice (some a) m c)) (hown : OwnS e size v n xs B) 
    (hl : news.length = m * size) (hnews : ∀ j u, news[j]? = some u → ∃ ob, (a.block, ob) ∈ F B ∧ oCell ob (a.add j) = some u) (h1 : ∀ u ∈ news, u.oneCell' = true) (hm : 0 < m) (h63 : n + m ≤ maxLen) (hb : (n + m) * bytes ≤ 140737488355328) :
    OG P N E D (F B) ⟨some d, .call ⟨.builtin .append, #[x, y], #[T, T]⟩, ty, pos, af, g⟩ (fun u H' => ∃ B', OwnS e size u (n + m) (xs ++ news) B' ∧ u ≠ .slice Option.none 0 0 ∧ H' = F B') := by
  have h := vapp (P := P) (T := T) (N := N) (E := E) (D := D) (H := F B) (H0 := H0) (d := d) (ty := ty) (pos := pos) (af := af) (g := g) hx hy hown (hF B) hl hnews h1 hm h63 hb
  refine ⟨h.nodef, fun t w hA hE => ?_⟩
  obtain ⟨n', w1, h2, h3⟩ := h.go t w hA hE
  refine ⟨n', w1, h2, h3.mono fun v' w2 ⟨H', hFr, B', h4, h5, h6⟩ => ?_⟩
  subst h6
  exact ⟨F B', hFr.perm (.refl _) (hF B').symm, B', h4, h5, rfl⟩
end
theorem news_blk {b : Nat} {cs : List Value} {T : TypeId} {H : Heap} (hm : (b, blk cs T) ∈ H) : ∀ j u, cs[j]? = some u → ∃ ob, ((⟨b, 0, Option.none⟩ : Addr).block, ob) ∈ H ∧ oCell ob ((⟨b, 0, Option.none⟩ : Addr).add j) = some u := fun j u hu =>
  ⟨blk cs T, hm, by
    unfold Addr.add
    split
    · rename_i e; subst e; simpa [oCell, blk] using hu
    · simpa [oCell, blk] using hu⟩
theorem flw_pre {w : Wn} {s : Sc} : ∀ (k t : Nat) {pre post : List (Nat × Bool)} {x : Nat × Bool}, flwF w s k t = pre ++ x :: post → x.1 = t + pre.length ∧ pre = (List.range pre.length).map (fun j => (t + j, true)) ∧ x.1 < t + k ∧ (x.2 = true ↔ (Kst w s (x.1 + 1)).isSome = true) ∧ (x.2 = true → ∀ j, j < x.1 - t → True)
  | 0, t, pre, post, x, h => by simp [flwF] at h
  | k + 1, t, pre, post, x, h => by
    simp only [flwF] at h
    cases hk : Kst w s (t + 1) with
    | none =>
      rw [hk] at h
      cases pre with
      | nil => simp only [List.nil_append, List.cons.injEq] at h; obtain ⟨rfl, _⟩ := h; exact ⟨rfl, rfl, by simp, by simp [hk], fun _ _ _ => True.intro⟩
      | cons y r => simp at h
    | some K =>
      rw [hk] at h
      cases pre with
      | nil => simp only [List.nil_append, List.cons.injEq] at h; obtain ⟨rfl, _⟩ := h; exact ⟨rfl, rfl, by simp, by simp [hk], fun _ _ _ => True.intro⟩
      | cons y r =>
        simp only [List.cons_append, List.cons.injEq] at h
        obtain ⟨rfl, h⟩ := h
        obtain ⟨h1, h2, h3, h4, _⟩ := flw_pre k (t + 1) h
        refine ⟨by rw [h1]; simp; omega, ?_, by omega, h4, fun _ _ _ => True.intro⟩
        rw [List.length_cons, List.range_succ_eq_map, List.map_cons, List.map_map]
        congr 1
        rw [h2]
        simp only [List.length_map, List.length_range]
        apply List.map_congr_left
        intro j _
        simp only [Function.comp, Prod.mk.injEq, and_true]; omega
end Go.Proofs.YtoebpndlbldfcaaGreatDoor
namespace Go.Proofs.YtoebpndlbldfcaaGreatDoor
open Go
set_option maxRecDepth 100000
attribute [local irreducible] tightP hullP rootP farP rows endsOf
instance tApB : TAp Tryz.prog 80 4 1 1 := mkTAp (z := .bool false) (by kernel_rfl) (by kernel_rfl) rfl
def riskB (w : Wn) (s : Sc) (t : Nat) : Bool := s.sg.any fun x => riskAt w s t (knAt w s x.nm (t + 1))
abbrev bV (b : Bool) : Value := .bool b
def riskN (w : Wn) (s : Sc) (n : Nat) : List Bool := (List.range n).map (riskB w s)
theorem riskN_succ (w : Wn) (s : Sc) (n : Nat) : riskN w s (n + 1) = riskN w s n ++ [riskB w s n] := by unfold riskN; rw [List.range_succ]; simp
theorem riskN_len (w : Wn) (s : Sc) (n : Nat) : (riskN w s n).length = n := by simp [riskN]
theorem Kst_name {w : Wn} {s : Sc} {nm : ByteArray} : ∀ {n : Nat} {k : Kn} {a : Rg × Int}, kst w s nm n = some k → k = some a → ∃ x ∈ s.sg, x.nm = nm
  | 0, k, a, h, ha => by simp only [kst, Option.some.injEq] at h; subst h; cases ha
  | n + 1, k, a, h, ha => by
    simp only [kst] at h
    cases hk : kst w s nm n with
    | none => rw [hk] at h; cases h
    | some k0 =>
      rw [hk] at h
      change stepT w s nm (n : Int) k0 = some k at h
      by_cases hi : inStep s nm n = []
      · rw [stepT_unseen hi] at h
        simp only [Option.some.injEq] at h
        cases k0 with
        | none => rw [← h] at ha; cases ha
        | some b => exact Kst_name hk rfl
      · obtain ⟨x, hx⟩ := List.exists_mem_of_ne_nil _ hi
        obtain ⟨h1, _, h2⟩ := inStep_mem hx
        exact ⟨x, h1, h2⟩
theorem risk_any {w : Wn} {s : Sc} {t : Nat} {K : Kf} {l : List EnA} {c : Nat} (hh : 0 ≤ w.hold) (hK : Kst w s (t + 1) = some K) (hl : ∀ nm, mget nm l = K nm) (hwf : wfM l c) : (l.any fun e => riskAt w s t (some e.v)) = riskB w s t := by
  have hk : ∀ nm, knAt w s nm (t + 1) = K nm := fun nm => by unfold knAt; rw [Kst_some hh hK nm]; rfl
  unfold riskB
  rw [Bool.eq_iff_iff, List.any_eq_true, List.any_eq_true]
  constructor
  · rintro ⟨e, he, hr⟩
    have h1 : K e.k = some e.v := by rw [← hl]; exact mget_of_mem hwf.ks he
    obtain ⟨x, hx, hn⟩ := Kst_name (Kst_some hh hK e.k) h1
    exact ⟨x, hx, by rw [hk, hn, h1]; exact hr⟩
  · rintro ⟨x, hx, hr⟩
    rw [hk, ← hl] at hr
    cases hm : mget x.nm l with
    | none => rw [hm] at hr; cases hr
    | some a =>
      obtain ⟨e, he, _, hv⟩ := mem_mget hm
      exact ⟨e, he, by rw [hv, ← hm]; exact hr⟩
def LookI (l : List EnA) (p : EnA → Bool) (seen : Array Nat) (is : Bool) : Prop := is = true ↔ ∃ e ∈ l, seen.contains e.b = true ∧ p e = true
theorem LookI.start {l : List EnA} {p : EnA → Bool} : LookI l p #[] false := by unfold LookI; simp
theorem LookI.next {l : List EnA} {p : EnA → Bool} {seen : Array Nat} {is : Bool} {e : EnA} (h : LookI l p seen is) (hb : (l.map Ent.b).Nodup) (he : e ∈ l) {b : Bool} (hbb : b = true ↔ is = true ∨ p e = true) : LookI l p (seen.push e.b) b := by
  unfold LookI at *
  rw [hbb, h]
  constructor
  · rintro (⟨x, h1, h2, h3⟩ | h1)
    · exact ⟨x, h1, by rw [cont_push, h2]; rfl, h3⟩
    · exact ⟨e, he, by rw [cont_push]; simp, h1⟩
  · rintro ⟨x, h1, h2, h3⟩
    rw [cont_push, Bool.or_eq_true] at h2
    rcases h2 with h2 | h2
    · exact .inl ⟨x, h1, h2, h3⟩
    · have : x = e := by
        have hx : x.b = e.b := by simpa using h2
        obtain ⟨i, hi⟩ := List.getElem?_of_mem h1
        obtain ⟨j, hj⟩ := List.getElem?_of_mem he
        have e1 : (l.map Ent.b)[i]? = some x.b := by rw [List.getElem?_map, hi]; rfl
        have e2 : (l.map Ent.b)[j]? = some x.b := by rw [List.getElem?_map, hj, hx]; rfl
        have hl1 := (List.getElem?_eq_some_iff.1 e1).1
        have : i = j := (List.getElem?_inj hl1 hb).1 (e1.trans e2.symm)
        subst this
        rw [hi] at hj; exact Option.some.inj hj
      subst this; exact .inr h3
theorem LookI.whole {l : List EnA} {p : EnA → Bool} {seen : Array Nat} {is : Bool} (h : LookI l p seen is) (hall : ∀ e ∈ l, seen.contains e.b = true) : is = l.any p := by
  unfold LookI at h
  rw [Bool.eq_iff_iff, h, List.any_eq_true]
  exact ⟨fun ⟨e, h1, _, h3⟩ => ⟨e, h1, h3⟩, fun ⟨e, h1, h3⟩ => ⟨e, h1, hall e h1, h3⟩⟩
theorem flw_all {w : Wn} {s : Sc} : ∀ (k t : Nat), (Kst w s t).isSome = true → (∀ y ∈ flwF w s k t, y.2 = true) → (Kst w s (t + k)).isSome = true ∧ (flwF w s k t).length = k
  | 0, t, h, _ => ⟨h, rfl⟩
  | k + 1, t, h, h2 => by
    simp only [flwF] at h2 ⊢
    cases hk : Kst w s (t + 1) with
    | none => rw [hk] at h2; exact absurd (h2 (t, false) (by simp)) (by simp)
    | some K =>
      rw [hk] at h2
      obtain ⟨g1, g2⟩ := flw_all k (t + 1) (by rw [hk]; rfl) (fun y hy => h2 y (by simp [hy]))
      exact ⟨by rw [show t + (k + 1) = t + 1 + k by omega]; exact g1, by simp [g2]⟩
theorem Kst_mono {w : Wn} {s : Sc} {t : Nat} (h : Kst w s t = none) : ∀ k, Kst w s (t + k) = none
  | 0 => h
  | k + 1 => by rw [show t + (k + 1) = t + k + 1 from rfl]; simp only [Kst, Kst_mono h k]
theorem risk_done {w : Wn} {s : Sc} (hh : 0 ≤ w.hold) (h : ∀ y ∈ flwF w s s.ship.length 0, y.2 = true) : riskP w s = some (riskN w s (flwF w s s.ship.length 0).length) := by
  obtain ⟨g1, g2⟩ := flw_all s.ship.length 0 rfl h
  rw [Nat.zero_add] at g1
  unfold riskP
  rw [if_pos ((okAll_iff hh).2 g1), g2]; rfl
theorem risk_stop {w : Wn} {s : Sc} (hh : 0 ≤ w.hold) {t : Nat} (h : Kst w s (t + 1) = none) (ht : t < s.ship.length) : riskP w s = none := by
  unfold riskP
  rw [if_neg]
  rw [okAll_iff hh]
  have := Kst_mono h (s.ship.length - (t + 1))
  rw [show t + 1 + (s.ship.length - (t + 1)) = s.ship.length by omega] at this
  rw [this]; simp
theorem n_follow (h : SH) (s : Sc) (w : Wn) (H : Heap) : VCall Tryz.prog 142 [vSc h s, vWn w].toArray H (fun o H' => ∃ bs bw, o = .val (.func (.func 172) #[] #[ptr bs, ptr bw]) ∧ H' = (bw, blk (clWn w) 78) :: (bs, blk (clSc h s) 109) :: H) := by
 refine CV 6 Tryz.func142 ?_
 refine KK2 (BX fun b1 => ?_)
 refine BX fun b2 => ?_
 refine QA (KK3 ?_)
 refine QQ (vmf rfl) rfl ?_
 refine QA (vnil ?_)
 refine vret (V1 ((b2, blk (clWn w) 78) :: (b1, blk (clSc h s) 109) :: H) Tryz.func142 ?_)
 exact ⟨_, _, rfl, rfl⟩
theorem d_danger (h : SH) (s : Sc) (w : Wn) (hw : okW w) (hs : okSc s) (H : Heap) [hsc : ScO H h s] [hgl : Glob H] : VCall Tryz.prog 104 [vSc h s, vWn w].toArray H (fun o H' => ∃ v, o = .val v ∧ ∃ B, H' = B ++ H ∧ ∃ oa n c, v = tup [.slice oa n c, .bool (riskP w s).isSome] ∧ OwnS 4 1 (.slice oa n c) n (((riskP w s).getD []).map bV) B ∧ n = ((riskP w s).getD []).length) := by
 have hw0 := hw
 unfold okW at hw
 have hbd := hsc.bd
 have hn64 := hs.1
 have hsl := hs.2.1
 have hzq := sq_bd (n := w.zone) (by omega)
 refine CV 56 Tryz.func104 ?_
 refine KK2 (BX fun b1 => ?_)
 refine BX fun b2 => ?_
 refine AL fun b3 => ?_
 refine AL fun b4 => (KK3 ?_)
 refine AL fun b5 => (vnil (vseq (KK2 ?_)))
 refine QN ?_
 refine QN ?_
 refine vone rfl (vxg (vcg (R := fun v H' => ∃ bs bw, v = .func (.func 172) #[] #[ptr bs, ptr bw] ∧ H' = (bw, blk (clWn w) 78) :: (bs, blk (clSc h s) 109) :: (b5, blk [.slice Option.none 0 0] 80) :: (b4, blk [.bool false] 4) :: (b3, blk [.slice Option.none 0 0] 80) :: (b2, blk (clWn w) 78) :: (b1, blk (clSc h s) 109) :: H) rfl rfl rfl (n_follow h s w _) (fun o H' ⟨bs, bw, h1, h2⟩ => ⟨_, h1, bs, bw, rfl, h2⟩)) rfl rfl ?_)
 rintro _ _ ⟨bs, bw, rfl, rfl⟩
 refine vnil (vblock ?_)
 refine vrangeM (X := XF w s H) (xs := (flwF w s s.ship.length 0)) (caps := [ptr bs, ptr bw]) (Hi := ((bs, blk (clSc h s) 109) :: (bw, blk (clWn w) 78) :: H)) (Hc := ((b5, blk [.slice Option.none 0 0] 80) :: (b4, blk [.bool false] 4) :: (b3, blk [.slice Option.none 0 0] 80) :: (b2, blk (clWn w) 78) :: (b1, blk (clSc h s) 109) :: [])) (ps := [17, 18]) (fun pre H1 => ∃ oa cp B, (∀ y ∈ pre, y.2 = true) ∧ OwnS 4 1 (.slice oa pre.length cp) pre.length ((riskN w s pre.length).map bV) B ∧ H1 = (b5, blk [.slice oa pre.length cp] 80) :: (b4, blk [.bool false] 4) :: (b3, blk [.slice Option.none 0 0] 80) :: (b2, blk (clWn w) 78) :: (b1, blk (clSc h s) 109) :: B) (fun c H1 => c = .ret ∧ riskP w s = none ∧ ∃ sv B, H1 = (b5, blk [sv] 80) :: (b4, blk [.bool false] 4) :: (b3, blk [.slice Option.none 0 0] 80) :: (b2, blk (clWn w) 78) :: (b1, blk (clSc h s) 109) :: B) rfl (it_follow h s w hw0 hs H bs bw) ((List.Perm.swap _ _ _).trans (((List.perm_append_comm (l₁ := (b5, blk [.slice Option.none 0 0] 80) :: (b4, blk [.bool false] 4) :: (b3, blk [.slice Option.none 0 0] 80) :: (b2, blk (clWn w) 78) :: (b1, blk (clSc h s) 109) :: []) (l₂ := H)).cons _).cons _)) ⟨_, _, [], (fun y hy => by cases hy), OwnS.nil, rfl⟩ (fun x vs Hx ⟨m, l, c, h1, _⟩ => by rw [h1]; rfl) rfl ?_ ?_ ?_
 ·
  intro lp rec pre x post vs Hx H1 hrs hxs hX hI
  obtain ⟨m, l, c, rfl, rfl, hwf, hKl⟩ := hX
  obtain ⟨oa, cp, B, hall2, hown, rfl⟩ := hI
  obtain ⟨hx1, hpre, hxn, hx2, _⟩ := flw_pre _ _ hxs
  obtain ⟨t, ok⟩ := x
  simp only [Nat.zero_add] at hx1 hxn
  subst hx1
  refine VRun.perm (H' := (lp, Obj.loop rec) :: (m, mO l c) :: (b5, blk [.slice oa pre.length cp] 80) :: (b4, blk [.bool false] 4) :: (b3, blk [.slice Option.none 0 0] 80) :: (b2, blk (clWn w) 78) :: (b1, blk (clSc h s) 109) :: (B ++ H)) (((List.perm_append_comm (l₁ := (b5, blk [.slice oa pre.length cp] 80) :: (b4, blk [.bool false] 4) :: (b3, blk [.slice Option.none 0 0] 80) :: (b2, blk (clWn w) 78) :: (b1, blk (clSc h s) 109) :: B) (l₂ := H)).symm.cons _).cons _) ?_
  refine KK2 (QA (vnil (vregion ?_)))
  refine QA (vnil ?_)
  refine vbegin hrs ?_
  refine vblock (vseq (KK2 (QM ?_)))
  refine QQ (vnot rfl) rfl (vnil ?_)
  refine vcond rfl (fun h20 => ?_) (fun h20 => ?_)
  ·
   have hok : ok = false := nf h20
   subst hok
   have hkn : Kst w s (pre.length + 1) = none := by cases hq : Kst w s (pre.length + 1) with | none => rfl | some K => exact absurd (hx2.2 (by show (Kst w s (pre.length + 1)).isSome = true; rw [hq]; rfl)) (by simp)
   refine KK2 (SU ?_)
   refine SU (vnil ?_)
   refine VRun.perm (H' := (lp, Obj.loop (bsy rec)) :: (((m, mO l c) :: H) ++ (b5, blk [.slice oa pre.length cp] 80) :: (b4, blk [.bool false] 4) :: (b3, blk [.slice Option.none 0 0] 80) :: (b2, blk (clWn w) 78) :: (b1, blk (clSc h s) 109) :: B)) (((List.perm_append_comm (l₁ := (b5, blk [.slice oa pre.length cp] 80) :: (b4, blk [.bool false] 4) :: (b3, blk [.slice Option.none 0 0] 80) :: (b2, blk (clWn w) 78) :: (b1, blk (clSc h s) 109) :: B) (l₂ := H)).cons _).cons _) ?_
   refine vroundI_ret (.refl _) ?_
   exact ⟨_, rfl, rfl, risk_stop (by omega) hkn hxn, _, _, rfl⟩
  ·
   have hok : ok = true := nt h20
   subst hok
   obtain ⟨K, hK, hKl'⟩ := hKl rfl
   obtain ⟨z, hz⟩ := get_of_lt s.src (i := ((pre.length : Nat) : Int).toNat) (by omega)
   have hza : atR s.src pre.length = z := atR_of hz
   refine vskip (KK2 (QA (vnil (vseq (KK2 ?_)))))
   refine QM ?_
   refine vone rfl (vxg (vmrange (ek := Value.string) (ev' := evA) rfl) rfl rfl ?_)
   rintro _ _ ⟨bi, rfl, rfl⟩
   refine vnil (vblock ?_)
   refine vwhile (σ := Array Nat × Bool) (fun ⟨seen, is⟩ => (l.filter fun x => !seen.contains x.b).length) (fun ⟨seen, is⟩ => [(2, ptr b1), (3, ptr b2), (6, ptr b5), (9, .bool is), (22, ptr bi)]) (fun ⟨seen, is⟩ => (bi, Obj.mapIter (some m) c seen c) :: (lp, Obj.loop (bsy rec)) :: (m, mO l c) :: (b5, blk [.slice oa pre.length cp] 80) :: (b4, blk [.bool false] 4) :: (b3, blk [.slice Option.none 0 0] 80) :: (b2, blk (clWn w) 78) :: (b1, blk (clSc h s) 109) :: (B ++ H)) (fun ⟨seen, is⟩ => LookI l (fun e => riskAt w s pre.length (some e.v)) seen is) (#[], false) LookI.start ⟨rfl, rfl, rfl, rfl, rfl, True.intro⟩ sb ?_
   rintro ⟨seen, is⟩ hL IH
   change VRun _ _ _ _ _ [(2, ptr b1), (3, ptr b2), (6, ptr b5), (9, .bool is), (22, ptr bi)] _ ((bi, Obj.mapIter (some m) c seen c) :: (lp, Obj.loop (bsy rec)) :: (m, mO l c) :: (b5, blk [.slice oa pre.length cp] 80) :: (b4, blk [.bool false] 4) :: (b3, blk [.slice Option.none 0 0] 80) :: (b2, blk (clWn w) 78) :: (b1, blk (clSc h s) 109) :: (B ++ H)) _
   refine KK2 ?_
   refine vone rfl (vxg (vmnext (ek := Value.string) (ev' := evA) rfl rfl hwf.lt) rfl rfl ?_)
   rintro v1 H1' hR
   rcases hR with ⟨rfl, rfl, hall⟩ | ⟨e, he, hse, rfl, rfl⟩
   ·
    have hisr : is = riskB w s pre.length := (hL.whole hall).trans (risk_any (by omega) hK hKl' hwf)
    refine QX (vnil (vseq ?_))
    refine vcondf rfl ?_
    refine vexit (k' := _) rfl ?_
    refine vregion (QL ?_)
    refine QM ?_
    refine vone rfl (vxg (vbs rfl rfl rfl rfl rfl rfl) rfl rfl ?_)
    rintro _ _ ⟨bn, rfl, rfl⟩
    refine vone rfl (vxg (vappF (a := ⟨bn, 0, Option.none⟩) (m := 1) (c := 1) (size := 1) (bytes := 1) (F := fun C => (bn, blk [.bool is] 4) :: (bi, Obj.mapIter (some m) c seen c) :: (lp, Obj.loop (bsy rec)) :: (m, mO l c) :: (b5, blk [.slice oa pre.length cp] 80) :: (b4, blk [.bool false] 4) :: (b3, blk [.slice Option.none 0 0] 80) :: (b2, blk (clWn w) 78) :: (b1, blk (clSc h s) 109) :: (C ++ H)) (B := B) (xs := (riskN w s pre.length).map bV) (news := [.bool is]) (fun C => perm_mid [(bn, blk [.bool is] 4), (bi, Obj.mapIter (some m) c seen c), (lp, Obj.loop (bsy rec)), (m, mO l c), (b5, blk [.slice oa pre.length cp] 80), (b4, blk [.bool false] 4), (b3, blk [.slice Option.none 0 0] 80), (b2, blk (clWn w) 78), (b1, blk (clSc h s) 109)] C H) rfl rfl hown rfl (news_blk (b := bn) (List.Mem.head _)) (fun u hu => by rw [List.mem_singleton.1 hu]; rfl) (by omega) (by simp only [maxLen]; omega) (by omega)) rfl rfl ?_)
    rintro _ _ ⟨B', hown2, _, rfl⟩
    obtain ⟨oa2, cp2, rfl, hle2⟩ := hown2.shape
    refine SU (vnil (vinblock ?_))
    refine VRun.sub (H' := (lp, Obj.loop (bsy rec)) :: (m, mO l c) :: (b5, blk [.slice oa2 (pre.length + 1) cp2] 80) :: (b4, blk [.bool false] 4) :: (b3, blk [.slice Option.none 0 0] 80) :: (b2, blk (clWn w) 78) :: (b1, blk (clSc h s) 109) :: (B' ++ H)) sb ?_
    refine VRun.perm (H' := (lp, Obj.loop (bsy rec)) :: (((m, mO l c) :: H) ++ (b5, blk [.slice oa2 (pre.length + 1) cp2] 80) :: (b4, blk [.bool false] 4) :: (b3, blk [.slice Option.none 0 0] 80) :: (b2, blk (clWn w) 78) :: (b1, blk (clSc h s) 109) :: B')) (((List.perm_append_comm (l₁ := (b5, blk [.slice oa2 (pre.length + 1) cp2] 80) :: (b4, blk [.bool false] 4) :: (b3, blk [.slice Option.none 0 0] 80) :: (b2, blk (clWn w) 78) :: (b1, blk (clSc h s) 109) :: B') (l₂ := H)).cons _).cons _) ?_
    refine vroundI_end (.refl _) ?_
    exact ⟨_, rfl, oa2, cp2, B', (fun y hy => by rcases List.mem_append.1 hy with hy | hy; exact hall2 y hy; rw [List.mem_singleton.1 hy]), by simp only [List.length_append, List.length_singleton]; rw [riskN_succ, List.map_append, ← hisr]; exact hown2, by simp only [List.length_append, List.length_singleton]⟩
   ·
    refine QX (vnil (vseq ?_))
    refine vcondt rfl (vskip (vblock (KK2 (QQ (vmentry (ek := Value.string) (ev' := evA) (e := e) rfl rfl he hwf.bs) rfl ?_))))
    refine QX ?_
    refine AL fun b6 => ?_
    refine SN (vnil (vseq ?_))
    refine vdraw [(.q, 0), (.q, 1), (.q, 2), (.q, 3), (.q, 4), (.q, 5), (.q, 6), (.q, 7), (.q, 8), (.q, 9), (.q, 10), (.q, 11), (.q, 12), (.a (blk [.int .i64 0, .int .i64 0] (56)), 13), (.s, 14), (.q, 15)] Tryz.mixed (by kernel_rfl) ⟨⟨_, _, _, _, _, rfl, _, inferInstance, rfl⟩, True.intro⟩ ?_
    refine DF ?_
    refine DN ?_
    refine DF ?_
    refine DF ?_
    refine DL ?_
    refine DL ?_
    refine DD (vlen rfl) rfl ?_
    refine DD (visg (enc := clR) rfl rfl (by omega) hz) rfl ?_
    refine DD (vldS (enc := clR) rfl hz) rfl ?_
    refine DD (vcp rfl rfl rfl (c_Gap e.v.1 z)) rfl ?_
    refine DM ?_
    refine DX ?_
    refine DX ?_
    refine vda rfl rfl (fun b7 => ?_)
    refine vds (mone rfl) (vstn rfl rfl rfl rfl rfl) rfl ?_
    refine DA (vdend rfl (vregion ?_))
    refine QM ?_
    refine QM ?_
    refine vsplit (d := 41) rfl (fun h41 => ?_) (fun h41 => ?_)
    ·
     refine NO4 ?_
     refine NO4 ?_
     refine QT ?_
     refine QA (vnil (vinblock ?_))
     exact vback (IH (seen.push e.b, true) (hL.next hwf.bs he ⟨fun _ => .inl h41, fun _ => rfl⟩) (unseen_lt he hse)) ⟨rfl, rfl, rfl, rfl, rfl, True.intro⟩ sb
    ·
     refine YF ?_
     refine YL ?_
     refine YF ?_
     refine YL ?_
     refine YF ?_
     refine YL ?_
     refine YY (vmul rfl rfl (by unfold InR; omega)) rfl ?_
     refine YY (vleq rfl rfl) rfl ?_
     refine QU ?_
     refine QA (vnil (vinblock ?_))
     exact vback (IH (seen.push e.b, decide ((gapW e.v.1 z).lo ≤ w.zone * w.zone)) (hL.next hwf.bs he ⟨fun g => .inr (show decide ((gapW e.v.1 (atR s.src pre.length)).lo ≤ w.zone * w.zone) = true by rw [hza]; exact g), fun g => (g.elim (fun g => by rw [h41] at g; cases g) (fun g => by rw [← hza]; exact g))⟩) (unseen_lt he hse)) ⟨rfl, rfl, rfl, rfl, rfl, True.intro⟩ sb
 ·
  intro r1 H1 hI
  obtain ⟨oa, cp, B, hall2, hown, rfl⟩ := hI
  have hrd := risk_done (w := w) (s := s) (by omega) hall2
  generalize flwF w s s.ship.length 0 = xs at hown hrd ⊢
  refine VRun.perm (H' := (r1, .deferred (some [])) :: (bs, blk (clSc h s) 109) :: (bw, blk (clWn w) 78) :: (b5, blk [.slice oa xs.length cp] 80) :: (b4, blk [.bool false] 4) :: (b3, blk [.slice Option.none 0 0] 80) :: (b2, blk (clWn w) 78) :: (b1, blk (clSc h s) 109) :: (B ++ H)) ((((List.perm_append_comm (l₁ := H) (l₂ := (b5, blk [.slice oa xs.length cp] 80) :: (b4, blk [.bool false] 4) :: (b3, blk [.slice Option.none 0 0] 80) :: (b2, blk (clWn w) 78) :: (b1, blk (clSc h s) 109) :: B)).cons _).cons _).cons _) ?_
  refine vinblock (KK2 (QL ?_))
  refine SU ?_
  refine SU (vnil ?_)
  refine vret (vret_mark (vr2 (H' := B ++ H) Tryz.func104 rfl (.cell1 rfl rfl) (.cell1 rfl rfl) sb ?_))
  exact ⟨_, rfl, B, rfl, oa, _, cp, by rw [hrd]; rfl, by rw [hrd]; exact hown, by rw [hrd]; exact (riskN_len _ _ _).symm⟩
 ·
  intro r1 c H1 hI
  obtain ⟨rfl, hrn, sv, B, rfl⟩ := hI
  refine VRun.perm (H' := (r1, .deferred (some [])) :: (bs, blk (clSc h s) 109) :: (bw, blk (clWn w) 78) :: (b5, blk [sv] 80) :: (b4, blk [.bool false] 4) :: (b3, blk [.slice Option.none 0 0] 80) :: (b2, blk (clWn w) 78) :: (b1, blk (clSc h s) 109) :: (B ++ H)) ((((List.perm_append_comm (l₁ := H) (l₂ := (b5, blk [sv] 80) :: (b4, blk [.bool false] 4) :: (b3, blk [.slice Option.none 0 0] 80) :: (b2, blk (clWn w) 78) :: (b1, blk (clSc h s) 109) :: B)).cons _).cons _).cons _) ?_
  refine vret (vret_mark (vr2 (H' := H) Tryz.func104 rfl (.cell1 rfl rfl) (.cell1 rfl rfl) sb ?_))
  exact ⟨_, rfl, [], rfl, Option.none, 0, 0, by rw [hrn]; rfl, by rw [hrn]; exact OwnS.nil, by rw [hrn]; rfl⟩
end Go.Proofs.YtoebpndlbldfcaaGreatDoor
namespace Go.Proofs.YtoebpndlbldfcaaGreatDoor
open Go
set_option maxRecDepth 100000
attribute [local irreducible] tightP hullP rootP farP rows endsOf
instance (priority := low) HAt.appR {A H : Heap} {b : Nat} {cs : List Value} {T : TypeId} [h : HAt H b cs T] : HAt (A ++ H) b cs T := ⟨List.mem_append_right _ h.mem⟩
instance (priority := low) HUp.appR {A H : Heap} {b : Nat} {cs : List Value} {T : TypeId} {F : List Value → Heap} [h : HUp H b cs T F] : HUp (A ++ H) b cs T (fun c => A ++ F c) := by
  obtain ⟨pre, post, h1, h2⟩ := h.split
  exact ⟨A ++ pre, post, by rw [h1, List.append_assoc], fun c => by rw [h2, List.append_assoc]⟩
instance (priority := low) LgO.appR {A B : Heap} {L : LH} {g : Lg} [hs : LgO B L g] : LgO (A ++ B) L g := hs.sub fun e he => List.mem_append_right _ he
theorem SlO.appLB {α : Type} {A B : Heap} {oa : Option Addr} {esz : Nat} {enc : α → List Value} {l : List α} (h : SlO A oa esz enc l) : SlO (A ++ B) oa esz enc l := h.sub fun e he => List.mem_append_left _ he
theorem mapB (l : List Bool) : l.map bV = l.flatMap encB := by induction l with | nil => rfl | cons x r ih => simp [ih]
theorem OwnS.sb {e n c : Nat} {oa : Option Addr} {l : List Bool} {B : Heap} (h : OwnS e 1 (.slice oa n c) n (l.map bV) B) (hn : l.length = n) : SlO B oa 1 encB l ∧ n ≤ c := by
  refine ⟨h.slo (fun x => rfl) (by decide) (mapB l) hn, ?_⟩
  obtain ⟨oa', c', h1, h2⟩ := h.shape
  cases h1; exact h2
theorem both_ok {w : Wn} {s : Sc} (h : ¬ bothE w (chkS s) ≠ 0) : okW w ∧ okSc s := by
  have h := Classical.not_not.1 h
  unfold bothE at h
  split at h
  · rename_i h1; exact ⟨chkW_z.1 h1, chkS_z.1 h⟩
  · cases h
noncomputable def dangerE (w : Wn) (s : Sc) : List Bool × Int := if bothE w (chkS s) ≠ 0 then ([], bothE w (chkS s)) else match riskP w s with | none => ([], 62) | some l => (l, 0)
theorem danger_e {w : Wn} {s : Sc} (h : bothE w (chkS s) ≠ 0) : dangerE w s = ([], bothE w (chkS s)) := if_pos h
theorem danger_n {w : Wn} {s : Sc} (h : ¬ bothE w (chkS s) ≠ 0) (h2 : riskP w s = none) : dangerE w s = ([], 62) := by unfold dangerE; rw [if_neg h, h2]
theorem danger_y {w : Wn} {s : Sc} (h : ¬ bothE w (chkS s) ≠ 0) {l : List Bool} (h2 : riskP w s = some l) : dangerE w s = (l, 0) := by unfold dangerE; rw [if_neg h, h2]
theorem risk_len {w : Wn} {s : Sc} {l : List Bool} (h : riskP w s = some l) : l.length = s.ship.length := by
  unfold riskP at h
  split at h
  · cases h; simp [riskL]
  · cases h
theorem danger_0 {w : Wn} {s : Sc} (h : (dangerE w s).2 = 0) : okW w ∧ okSc s ∧ riskP w s = some (dangerE w s).1 ∧ (dangerE w s).1.length = s.ship.length := by
  by_cases hb : bothE w (chkS s) ≠ 0
  · rw [danger_e hb] at h; exact absurd h hb
  · obtain ⟨h1, h2⟩ := both_ok hb
    cases hr : riskP w s with
    | none => rw [danger_n hb hr] at h; cases h
    | some l => rw [danger_y hb hr]; exact ⟨h1, h2, rfl, risk_len hr⟩
theorem LgO.of {H B : Heap} {h : SH} {w : Wn} {s : Sc} {oa : Option Addr} {c : Nat} [hs : ScO H h s] (h0 : (dangerE w s).2 = 0) (hc : (dangerE w s).1.length ≤ c) (hsl : SlO B oa 1 encB (dangerE w s).1) : LgO (B ++ H) ⟨h, oa, c⟩ ⟨w, s, (dangerE w s).1⟩ := by
  obtain ⟨h1, h2, _, h4⟩ := danger_0 h0
  exact ⟨inferInstance, hsl.appLB, hc, h1, h2, h4⟩
theorem d_Danger (w : Wn) (h : SH) (s : Sc) (H : Heap) [hsc : ScO H h s] [hgl : Glob H] : VCall Tryz.prog 75 [vWn w, vSc h s].toArray H (fun o H' => ∃ v, o = .val v ∧ ∃ B, H' = B ++ H ∧ ∃ oa c, v = tup [.slice oa (dangerE w s).1.length c, I (dangerE w s).2] ∧ (dangerE w s).1.length ≤ c ∧ SlO B oa 1 encB (dangerE w s).1) := by
 refine CV 25 Tryz.func75 ?_
 refine KK2 (BX fun b1 => ?_)
 refine BX fun b2 => ?_
 refine QA ?_
 refine QA (vnil (vseq (KK2 ?_)))
 refine QN ?_
 refine QN ?_
 refine QQ (vcq rfl rfl rfl (c_both w h s _)) rfl ?_
 refine QA (KK3 ?_)
 refine QM ?_
 refine QG (vnil ?_)
 refine vcondd rfl (fun h13 => ?_) (fun h13 => ?_)
 ·
  refine KK2 (QM ?_)
  refine QA ?_
  refine QA (vnil ?_)
  refine vret (vr2 (H' := H) Tryz.func75 rfl (.tmp rfl) (.tmp rfl) sb2 ?_)
  (rw [danger_e h13]; exact ⟨_, rfl, [], rfl, Option.none, 0, rfl, Nat.le_refl _, SlO.nil⟩)
 ·
  obtain ⟨hw0, hs0⟩ := both_ok h13
  refine vskip (KK2 (QN ?_))
  refine QB ?_
  refine QN ?_
  refine vone rfl (vxg (vcg rfl rfl rfl (d_danger h s w hw0 hs0 _) (fun o H' h => h)) rfl rfl ?_)
  rintro _ _ ⟨B, rfl, ⟨oa, n, c, rfl, hown, rfl⟩⟩
  skip
  ·
   obtain ⟨hsl, hle⟩ := hown.sb rfl
   refine QM ?_
   refine QX ?_
   refine QX ?_
   refine QA ?_
   refine QA (vnil (vseq (KK2 ?_)))
   refine QM ?_
   refine QQ (vnot rfl) rfl (vnil ?_)
   refine vcond rfl (fun h23 => ?_) (fun h23 => ?_)
   ·
    refine KK2 (QA ?_)
    refine QA (vnil ?_)
    refine vret (vr2 (H' := B ++ H) Tryz.func75 rfl (.tmp rfl) (.tmp rfl) sb2 ?_)
    (rw [danger_n h13 (optN h23)]; exact ⟨_, rfl, B, rfl, Option.none, 0, rfl, Nat.le_refl _, SlO.nil⟩)
   ·
    refine vskip (KK2 (QM ?_))
    refine QA ?_
    refine QA (vnil ?_)
    refine vret (vr2 (H' := B ++ H) Tryz.func75 rfl (.tmp rfl) (.tmp rfl) sb2 ?_)
    (obtain ⟨l, hl⟩ := optS h23; rw [hl] at hsl hle; rw [danger_y h13 hl, hl]; exact ⟨_, rfl, B, rfl, oa, c, rfl, hle, hsl⟩)
theorem d_logOf (w : Wn) (h : SH) (s : Sc) (H : Heap) [hsc : ScO H h s] [hgl : Glob H] : VCall Tryz.prog 56 [vWn w, vSc h s].toArray H (fun o H' => ∃ v, o = .val v ∧ ∃ B, H' = B ++ H ∧ ∃ oa c, v = tup [vLg ⟨h, oa, c⟩ ⟨w, s, (dangerE w s).1⟩, I (dangerE w s).2] ∧ (dangerE w s).1.length ≤ c ∧ SlO B oa 1 encB (dangerE w s).1) := by
 refine CV 20 Tryz.func56 ?_
 refine KK2 (BX fun b1 => ?_)
 refine BX fun b2 => ?_
 refine AL fun b3 => ?_
 refine QA (KK3 ?_)
 refine QN ?_
 refine QN ?_
 refine vone rfl (vxg (vcg rfl rfl rfl (d_Danger w h s _) (fun o H' h => h)) rfl rfl ?_)
 rintro _ _ ⟨B, rfl, ⟨oa, c, rfl, hle, hsl⟩⟩
 refine QM ?_
 refine QX ?_
 refine QX ?_
 refine QA ?_
 refine QA (KK3 ?_)
 refine QN ?_
 refine QB ?_
 refine QN ?_
 refine QM ?_
 refine QB ?_
 refine QM ?_
 refine SN ?_
 refine QA (vnil ?_)
 refine vret (vr2 (H' := B ++ H) Tryz.func56 rfl (.celln rfl rfl) (.tmp rfl) sb2 ?_)
 exact ⟨_, rfl, B, rfl, oa, c, rfl, hle, hsl⟩
end Go.Proofs.YtoebpndlbldfcaaGreatDoor
namespace Go.Proofs.YtoebpndlbldfcaaGreatDoor
open Go
set_option maxRecDepth 100000
attribute [local irreducible] tightP hullP rootP farP rows endsOf
abbrev encI (n : Int) : List Value := [I n]
theorem drop_of {α : Type} {l : List α} {i : Nat} {m : α} (h : l[i]? = some m) : l.drop i = m :: l.drop (i + 1) := by
  obtain ⟨h1, h2⟩ := List.getElem?_eq_some_iff.1 h
  rw [List.drop_eq_getElem_cons h1, h2]
theorem g_IndexI (kf : FuncId) [TFn Tryz.prog kf] (caps : List Value) (p : Int → Bool) (l : List Int) (oa : Option Addr) (n c : Nat) (hn : l.length = n) (hmax : n ≤ 9223372036854775807) (H : Heap) [SlO H oa 1 encI l] (hg : ∀ z ∈ l, VHas Tryz.prog kf (I z :: caps) (.bool (p z)) H H) : VCall Tryz.prog 32 [sli oa n c, .func (.func kf) #[] caps.toArray].toArray H (fun o H' => ∃ r, o = .val (I r) ∧ IdxR p l r ∧ H' = H) := by
 refine CV 19 Tryz.func32 ?_
 refine KK2 (QA (vnil (vseq (KK2 ?_))))
 refine QM ?_
 refine QQ (vlen rfl) rfl ?_
 refine QM (vnil (vblock ?_))
 refine vwhile (σ := Int) (fun i => (n - i).toNat) (fun i => [(0, sli oa n c), (1, .func (.func kf) #[] caps.toArray), (7, I n), (8, I i)]) (fun i => H) (fun i => (0 ≤ i ∧ i ≤ n) ∧ (l.take i.toNat).any p = false) 0 ⟨⟨by omega, by omega⟩, rfl⟩ ⟨rfl, rfl, rfl, rfl, True.intro⟩ sb ?_
 rintro i ⟨⟨hi0, hin⟩, hno⟩ IH
 change VRun _ _ _ _ _ [(0, sli oa n c), (1, .func (.func kf) #[] caps.toArray), (7, I n), (8, I i)] _ (H) _
 refine KK2 (QS (vnil (vseq ?_)))
 refine vcondd rfl (fun h9 => ?_) (fun h9 => ?_)
 ·
  obtain ⟨z, hz⟩ := get_of_lt l (i := i.toNat) (by omega)
  refine vskip (vseq (vblock (KK2 (QM ?_))))
  refine QA (KK3 ?_)
  refine QM ?_
  refine QM ?_
  refine QM ?_
  refine QQ (visg (enc := encI) rfl rfl (by omega) hz) rfl ?_
  refine QQ (vldS1 (enc := encI) rfl hz rfl) rfl ?_
  refine QQ (vcq rfl rfl rfl (hg z (List.mem_of_getElem? hz))) rfl (vnil ?_)
  refine vcond rfl (fun h16 => ?_) (fun h16 => ?_)
  ·
   refine KK2 (QM ?_)
   refine QA (vnil ?_)
   refine vret (V1 (H) Tryz.func32 ?_)
   exact ⟨_, rfl, .inr ⟨hi0, z, hz, h16, hno⟩, rfl⟩
  ·
   refine vskip (vinblock (vregion (QQ (vadd rfl rfl (by unfold InR; omega)) rfl ?_)))
   refine QM (vnil ?_)
   exact vback (IH (i + 1) ⟨⟨by omega, by omega⟩, by rw [show (i + 1).toNat = i.toNat + 1 by omega, any_take_snocP hz, hno, h16]; rfl⟩ (by show (_ : Int).toNat < (_ : Int).toNat; omega)) ⟨rfl, rfl, rfl, rfl, True.intro⟩ sb
 ·
  refine vexit (k' := _) rfl ?_
  refine KK2 (QA (vnil ?_))
  refine vret (V1 (H) Tryz.func32 ?_)
  exact ⟨-1, rfl, .inl ⟨rfl, by rw [show i.toNat = l.length by omega, List.take_length] at hno; exact hno⟩, rfl⟩
theorem q_ContainsI (kf : FuncId) [TFn Tryz.prog kf] (caps : List Value) (p : Int → Bool) (l : List Int) (oa : Option Addr) (n c : Nat) (hn : l.length = n) (hmax : n ≤ 9223372036854775807) (H : Heap) [SlO H oa 1 encI l] (hg : ∀ z ∈ l, VHas Tryz.prog kf (I z :: caps) (.bool (p z)) H H) : VHas Tryz.prog 22 [sli oa n c, .func (.func kf) #[] caps.toArray] (.bool (l.any p)) H H := by
 refine CV 9 Tryz.func22 ?_
 refine KK2 (QA (KK3 ?_))
 refine QM ?_
 refine QM ?_
 refine vone rfl (vxg (vcg (R := fun v H' => ∃ r, v = I r ∧ IdxR p l r ∧ H' = H) rfl rfl rfl (g_IndexI kf caps p l oa n c hn hmax _ hg) (fun _ _ ⟨r, h1, h2, h3⟩ => ⟨_, h1, r, rfl, h2, h3⟩)) rfl rfl ?_)
 rintro _ _ ⟨r, rfl, hr, rfl⟩
 refine QQ (vgeq rfl rfl) rfl ?_
 refine QA (vnil ?_)
 refine vret (V1 (_) Tryz.func22 ?_)
 exact ⟨oV (by congr 1; rw [Bool.eq_iff_iff, decide_eq_true_iff]; exact hr.any), rfl⟩
end Go.Proofs.YtoebpndlbldfcaaGreatDoor
namespace Go.Proofs.YtoebpndlbldfcaaGreatDoor
open Go
section
variable {P : Program} {N : Nat} {E : Env} {D : List Deferred} {H H0 B : Heap}
variable {d : Nat} {x y : Operand} {T ty : TypeId} {pos : String} {af : Array Edge} {g : Option (Nat × Bool)}
theorem vapp0z {v : Value} {n e size bytes c : Nat} {oa : Option Addr} {xs : List Value} [hT : TAp P T e size bytes] (hx : ev E x = some v) (hy : ev E y = some (.slice oa 0 c)) (hown : OwnS e size v n xs B) :
    OQ P N E D H ⟨some d, .call ⟨.builtin .append, #[x, y], #[T, T]⟩, ty, pos, af, g⟩ v :=
  ov (by simp) (fun t w hA hE => by
    obtain ⟨i, z, ht, hi, hz, rfl, rfl, hzs⟩ := hT.fact
    rcases hown with ⟨rfl, rfl, rfl, rfl⟩ | ⟨gb, cap, cur, rfl, rfl, hnc, hcm, hcs, htake⟩ <;> cases oa
    · simp [execOp, resolve, invoke, builtin, ev_eval hA hx, ev_eval hA hy, Builtin.append_, run_underlying ht, sizeOf, typeInfo, hi, Builtin.lenOf, Builtin.firstCells, loadCells, loadCellsFrom]
    · simp [execOp, resolve, invoke, builtin, ev_eval hA hx, ev_eval hA hy, Builtin.append_, run_underlying ht, sizeOf, typeInfo, hi, Builtin.lenOf, Builtin.firstCells, loadCells, loadCellsFrom]
    · simp [execOp, resolve, invoke, builtin, ev_eval hA hx, ev_eval hA hy, Builtin.append_, run_underlying ht, sizeOf, typeInfo, hi, Builtin.lenOf, Builtin.firstCells, hnc, storeCells, loadCells, loadCellsFrom]
    · simp [execOp, resolve, invoke, builtin, ev_eval hA hx, ev_eval hA hy, Builtin.append_, run_underlying ht, sizeOf, typeInfo, hi, Builtin.lenOf, Builtin.firstCells, hnc, storeCells, loadCells, loadCellsFrom])
theorem news_slo {α : Type} {enc : α → List Value} {H : Heap} {a : Addr} {esz : Nat} {l : List α} (hs : SlO H (some a) esz enc l) (he : ∀ x, (enc x).length = esz) (h0 : 0 < esz) : ∀ j u, (l.flatMap enc)[j]? = some u → ∃ ob, (a.block, ob) ∈ H ∧ oCell ob (a.add j) = some u := by
  intro j u hu
  have hlen : (l.flatMap enc).length = l.length * esz := by
    clear hu hs
    induction l with
    | nil => simp
    | cons x l ih => rw [List.flatMap_cons, List.length_append, he, ih, List.length_cons, Nat.succ_mul]; omega
  have hj := (List.getElem?_eq_some_iff.1 hu).1
  rw [hlen] at hj
  have hi : j / esz < l.length := Nat.div_lt_of_lt_mul (by rw [Nat.mul_comm]; exact hj)
  obtain ⟨x, hx⟩ : ∃ x, l[j / esz]? = some x := ⟨_, List.getElem?_eq_getElem hi⟩
  obtain ⟨_, a', ob, e, hm, hc⟩ := hs.el _ x hx
  cases e
  have hr : j % esz < esz := Nat.mod_lt _ h0
  obtain ⟨v, hv⟩ : ∃ v, (enc x)[j % esz]? = some v := ⟨_, List.getElem?_eq_getElem (by rw [he]; exact hr)⟩
  have h1 := flat_get he l _ x _ v hx hv
  have h2 : j / esz * esz + j % esz = j := by rw [Nat.mul_comm]; exact Nat.div_add_mod j esz
  rw [h2, hu] at h1
  cases h1
  refine ⟨ob, hm, ?_⟩
  have := hc _ _ hv
  rwa [h2] at this
theorem flat_len {α : Type} {enc : α → List Value} {esz : Nat} (he : ∀ x, (enc x).length = esz) : ∀ (l : List α), (l.flatMap enc).length = l.length * esz
  | [] => by simp
  | x :: l => by rw [List.flatMap_cons, List.length_append, he, flat_len he l, List.length_cons, Nat.succ_mul]; omega
theorem vappL {α : Type} {enc : α → List Value} {l : List α} (F : Heap → Heap) {v : Value} {n m c e size bytes : Nat} {xs : List Value} {oa : Option Addr} [hT : TAp P T e size bytes] (hF : ∀ C, (F C).Perm (C ++ H0)) (hx : ev E x = some v) (hy : ev E y = some (.slice oa m c)) (hown : OwnS e size v n xs B)
    (hs : SlO (F B) oa size enc l) (hl : l.length = m) (he : ∀ x, (enc x).length = size) (hsz : 0 < size) (h1 : ∀ x ∈ l, ∀ u ∈ enc x, u.oneCell' = true) (h63 : n + m ≤ maxLen) (hb : (n + m) * bytes ≤ 140737488355328) :
    OG P N E D (F B) ⟨some d, .call ⟨.builtin .append, #[x, y], #[T, T]⟩, ty, pos, af, g⟩ (fun u H' => ∃ B', OwnS e size u (n + m) (xs ++ l.flatMap enc) B' ∧ H' = F B') := by
  by_cases hm : 0 < m
  · have hne : l ≠ [] := by intro h; subst h; simp at hl; omega
    obtain ⟨z, r, rfl⟩ := List.exists_cons_of_ne_nil hne
    obtain ⟨_, a, ob, rfl, _, _⟩ := hs.el 0 z rfl
    have h := vappF (P := P) (T := T) (N := N) (E := E) (D := D) (H0 := H0) (d := d) (ty := ty) (pos := pos) (af := af) (g := g) (news := (z :: r).flatMap enc) (m := m) (c := c) F hF hx hy hown (by rw [flat_len he, hl]) (news_slo hs he hsz)
      (fun u hu => by obtain ⟨y, h3, h4⟩ := List.mem_flatMap.1 hu; exact h1 y h3 u h4) hm h63 hb
    refine ⟨h.nodef, fun t w hA hE => ?_⟩
    obtain ⟨n', w1, h2, h3⟩ := h.go t w hA hE
    refine ⟨n', w1, h2, h3.mono fun v' w2 ⟨H', hFr, B', h4, h5, h6⟩ => ⟨H', hFr, B', h4, h6⟩⟩
  · have hm0 : m = 0 := by omega
    subst hm0
    have hl0 : l = [] := List.eq_nil_of_length_eq_zero hl
    subst hl0
    have h := vapp0z (P := P) (T := T) (N := N) (E := E) (D := D) (H := F B) (d := d) (ty := ty) (pos := pos) (af := af) (g := g) hx hy hown
    refine ⟨h.nodef, fun t w hA hE => ?_⟩
    obtain ⟨n', w1, h2, h3⟩ := h.go t w hA hE
    refine ⟨n', w1, h2, h3.mono fun v' w2 ⟨H', hFr, h4, h5⟩ => ⟨H', hFr, B, ?_, h5⟩⟩
    subst h4
    simpa using hown
end
section
variable {P : Program} {f : FuncId} {ro : Option Nat} {N : Nat} {k : List Item} {E : Env} {D : List Deferred} {H : Heap} {Q : Out → Heap → Prop} {ops : Array Oper} {l : List Oper}
end
theorem flat_take {α : Type} {enc : α → List Value} {esz : Nat} (he : ∀ x, (enc x).length = esz) : ∀ (l : List α) (i : Nat), (l.flatMap enc).take (i * esz) = (l.take i).flatMap enc
  | [], i => by simp
  | x :: l, 0 => by simp
  | x :: l, i + 1 => by
    rw [List.flatMap_cons, List.take_succ_cons, List.flatMap_cons, Nat.succ_mul, Nat.add_comm, List.take_add, ← he x, List.take_left, List.drop_left, he x, flat_take he l i]
end Go.Proofs.YtoebpndlbldfcaaGreatDoor
namespace Go.Proofs.YtoebpndlbldfcaaGreatDoor
open Go
set_option maxRecDepth 100000
attribute [local irreducible] tightP hullP rootP farP rows endsOf
theorem encI_len (x : Int) : (encI x).length = 1 := rfl
theorem clR_len (x : Rg) : (clR x).length = 8 := rfl
theorem clSg_len (x : Sg) : (clSg x).length = 5 := rfl
instance tApI : TAp Tryz.prog 22 3 1 8 := mkTAp (z := .int .i64 0) (by kernel_rfl) (by kernel_rfl) rfl
instance tApR : TAp Tryz.prog 79 134 8 64 := mkTAp (z := .agg [I 0, I 0, I 0, I 0, I 0, I 0, I 0, I 0].toArray) (by kernel_rfl) (by kernel_rfl) rfl
theorem one1 {α : Type} {enc : α → List Value} (h : ∀ x, allOne (enc x) = true) (l : List α) : ∀ x ∈ l, ∀ u ∈ enc x, u.oneCell' = true := fun x _ u hu => by
  have := allOne_mem _ (h x) u hu
  cases u <;> first | rfl | cases this
theorem d_CloneI (l : List Int) (oa : Option Addr) (n c : Nat) (hn : l.length = n) (hmax : n ≤ 100000) (H : Heap) [hsl : SlO H oa 1 encI l] : VCall Tryz.prog 16 [sli oa n c].toArray H (fun o H' => ∃ v, o = .val v ∧ ∃ B, H' = B ++ H ∧ ∃ oa' c', v = .slice oa' n c' ∧ OwnS 3 1 (.slice oa' n c') n (l.flatMap encI) B) := by
 refine CV 8 Tryz.func16 ?_
 refine KK2 (QA (vnil (vseq (KK2 ?_))))
 refine QM ?_
 refine QQ (veqsn rfl rfl) rfl (vnil ?_)
 refine vcond rfl (fun h4 => ?_) (fun h4 => ?_)
 ·
  refine KK2 (QA (vnil ?_))
  refine vret (V1 (H) Tryz.func16 ?_)
  (obtain rfl : oa = Option.none := (by cases oa with | none => rfl | some a => cases h4); have hl0 : l = [] := (by cases hl : l with | nil => rfl | cons z r => (subst hl; obtain ⟨_, a, _, h, _⟩ := hsl.el 0 z rfl; cases h)); subst hl0; subst hn; exact ⟨_, rfl, [], rfl, Option.none, 0, rfl, OwnS.nil⟩)
 ·
  refine vskip (KK2 ?_)
  refine vone rfl (vxg vbs0 rfl rfl ?_)
  rintro _ _ ⟨b1, rfl, rfl⟩
  refine QM ?_
  refine vone rfl (vxg (vappL (F := fun C => C ++ H) (H0 := H) (B := [(b1, blk [] 3)]) (xs := []) (enc := encI) (l := l) (fun C => .refl _) rfl rfl OwnS.empty inferInstance hn encI_len (by decide) (one1 (fun _ => rfl) l) (by simp only [maxLen]; omega) (by omega)) rfl rfl ?_)
  rintro _ _ ⟨B', hown, rfl⟩
  rw [Nat.zero_add, List.nil_append] at hown
  obtain ⟨oa', c', rfl, hle⟩ := hown.shape
  refine QA (vnil ?_)
  refine vret (V1 (B' ++ H) Tryz.func16 ?_)
  exact ⟨_, rfl, B', rfl, oa', c', rfl, hown⟩
theorem d_CloneR (l : List Rg) (oa : Option Addr) (n c : Nat) (hn : l.length = n) (hmax : n ≤ 100000) (H : Heap) [hsl : SlO H oa 8 clR l] : VCall Tryz.prog 122 [sli oa n c].toArray H (fun o H' => ∃ v, o = .val v ∧ ∃ B, H' = B ++ H ∧ ∃ oa' c', v = .slice oa' n c' ∧ OwnS 134 8 (.slice oa' n c') n (l.flatMap clR) B) := by
 refine CV 8 Tryz.func122 ?_
 refine KK2 (QA (vnil (vseq (KK2 ?_))))
 refine QM ?_
 refine QQ (veqsn rfl rfl) rfl (vnil ?_)
 refine vcond rfl (fun h4 => ?_) (fun h4 => ?_)
 ·
  refine KK2 (QA (vnil ?_))
  refine vret (V1 (H) Tryz.func122 ?_)
  (obtain rfl : oa = Option.none := (by cases oa with | none => rfl | some a => cases h4); have hl0 : l = [] := (by cases hl : l with | nil => rfl | cons z r => (subst hl; obtain ⟨_, a, _, h, _⟩ := hsl.el 0 z rfl; cases h)); subst hl0; subst hn; exact ⟨_, rfl, [], rfl, Option.none, 0, rfl, OwnS.nil⟩)
 ·
  refine vskip (KK2 ?_)
  refine vone rfl (vxg vbs0 rfl rfl ?_)
  rintro _ _ ⟨b1, rfl, rfl⟩
  refine QM ?_
  refine vone rfl (vxg (vappL (F := fun C => C ++ H) (H0 := H) (B := [(b1, blk [] 134)]) (xs := []) (enc := clR) (l := l) (fun C => .refl _) rfl rfl OwnS.empty inferInstance hn clR_len (by decide) (one1 (fun _ => rfl) l) (by simp only [maxLen]; omega) (by omega)) rfl rfl ?_)
  rintro _ _ ⟨B', hown, rfl⟩
  rw [Nat.zero_add, List.nil_append] at hown
  obtain ⟨oa', c', rfl, hle⟩ := hown.shape
  refine QA (vnil ?_)
  refine vret (V1 (B' ++ H) Tryz.func122 ?_)
  exact ⟨_, rfl, B', rfl, oa', c', rfl, hown⟩
end Go.Proofs.YtoebpndlbldfcaaGreatDoor
