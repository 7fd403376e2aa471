/-
  Walks of the program's Hits and of the reference's Covers.
-/
import Derived.Test.YtffpfcomikcimaaWn
namespace Go.Proofs.Ytffpfcomikcimaa
open Go
set_option maxRecDepth 100000

attribute [local irreducible] tightP hullP rootP farP rows endsOf sqL sqP twoE pickL
theorem perm6 (z a b c d e g : Nat × Obj) (H : Heap) : List.Perm (z :: a :: b :: c :: d :: e :: g :: H) ((z :: H) ++ [a, b, c, d, e, g]) := (List.perm_append_comm (l₁ := [a, b, c, d, e, g]) (l₂ := H)).cons z
theorem perm6' (z a b c d e g : Nat × Obj) (H : Heap) : List.Perm ((z :: H) ++ [a, b, c, d, e, g]) (a :: b :: c :: d :: e :: g :: z :: H) := List.perm_append_comm (l₁ := z :: H) (l₂ := [a, b, c, d, e, g])
theorem all_no_snoc {f : List Pt} {pre : List Rw} {x : Rw} (h : ∀ u ∈ pre, hitW f u = false) (hx : hitW f x = false) : ∀ u ∈ pre ++ [x], hitW f u = false := by
  intro u hu
  rcases List.mem_append.1 hu with hu | hu
  · exact h u hu
  · rw [List.mem_singleton.1 hu]; exact hx
theorem rw_bd2 {r : Rg} (hr : r.ok) {w : Rw} (hw : w ∈ rows r) : w.bd := by
  have := rows_sm hr.sm hw; unfold Rw.bd; omega

/-- paravane/region.Hits -/
theorem q_Hits (r : Rg) (f : List Pt) (oa : Option Addr) (n c : Nat) (hn : f.length = n) (hmax : n ≤ 9223372036854775807) (H : Heap) [SlO H oa 2 encP f] : VHas Try.prog 48 [sli oa n c, vR r] (tup [vP (hitE f r).1, I (hitE f r).2]) H H := by
  refine vcall_of_vrun Try.func48 rfl (N := 87) rfl rfl ?_
  refine vseq ?_
  refine vregion ?_
  refine vone rfl (vxa (vbox rfl rfl) rfl rfl (fun b1 => ?_))
  refine vone rfl (vxa (vbox rfl rfl) rfl rfl (fun b2 => ?_))
  refine vone rfl (vxa valloc rfl rfl (fun b3 => ?_))
  refine vone rfl (vxa valloc rfl rfl (fun b4 => ?_))
  refine vnil ?_
  refine vscope ?_
  refine vseq ?_
  refine vseq ?_
  refine vdraw0 [(.q, 0), (.q, 1), (.q, 2), (.q, 3), (.m, 4), (.n, 5), (.q, 6)] Try.mixed (by kernel_rfl) (by kernel_rfl) ?_
  refine vdq (mone rfl) (vld1 rfl rfl) rfl rfl ?_
  refine vdq (mone rfl) (vcq rfl rfl rfl (q_CheckField f oa n c hn hmax _)) rfl rfl ?_
  refine vdq (mone rfl) (vldn rfl rfl) rfl rfl ?_
  refine vdq (mone rfl) (vcp rfl rfl rfl (c_region_Check r)) rfl rfl ?_
  refine vdm (mone rfl) (vbsP rfl rfl rfl rfl rfl rfl) rfl rfl (fun b5 => ?_)
  refine vdn rfl (mone rfl) (vcq rfl rfl rfl ((h_first2 (chkF f) (chkR r) b5).fr1)) rfl rfl ?_
  refine vdq (mone rfl) (vas rfl) rfl rfl ?_
  refine vdend rfl ?_
  refine vseq ?_
  refine vregion ?_
  refine vone rfl (vxq (vmv rfl) rfl rfl ?_)
  refine vone rfl (vxq (vneq rfl rfl) rfl rfl ?_)
  refine vnil ?_
  refine vcondd rfl (fun h19 => ?_) (fun h19 => ?_)
  · skip
    refine vseq ?_
    refine vregion ?_
    refine vone rfl (vxq (vbd rfl rfl) rfl rfl ?_)
    refine vone rfl (vxq (vmv rfl) rfl rfl ?_)
    refine vone rfl (vxs (vstn rfl rfl rfl rfl rfl) rfl ?_)
    refine vone rfl (vxs (vst1 rfl rfl rfl rfl) rfl ?_)
    refine vnil ?_
    refine vret (vr2 (H' := H) Try.func48 rfl (.celln rfl rfl) (.cell1 rfl rfl) (by repeat first | exact .refl _ | refine .cons_cons _ ?_ | refine .cons _ ?_ | exact sl0 _ | refine slA ?_) ?_)
    first | (rw [hitE_nz h19]; exact ⟨rfl, rfl⟩) | (rw [hitE_0 (fz1 h19) (fz2 h19) hhit]; exact ⟨rfl, rfl⟩) | (rw [hitE_4 (fz1 h19) (fz2 h19) (hitP_none hno)]; exact ⟨rfl, rfl⟩)
  · skip
    refine vskip ?_
    refine vseq ?_
    refine vlabel ?_
    refine vseq ?_
    refine vseq ?_
    refine vregion ?_
    refine vone rfl (vxq (vldn rfl rfl) rfl rfl ?_)
    refine vone rfl (vxq (vcp rfl rfl rfl (c_region_bounds _ _ _ _ _ _ _ _)) rfl rfl ?_)
    refine vone rfl (vxg (vcnew rfl rfl rfl (n_rows r)) rfl rfl ?_)
    rintro _ _ ⟨b6, rfl, rfl⟩
    refine vnil ?_
    refine vblock ?_
    refine VRun.sub (H' := bR b6 r :: (b4, blk [I 0] 27) :: (b3, blk [I 0, I 0] 36) :: (b2, blk (clR r) 25) :: (b1, blk [sli oa n c] 26) :: H) (by repeat first | exact .refl _ | refine .cons_cons _ ?_ | refine .cons _ ?_ | exact sl0 _ | refine slA ?_) ?_
    refine vrange (enc := (fun w => [vW w])) (xs := (rows r)) (caps := [ptr b6]) (Hi := [bR b6 r]) (Hc := ((b4, blk [I 0] 27) :: (b3, blk [I 0, I 0] 36) :: (b2, blk (clR r) 25) :: (b1, blk [sli oa n c] 26) :: H)) (ps := [25]) (fun pre H1 => H1 = (b4, blk [I 0] 27) :: (b3, blk [I 0, I 0] 36) :: (b2, blk (clR r) 25) :: (b1, blk [sli oa n c] 26) :: H ∧ ∀ u ∈ pre, hitW f u = false) (fun c0 H1 => c0 = .ret ∧ ∃ p : Pt, H1 = (b4, blk [I 0] 27) :: (b3, blk [I p.x, I p.y] 36) :: (b2, blk (clR r) 25) :: (b1, blk [sli oa n c] 26) :: H ∧ hitP f (rows r) = some p) rfl (it_rows r ((fz2 h19).sm.mono (by decide)) b6) (List.Perm.refl _) ⟨rfl, fun u hu => by cases hu⟩ (fun _ => rfl) rfl ?_ ?_ ?_
    · intro lpa reca prea xa posta H1a hrsa hxsa hIa
      obtain ⟨rfl, hno⟩ := hIa
      have hxb := rw_bd2 (fz2 h19) (w := xa) (by rw [hxsa]; simp)
      refine vregion ?_
      refine vone rfl (vxa valloc rfl rfl (fun b7 => ?_))
      refine vone rfl (vxs (vstn rfl rfl rfl rfl rfl) rfl ?_)
      refine vnil ?_
      refine vbegin hrsa ?_
      refine vblock ?_
      refine vseq ?_
      refine vseq ?_
      refine vregion ?_
      refine vone rfl (vxq (vld1 rfl rfl) rfl rfl ?_)
      refine vone rfl (vxg (vcnew rfl rfl rfl (n_sides oa n c)) rfl rfl ?_)
      rintro _ _ ⟨b8, rfl, rfl⟩
      refine vnil ?_
      refine vblock ?_
      refine vrangeN (enc := (fun (s : Pt × Pt) => [vP s.1, vP s.2])) (xs := (sidesL f)) (caps := [ptr b8]) (Hi := ((b8, blk [sli oa n c] 26) :: H)) (Hc := [(b7, blk [I (cutsW [] xa).x, I (cutsW [] xa).a, I (cutsW [] xa).b] 104), (lpa, Obj.loop (bsy reca)), (b4, blk [I 0] 27), (b3, blk [I 0, I 0] 36), (b2, blk (clR r) 25), (b1, blk [sli oa n c] 26)]) (ps := [28, 29]) (fun (pre : List (Pt × Pt)) H1 => H1 = [(b7, blk [I (cutsW pre xa).x, I (cutsW pre xa).a, I (cutsW pre xa).b] 104), (lpa, Obj.loop (bsy reca)), (b4, blk [I 0] 27), (b3, blk [I 0, I 0] 36), (b2, blk (clR r) 25), (b1, blk [sli oa n c] 26)]) (fun c0 H1 => c0 = .exit 1 ∧ ∃ pre : List (Pt × Pt), H1 = [(b7, blk [I (cutsW pre xa).x, I (cutsW pre xa).a, I (cutsW pre xa).b] 104), (lpa, Obj.loop (bsy reca)), (b4, blk [I 0] 27), (b3, blk [I 0, I 0] 36), (b2, blk (clR r) 25), (b1, blk [sli oa n c] 26)] ∧ hitW f xa = false) rfl (it_sides f oa n c hn hmax H b8) (perm6 _ _ _ _ _ _ _ _) rfl (fun _ => rfl) rfl ?_ ?_ ?_
      · intro lpb recb preb xb postb H1b hrsb hxsb hIb
        subst hIb
        have hxm : xb ∈ sidesL f := by rw [hxsb]; simp
        have hsk := sides_ok (fz1 h19).2.1 hxm
        have hwb : (cutsW preb xa).bd := cuts_bd (fz1 h19).2.1 _ _ (fun s hs => sides_ok (fz1 h19).2.1 (by rw [hxsb]; simp [hs])) hxb
        have hbd := cutN_bd hsk.1 hsk.2 hwb.1
        obtain ⟨hk1, hk2⟩ := hsk
        unfold Pt.ok at hk1 hk2
        unfold Rw.bd at hwb
        unfold cutN cutK at hbd
        refine vseq ?_
        refine vregion ?_
        refine vone rfl (vxa valloc rfl rfl (fun b9 => ?_))
        refine vone rfl (vxs (vstn rfl rfl rfl rfl rfl) rfl ?_)
        refine vnil ?_
        refine vregion ?_
        refine vone rfl (vxa valloc rfl rfl (fun b10 => ?_))
        refine vone rfl (vxs (vstn rfl rfl rfl rfl rfl) rfl ?_)
        refine vnil ?_
        refine vbegin hrsb ?_
        refine vblock ?_
        refine vseq ?_
        refine vregion ?_
        refine vone rfl (vxq (vfa rfl) rfl rfl ?_)
        refine vone rfl (vxq (vld1 rfl rfl) rfl rfl ?_)
        refine vone rfl (vxq (vfa rfl) rfl rfl ?_)
        refine vone rfl (vxq (vld1 rfl rfl) rfl rfl ?_)
        refine vone rfl (vxq (vsub rfl rfl (by unfold InR; omega)) rfl rfl ?_)
        refine vone rfl (vxq (vas rfl) rfl rfl ?_)
        refine vnil ?_
        refine vseq ?_
        refine vregion ?_
        refine vone rfl (vxq (vmv rfl) rfl rfl ?_)
        refine vone rfl (vxq (vfa rfl) rfl rfl ?_)
        refine vone rfl (vxq (vld1 rfl rfl) rfl rfl ?_)
        refine vone rfl (vxq (vmul rfl rfl (by unfold InR; omega)) rfl rfl ?_)
        refine vone rfl (vxq (vfa rfl) rfl rfl ?_)
        refine vone rfl (vxq (vld1 rfl rfl) rfl rfl ?_)
        refine vone rfl (vxq (vfa rfl) rfl rfl ?_)
        refine vone rfl (vxq (vld1 rfl rfl) rfl rfl ?_)
        refine vone rfl (vxq (vsub rfl rfl (by unfold InR; omega)) rfl rfl ?_)
        refine vone rfl (vxq (vfa rfl) rfl rfl ?_)
        refine vone rfl (vxq (vld1 rfl rfl) rfl rfl ?_)
        refine vone rfl (vxq (vfa rfl) rfl rfl ?_)
        refine vone rfl (vxq (vld1 rfl rfl) rfl rfl ?_)
        refine vone rfl (vxq (vsub rfl rfl (by unfold InR; omega)) rfl rfl ?_)
        refine vone rfl (vxq (vmul rfl rfl (by unfold InR; omega)) rfl rfl ?_)
        refine vone rfl (vxq (vadd rfl rfl (by unfold InR; omega)) rfl rfl ?_)
        refine vone rfl (vxq (vas rfl) rfl rfl ?_)
        refine vnil ?_
        refine vblock ?_
        refine vseq ?_
        refine vregion ?_
        refine vone rfl (vxq (vmv rfl) rfl rfl ?_)
        refine vone rfl (vxq (vgtr rfl rfl) rfl rfl ?_)
        refine vone rfl (vxq (vas rfl) rfl rfl ?_)
        refine vnil ?_
        refine vcondd rfl (fun h51 => ?_) (fun h51 => ?_)
        · skip
          refine vdraw0 [(.q, 0), (.q, 1), (.q, 2), (.q, 3), (.q, 4), (.q, 5), (.q, 6), (.c, 7)] Try.mixed (by kernel_rfl) (by kernel_rfl) ?_
          refine vdq (mone rfl) (vfa rfl) rfl rfl ?_
          refine vdq (mone rfl) (vld1 rfl rfl) rfl rfl ?_
          refine vdq (mone rfl) (vmv rfl) rfl rfl ?_
          refine vdq (mone rfl) (vmv rfl) rfl rfl ?_
          refine vdq (mone rfl) (vcp rfl rfl rfl (c_up _ _ (by omega) (by omega))) rfl rfl ?_
          refine vdq (mone rfl) (vmax2 rfl rfl) rfl rfl ?_
          refine vdq (mone rfl) (vfa rfl) rfl rfl ?_
          refine vdcs (mone rfl) (vst1 rfl rfl rfl rfl) rfl ?_
          refine vdend rfl ?_
          refine vinblock ?_
          refine vinblock ?_
          refine vroundI_end (H' := [(b7, _), (lpa, _), (b4, _), (b3, _), (b2, _), (b1, _)]) (by repeat first | exact .refl _ | refine .cons_cons _ ?_ | refine .cons _ ?_ | exact sl0 _ | refine slA ?_) ?_
          first | (rw [cutsW_snoc, cut_p h51]; done) | (rw [cutsW_snoc, cut_p h51]; rfl) | (rw [cutsW_snoc, cut_n h51 h61]; done) | (rw [cutsW_snoc, cut_n h51 h61]; rfl) | (rw [cutsW_snoc, cut_s h51 h61 h73])
        · skip
          refine vseq ?_
          refine vregion ?_
          refine vone rfl (vxq (vmv rfl) rfl rfl ?_)
          refine vone rfl (vxq (vlss rfl rfl) rfl rfl ?_)
          refine vone rfl (vxq (vas rfl) rfl rfl ?_)
          refine vnil ?_
          refine vcondd rfl (fun h61 => ?_) (fun h61 => ?_)
          · skip
            refine vdraw0 [(.q, 0), (.q, 1), (.q, 2), (.q, 3), (.q, 4), (.q, 5), (.q, 6), (.q, 7), (.q, 8), (.c, 9)] Try.mixed (by kernel_rfl) (by kernel_rfl) ?_
            refine vdq (mone rfl) (vfa rfl) rfl rfl ?_
            refine vdq (mone rfl) (vld1 rfl rfl) rfl rfl ?_
            refine vdq (mone rfl) (vmv rfl) rfl rfl ?_
            refine vdq (mone rfl) (vneg rfl (by unfold InR; omega)) rfl rfl ?_
            refine vdq (mone rfl) (vmv rfl) rfl rfl ?_
            refine vdq (mone rfl) (vneg rfl (by unfold InR; omega)) rfl rfl ?_
            refine vdq (mone rfl) (vcp rfl rfl rfl (c_down _ _ (by omega) (by omega))) rfl rfl ?_
            refine vdq (mone rfl) (vmin2 rfl rfl) rfl rfl ?_
            refine vdq (mone rfl) (vfa rfl) rfl rfl ?_
            refine vdcs (mone rfl) (vst1 rfl rfl rfl rfl) rfl ?_
            refine vdend rfl ?_
            refine vinblock ?_
            refine vinblock ?_
            refine vroundI_end (H' := [(b7, _), (lpa, _), (b4, _), (b3, _), (b2, _), (b1, _)]) (by repeat first | exact .refl _ | refine .cons_cons _ ?_ | refine .cons _ ?_ | exact sl0 _ | refine slA ?_) ?_
            first | (rw [cutsW_snoc, cut_p h51]; done) | (rw [cutsW_snoc, cut_p h51]; rfl) | (rw [cutsW_snoc, cut_n h51 h61]; done) | (rw [cutsW_snoc, cut_n h51 h61]; rfl) | (rw [cutsW_snoc, cut_s h51 h61 h73])
          · skip
            refine vseq ?_
            refine vregion ?_
            refine vone rfl (vxq (vmv rfl) rfl rfl ?_)
            refine vone rfl (vxq (vgtr rfl rfl) rfl rfl ?_)
            refine vone rfl (vxq (vas rfl) rfl rfl ?_)
            refine vnil ?_
            refine vcondd rfl (fun h73 => ?_) (fun h73 => ?_)
            · skip
              refine vroundI_exit (H' := [(b7, _), (lpa, _), (b4, _), (b3, _), (b2, _), (b1, _)]) rfl (by repeat first | exact .refl _ | refine .cons_cons _ ?_ | refine .cons _ ?_ | exact sl0 _ | refine slA ?_) ?_
              exact ⟨rfl, preb, rfl, decide_eq_false (by have := cuts_none hxsb (by unfold cutK; omega) (by rw [cutsW_x] at h73; exact h73); omega)⟩
            · skip
              refine vskip ?_
              refine vinblock ?_
              refine vinblock ?_
              refine vroundI_end (H' := [(b7, _), (lpa, _), (b4, _), (b3, _), (b2, _), (b1, _)]) (by repeat first | exact .refl _ | refine .cons_cons _ ?_ | refine .cons _ ?_ | exact sl0 _ | refine slA ?_) ?_
              first | (rw [cutsW_snoc, cut_p h51]; done) | (rw [cutsW_snoc, cut_p h51]; rfl) | (rw [cutsW_snoc, cut_n h51 h61]; done) | (rw [cutsW_snoc, cut_n h51 h61]; rfl) | (rw [cutsW_snoc, cut_s h51 h61 h73])
      · intro H1b hIb
        subst hIb
        refine VRun.perm (perm6' _ _ _ _ _ _ _ _) ?_
        refine vinblock ?_
        refine vseq ?_
        refine vregion ?_
        refine vone rfl (vxq (vfa rfl) rfl rfl ?_)
        refine vone rfl (vxq (vld1 rfl rfl) rfl rfl ?_)
        refine vone rfl (vxq (vfa rfl) rfl rfl ?_)
        refine vone rfl (vxq (vld1 rfl rfl) rfl rfl ?_)
        refine vone rfl (vxq (vleq rfl rfl) rfl rfl ?_)
        refine vnil ?_
        refine vcondd rfl (fun h80 => ?_) (fun h80 => ?_)
        · skip
          refine vseq ?_
          refine vregion ?_
          refine vone rfl (vxq (vfa rfl) rfl rfl ?_)
          refine vone rfl (vxq (vld1 rfl rfl) rfl rfl ?_)
          refine vone rfl (vxq (vfa rfl) rfl rfl ?_)
          refine vone rfl (vxq (vld1 rfl rfl) rfl rfl ?_)
          refine vone rfl (vxq (vbd rfl rfl) rfl rfl ?_)
          refine vone rfl (vxs (vstn rfl rfl rfl rfl rfl) rfl ?_)
          refine vone rfl (vxs (vst1 rfl rfl rfl rfl) rfl ?_)
          refine vnil ?_
          refine vroundI_ret (H' := (b4, _) :: (b3, _) :: (b2, _) :: (b1, _) :: H) (by repeat first | exact .refl _ | refine .cons_cons _ ?_ | refine .cons _ ?_ | exact sl0 _ | refine slA ?_) ?_
          exact ⟨rfl, _, by rw [cutsW_x], hitP_some hxsa hno (decide_eq_true h80)⟩
        · skip
          refine vskip ?_
          refine vinblock ?_
          refine vroundI_end (H' := (b4, _) :: (b3, _) :: (b2, _) :: (b1, _) :: H) (by repeat first | exact .refl _ | refine .cons_cons _ ?_ | refine .cons _ ?_ | exact sl0 _ | refine slA ?_) ?_
          first | exact ⟨rfl, all_no_snoc hno (decide_eq_false h80)⟩ | exact ⟨rfl, all_no_snoc hno hskip⟩
      · intro cb H1b hIb
        obtain ⟨rfl, preb, rfl, hskip⟩ := hIb
        refine VRun.perm (perm6' _ _ _ _ _ _ _ _) ?_
        refine vexit (k' := _) rfl ?_
        refine vroundI_end (H' := (b4, _) :: (b3, _) :: (b2, _) :: (b1, _) :: H) (by repeat first | exact .refl _ | refine .cons_cons _ ?_ | refine .cons _ ?_ | exact sl0 _ | refine slA ?_) ?_
        first | exact ⟨rfl, all_no_snoc hno (decide_eq_false h80)⟩ | exact ⟨rfl, all_no_snoc hno hskip⟩
    · intro r1a H1a hIa
      obtain ⟨rfl, hno⟩ := hIa
      change VRun _ _ _ _ _ _ _ ((r1a, Obj.deferred (some [])) :: bR b6 r :: (b4, blk [I 0] 27) :: (b3, blk [I 0, I 0] 36) :: (b2, blk (clR r) 25) :: (b1, blk [sli oa n c] 26) :: H) _
      refine vinblock ?_
      refine vseq ?_
      refine vregion ?_
      refine vone rfl (vxq (vbd rfl rfl) rfl rfl ?_)
      refine vone rfl (vxs (vstn rfl rfl rfl rfl rfl) rfl ?_)
      refine vone rfl (vxs (vst1 rfl rfl rfl rfl) rfl ?_)
      refine vnil ?_
      refine vret (vret_mark (vr2 (H' := H) Try.func48 rfl (.celln rfl rfl) (.cell1 rfl rfl) (by repeat first | exact .refl _ | refine .cons_cons _ ?_ | refine .cons _ ?_ | exact sl0 _ | refine slA ?_) ?_))
      first | (rw [hitE_nz h19]; exact ⟨rfl, rfl⟩) | (rw [hitE_0 (fz1 h19) (fz2 h19) hhit]; exact ⟨rfl, rfl⟩) | (rw [hitE_4 (fz1 h19) (fz2 h19) (hitP_none hno)]; exact ⟨rfl, rfl⟩)
    · intro r1a ca H1a hIa
      obtain ⟨rfl, ⟨px, py⟩, rfl, hhit⟩ := hIa
      change VRun _ _ _ _ _ _ _ ((r1a, Obj.deferred (some [])) :: bR b6 r :: (b4, blk [I 0] 27) :: (b3, blk [I px, I py] 36) :: (b2, blk (clR r) 25) :: (b1, blk [sli oa n c] 26) :: H) _
      refine vret (vret_mark (vr2 (H' := H) Try.func48 rfl (.celln rfl rfl) (.cell1 rfl rfl) (by repeat first | exact .refl _ | refine .cons_cons _ ?_ | refine .cons _ ?_ | exact sl0 _ | refine slA ?_) ?_))
      first | (rw [hitE_nz h19]; exact ⟨rfl, rfl⟩) | (rw [hitE_0 (fz1 h19) (fz2 h19) hhit]; exact ⟨rfl, rfl⟩) | (rw [hitE_4 (fz1 h19) (fz2 h19) (hitP_none hno)]; exact ⟨rfl, rfl⟩)

theorem ends_nil_iff {r : Rg} : tightP r = none ↔ endsOf r = [] := by rw [show tightP r = hullP (endsOf r) from by unfold tightP; rfl]; exact hullP_none
def inAll (f : List Pt) (l : List Rw) : Prop := ∀ p ∈ l.flatMap endL, inF f p = true
theorem inAll_next {f : List Pt} {l : List Rw} {w : Rw} (h : inAll f l) (h1 : inF f ⟨w.x, w.a⟩ = true) (h2 : inF f ⟨w.x, w.b⟩ = true) : inAll f (l ++ [w]) := by
  intro p hp
  rw [List.flatMap_append] at hp
  rcases List.mem_append.1 hp with hp | hp
  · exact h p hp
  · simp only [List.flatMap_cons, List.flatMap_nil, List.append_nil] at hp
    unfold endL at hp
    split at hp
    · rw [List.mem_singleton.1 hp]; exact h1
    · rcases List.mem_cons.1 hp with hp | hp
      · rw [hp]; exact h1
      · rw [List.mem_singleton.1 hp]; exact h2
theorem all_bad {f : List Pt} {r : Rg} {p : Pt} (hp : p ∈ endsOf r) (h : inF f p = false) : (endsOf r).all (inF f) = false := by
  cases e : (endsOf r).all (inF f) with
  | false => rfl
  | true => have := List.all_eq_true.1 e p hp; rw [h] at this; cases this
theorem ends_of_row {r : Rg} {x : Int} (h1 : r.x.lo ≤ x) (h2 : x ≤ r.x.hi) (h : (rowOf r x).a ≤ (rowOf r x).b) : (⟨x, (rowOf r x).a⟩ : Pt) ∈ endsOf r ∧ (⟨x, (rowOf r x).b⟩ : Pt) ∈ endsOf r :=
  ⟨mem_ends.2 ⟨inR_row.2 ⟨⟨h1, h2⟩, Int.le_refl _, h⟩, .inl rfl⟩, mem_ends.2 ⟨inR_row.2 ⟨⟨h1, h2⟩, h, Int.le_refl _⟩, .inr rfl⟩⟩
theorem inAll_end {f : List Pt} {r : Rg} {x : Int} (h1 : r.x.lo ≤ x) (h2 : x = r.x.lo ∨ x ≤ r.x.hi + 1) (h3 : ¬ x ≤ r.x.hi) (h : inAll f (rowsN r (x - r.x.lo).toNat)) : (endsOf r).all (inF f) = true := by
  rw [rowsN_end h1 h2 h3] at h
  refine List.all_eq_true.2 fun p hp => h p ?_
  unfold endsOf at hp; exact hp

/-- paravane/paravaneref01.Covers -/
theorem q_ref_Covers (r : Rg) (f : List Pt) (oa : Option Addr) (n c : Nat) (hn : f.length = n) (hmax : n ≤ 9223372036854775807) (H : Heap) [SlO H oa 2 encP f] : VHas Try.prog 47 [sli oa n c, vR r] (tup [.bool (coversE f r).1, I (coversE f r).2]) H H := by
  refine vcall_of_vrun Try.func47 rfl (N := 61) rfl rfl ?_
  refine vseq ?_
  refine vregion ?_
  refine vone rfl (vxa (vbox rfl rfl) rfl rfl (fun b1 => ?_))
  refine vone rfl (vxq (vas rfl) rfl rfl ?_)
  refine vone rfl (vxq (vas rfl) rfl rfl ?_)
  refine vnil ?_
  refine vseq ?_
  refine vseq ?_
  refine vregion ?_
  refine vone rfl (vxq (vmv rfl) rfl rfl ?_)
  refine vone rfl (vxq (vldn rfl rfl) rfl rfl ?_)
  refine vone rfl (vxq (vcq rfl rfl rfl (q_both r f oa n c hn hmax _)) rfl rfl ?_)
  refine vone rfl (vxq (vas rfl) rfl rfl ?_)
  refine vnil ?_
  refine vseq ?_
  refine vregion ?_
  refine vone rfl (vxq (vmv rfl) rfl rfl ?_)
  refine vone rfl (vxq (vneq rfl rfl) rfl rfl ?_)
  refine vnil ?_
  refine vcondd rfl (fun h15 => ?_) (fun h15 => ?_)
  · skip
    refine vseq ?_
    refine vregion ?_
    refine vone rfl (vxq (vmv rfl) rfl rfl ?_)
    refine vone rfl (vxq (vas rfl) rfl rfl ?_)
    refine vone rfl (vxq (vas rfl) rfl rfl ?_)
    refine vnil ?_
    refine vret (vr2 (H' := H) Try.func47 rfl (.tmp rfl) (.tmp rfl) (by repeat first | exact .refl _ | refine .cons_cons _ ?_ | refine .cons _ ?_ | exact sl0 _ | refine slA ?_) ?_)
    first
      | (rw [covE_nz h15]; exact ⟨rfl, rfl⟩)
      | (rw [covE_4 (fz1 h15) (fz2 h15) (ends_nil_iff.1 (errO_nz h24)), show (optE (tightP r)).2 = 4 from errO_none (errO_nz h24)]; exact ⟨rfl, rfl⟩)
      | (have hne : endsOf r ≠ [] := fun e => by have := errO_none (ends_nil_iff.2 e); exact absurd (nn h24) (by show errO (tightP r) ≠ 0; omega)
         first
         | (rw [covE_0 (fz1 h15) (fz2 h15) hne, inAll_end hx1 hx2 h33 hal]; exact ⟨rfl, rfl⟩)
         | (rw [covE_0 (fz1 h15) (fz2 h15) hne, all_bad (ends_of_row hx1 h33 h44).1 h51]; exact ⟨rfl, rfl⟩)
         | (rw [covE_0 (fz1 h15) (fz2 h15) hne, all_bad (ends_of_row hx1 h33 h44).2 (by simpa using h60)]; exact ⟨rfl, rfl⟩))
  · skip
    refine vskip ?_
    refine vseq ?_
    refine vseq ?_
    refine vregion ?_
    refine vone rfl (vxq (vldn rfl rfl) rfl rfl ?_)
    refine vone rfl (vxg (vbs rfl rfl rfl rfl rfl rfl) rfl rfl ?_)
    rintro _ _ ⟨b2, rfl, rfl⟩
    refine vone rfl (vxq (vcq rfl rfl rfl ((h_hulls1 r ((fz2 h15).sm.mono (by decide)) b2).fr1)) rfl rfl ?_)
    refine vone rfl (vxq (vmv rfl) rfl rfl ?_)
    refine vone rfl (vxq (vex rfl rfl) rfl rfl ?_)
    refine vone rfl (vxq (vex rfl rfl) rfl rfl ?_)
    refine vone rfl (vxa valloc rfl rfl (fun b3 => ?_))
    refine vone rfl (vxs (vstn rfl rfl rfl rfl rfl) rfl ?_)
    refine vone rfl (vxq (vas rfl) rfl rfl ?_)
    refine vnil ?_
    refine vseq ?_
    refine vregion ?_
    refine vone rfl (vxq (vmv rfl) rfl rfl ?_)
    refine vone rfl (vxq (vneq rfl rfl) rfl rfl ?_)
    refine vnil ?_
    refine vcondd rfl (fun h24 => ?_) (fun h24 => ?_)
    · skip
      refine vseq ?_
      refine vregion ?_
      refine vone rfl (vxq (vmv rfl) rfl rfl ?_)
      refine vone rfl (vxq (vas rfl) rfl rfl ?_)
      refine vone rfl (vxq (vas rfl) rfl rfl ?_)
      refine vnil ?_
      refine vret (vr2 (H' := H) Try.func47 rfl (.tmp rfl) (.tmp rfl) (by repeat first | exact .refl _ | refine .cons_cons _ ?_ | refine .cons _ ?_ | exact sl0 _ | refine slA ?_) ?_)
      first
        | (rw [covE_nz h15]; exact ⟨rfl, rfl⟩)
        | (rw [covE_4 (fz1 h15) (fz2 h15) (ends_nil_iff.1 (errO_nz h24)), show (optE (tightP r)).2 = 4 from errO_none (errO_nz h24)]; exact ⟨rfl, rfl⟩)
        | (have hne : endsOf r ≠ [] := fun e => by have := errO_none (ends_nil_iff.2 e); exact absurd (nn h24) (by show errO (tightP r) ≠ 0; omega)
           first
           | (rw [covE_0 (fz1 h15) (fz2 h15) hne, inAll_end hx1 hx2 h33 hal]; exact ⟨rfl, rfl⟩)
           | (rw [covE_0 (fz1 h15) (fz2 h15) hne, all_bad (ends_of_row hx1 h33 h44).1 h51]; exact ⟨rfl, rfl⟩)
           | (rw [covE_0 (fz1 h15) (fz2 h15) hne, all_bad (ends_of_row hx1 h33 h44).2 (by simpa using h60)]; exact ⟨rfl, rfl⟩))
    · skip
      refine vskip ?_
      refine vseq ?_
      refine vseq ?_
      refine vregion ?_
      refine vone rfl (vxq (vfa rfl) rfl rfl ?_)
      refine vone rfl (vxq (vfa rfl) rfl rfl ?_)
      refine vone rfl (vxq (vld1 rfl rfl) rfl rfl ?_)
      refine vone rfl (vxq (vas rfl) rfl rfl ?_)
      refine vnil ?_
      refine vblock ?_
      refine vwhile (σ := Int) (fun x => (r.x.hi + 1 - x).toNat) (fun x => [(0, sli oa n c), (3, ptr b1), (4, .bool false), (5, I 0), (9, I x)]) (fun x => (b1, blk (clR r) 25) :: H) (fun x => (r.x.lo ≤ x ∧ (x = r.x.lo ∨ x ≤ r.x.hi + 1)) ∧ inAll f (rowsN r (x - r.x.lo).toNat)) r.x.lo ⟨⟨by omega, .inl rfl⟩, by rw [Int.sub_self]; intro p hp; cases hp⟩ ⟨rfl, rfl, rfl, rfl, rfl, True.intro⟩ (by repeat first | exact .refl _ | refine .cons_cons _ ?_ | refine .cons _ ?_ | exact sl0 _ | refine slA ?_) ?_
      rintro x ⟨⟨hx1, hx2⟩, hal⟩ IH
      change VRun _ _ _ _ _ [(0, sli oa n c), (3, ptr b1), (4, .bool false), (5, I 0), (9, I x)] _ ((b1, blk (clR r) 25) :: H) _
      have hokb := (fz2 h15).sm
      unfold Rg.sm Bd.sm at hokb
      refine vseq ?_
      refine vseq ?_
      refine vregion ?_
      refine vone rfl (vxq (vmv rfl) rfl rfl ?_)
      refine vone rfl (vxq (vfa rfl) rfl rfl ?_)
      refine vone rfl (vxq (vfa rfl) rfl rfl ?_)
      refine vone rfl (vxq (vld1 rfl rfl) rfl rfl ?_)
      refine vone rfl (vxq (vleq rfl rfl) rfl rfl ?_)
      refine vnil ?_
      refine vcondd rfl (fun h33 => ?_) (fun h33 => ?_)
      · skip
        refine vskip ?_
        refine vseq ?_
        refine vblock ?_
        refine vseq ?_
        refine vregion ?_
        refine vone rfl (vxq (vldn rfl rfl) rfl rfl ?_)
        refine vone rfl (vxq (vmv rfl) rfl rfl ?_)
        refine vone rfl (vxq (vcp rfl rfl rfl (c_row r x ((fz2 h15).sm.mono (by decide)) (by omega))) rfl rfl ?_)
        refine vone rfl (vxa valloc rfl rfl (fun b4 => ?_))
        refine vone rfl (vxs (vstn rfl rfl rfl rfl rfl) rfl ?_)
        refine vnil ?_
        refine vseq ?_
        refine vregion ?_
        refine vone rfl (vxq (vfa rfl) rfl rfl ?_)
        refine vone rfl (vxq (vld1 rfl rfl) rfl rfl ?_)
        refine vone rfl (vxq (vfa rfl) rfl rfl ?_)
        refine vone rfl (vxq (vld1 rfl rfl) rfl rfl ?_)
        refine vone rfl (vxq (vleq rfl rfl) rfl rfl ?_)
        refine vone rfl (vxq (vmv rfl) rfl rfl ?_)
        refine vsplitd (d := 44) rfl (fun h44 => ?_) (fun h44 => ?_)
        · skip
          refine vyes rfl rfl rfl (vxq (vmv rfl) rfl rfl ?_)
          refine vyes rfl rfl rfl (vxq (vmv rfl) rfl rfl ?_)
          have hrs := rowOf_sm (fz2 h15).sm ⟨hx1, h33⟩ h44
          refine vyes rfl rfl rfl (vxq (vfa rfl) rfl rfl ?_)
          refine vyes rfl rfl rfl (vxq (vld1 rfl rfl) rfl rfl ?_)
          refine vyes rfl rfl rfl (vxq (vbd rfl rfl) rfl rfl ?_)
          refine vyes rfl rfl rfl (vxq (vcq rfl rfl rfl (q_inside ⟨x, (rowOf r x).a⟩ (hrs.1.mono (by decide)) f oa n c hn hmax _ (smF (fz1 h15)))) rfl rfl ?_)
          refine vyes rfl rfl rfl (vxq (vmv rfl) rfl rfl ?_)
          refine vsplit (d := 51) rfl (fun h51 => ?_) (fun h51 => ?_)
          · skip
            refine vyes rfl rfl rfl (vxq (vmv rfl) rfl rfl ?_)
            refine vyes rfl rfl rfl (vxq (vmv rfl) rfl rfl ?_)
            refine vyes rfl rfl rfl (vxq (vfa rfl) rfl rfl ?_)
            refine vyes rfl rfl rfl (vxq (vld1 rfl rfl) rfl rfl ?_)
            refine vyes rfl rfl rfl (vxq (vbd rfl rfl) rfl rfl ?_)
            refine vyes rfl rfl rfl (vxq (vcq rfl rfl rfl (q_inside ⟨x, (rowOf r x).b⟩ (hrs.2.mono (by decide)) f oa n c hn hmax _ (smF (fz1 h15)))) rfl rfl ?_)
            refine vyes rfl rfl rfl (vxq (vpkt rfl rfl) rfl rfl ?_)
            refine vyes rfl rfl rfl (vxq (vnot rfl) rfl rfl ?_)
            refine vone rfl (vxq (vpkt rfl rfl) rfl rfl ?_)
            refine vnil ?_
            refine vcond rfl (fun h60 => ?_) (fun h60 => ?_)
            · skip
              refine vseq ?_
              refine vregion ?_
              refine vone rfl (vxq (vas rfl) rfl rfl ?_)
              refine vone rfl (vxq (vas rfl) rfl rfl ?_)
              refine vnil ?_
              refine vret (vr2 (H' := H) Try.func47 rfl (.tmp rfl) (.tmp rfl) (by repeat first | exact .refl _ | refine .cons_cons _ ?_ | refine .cons _ ?_ | exact sl0 _ | refine slA ?_) ?_)
              first
                | (rw [covE_nz h15]; exact ⟨rfl, rfl⟩)
                | (rw [covE_4 (fz1 h15) (fz2 h15) (ends_nil_iff.1 (errO_nz h24)), show (optE (tightP r)).2 = 4 from errO_none (errO_nz h24)]; exact ⟨rfl, rfl⟩)
                | (have hne : endsOf r ≠ [] := fun e => by have := errO_none (ends_nil_iff.2 e); exact absurd (nn h24) (by show errO (tightP r) ≠ 0; omega)
                   first
                   | (rw [covE_0 (fz1 h15) (fz2 h15) hne, inAll_end hx1 hx2 h33 hal]; exact ⟨rfl, rfl⟩)
                   | (rw [covE_0 (fz1 h15) (fz2 h15) hne, all_bad (ends_of_row hx1 h33 h44).1 h51]; exact ⟨rfl, rfl⟩)
                   | (rw [covE_0 (fz1 h15) (fz2 h15) hne, all_bad (ends_of_row hx1 h33 h44).2 (by simpa using h60)]; exact ⟨rfl, rfl⟩))
            · skip
              refine vskip ?_
              refine vinblock ?_
              refine vregion ?_
              refine vone rfl (vxq (vmv rfl) rfl rfl ?_)
              refine vone rfl (vxq (vadd rfl rfl (by unfold InR; omega)) rfl rfl ?_)
              refine vone rfl (vxq (vas rfl) rfl rfl ?_)
              refine vnil ?_
              first
                | exact vback (IH (x + 1) ⟨⟨by omega, by omega⟩, by rw [rowsN_nil hx1 h44]; exact hal⟩ (by show (_ : Int).toNat < (_ : Int).toNat; omega)) ⟨rfl, rfl, rfl, rfl, rfl, True.intro⟩ (by repeat first | exact .refl _ | refine .cons_cons _ ?_ | refine .cons _ ?_ | exact sl0 _ | refine slA ?_)
                | exact vback (IH (x + 1) ⟨⟨by omega, by omega⟩, by rw [rowsN_one hx1 h44]; exact inAll_next hal h51 (show inF f ⟨x, (rowOf r x).b⟩ = true by simpa using h60)⟩ (by show (_ : Int).toNat < (_ : Int).toNat; omega)) ⟨rfl, rfl, rfl, rfl, rfl, True.intro⟩ (by repeat first | exact .refl _ | refine .cons_cons _ ?_ | refine .cons _ ?_ | exact sl0 _ | refine slA ?_)
          · skip
            refine vno rfl rfl rfl rfl rfl ?_
            refine vno rfl rfl rfl rfl rfl ?_
            refine vno rfl rfl rfl rfl rfl ?_
            refine vno rfl rfl rfl rfl rfl ?_
            refine vno rfl rfl rfl rfl rfl ?_
            refine vno rfl rfl rfl rfl rfl ?_
            refine vyes rfl rfl rfl (vxq (vpkf rfl rfl) rfl rfl ?_)
            refine vyes rfl rfl rfl (vxq (vnot rfl) rfl rfl ?_)
            refine vone rfl (vxq (vpkt rfl rfl) rfl rfl ?_)
            refine vnil ?_
            refine vcondt rfl ?_
            refine vseq ?_
            refine vregion ?_
            refine vone rfl (vxq (vas rfl) rfl rfl ?_)
            refine vone rfl (vxq (vas rfl) rfl rfl ?_)
            refine vnil ?_
            refine vret (vr2 (H' := H) Try.func47 rfl (.tmp rfl) (.tmp rfl) (by repeat first | exact .refl _ | refine .cons_cons _ ?_ | refine .cons _ ?_ | exact sl0 _ | refine slA ?_) ?_)
            first
              | (rw [covE_nz h15]; exact ⟨rfl, rfl⟩)
              | (rw [covE_4 (fz1 h15) (fz2 h15) (ends_nil_iff.1 (errO_nz h24)), show (optE (tightP r)).2 = 4 from errO_none (errO_nz h24)]; exact ⟨rfl, rfl⟩)
              | (have hne : endsOf r ≠ [] := fun e => by have := errO_none (ends_nil_iff.2 e); exact absurd (nn h24) (by show errO (tightP r) ≠ 0; omega)
                 first
                 | (rw [covE_0 (fz1 h15) (fz2 h15) hne, inAll_end hx1 hx2 h33 hal]; exact ⟨rfl, rfl⟩)
                 | (rw [covE_0 (fz1 h15) (fz2 h15) hne, all_bad (ends_of_row hx1 h33 h44).1 h51]; exact ⟨rfl, rfl⟩)
                 | (rw [covE_0 (fz1 h15) (fz2 h15) hne, all_bad (ends_of_row hx1 h33 h44).2 (by simpa using h60)]; exact ⟨rfl, rfl⟩))
        · skip
          refine vno rfl rfl rfl rfl rfl ?_
          refine vno rfl rfl rfl rfl rfl ?_
          refine vno rfl rfl rfl rfl rfl ?_
          refine vno rfl rfl rfl rfl rfl ?_
          refine vno rfl rfl rfl rfl rfl ?_
          refine vno rfl rfl rfl rfl rfl ?_
          refine vno rfl rfl rfl rfl rfl ?_
          refine vnou rfl rfl rfl rfl rfl ?_
          refine vnou rfl rfl rfl rfl rfl ?_
          refine vnou rfl rfl rfl rfl rfl ?_
          refine vnou rfl rfl rfl rfl rfl ?_
          refine vnou rfl rfl rfl rfl rfl ?_
          refine vnou rfl rfl rfl rfl rfl ?_
          refine vno rfl rfl rfl rfl rfl ?_
          refine vno rfl rfl rfl rfl rfl ?_
          refine vone rfl (vxq (vpkf rfl rfl) rfl rfl ?_)
          refine vnil ?_
          refine vcondf rfl ?_
          refine vskip ?_
          refine vinblock ?_
          refine vregion ?_
          refine vone rfl (vxq (vmv rfl) rfl rfl ?_)
          refine vone rfl (vxq (vadd rfl rfl (by unfold InR; omega)) rfl rfl ?_)
          refine vone rfl (vxq (vas rfl) rfl rfl ?_)
          refine vnil ?_
          first
            | exact vback (IH (x + 1) ⟨⟨by omega, by omega⟩, by rw [rowsN_nil hx1 h44]; exact hal⟩ (by show (_ : Int).toNat < (_ : Int).toNat; omega)) ⟨rfl, rfl, rfl, rfl, rfl, True.intro⟩ (by repeat first | exact .refl _ | refine .cons_cons _ ?_ | refine .cons _ ?_ | exact sl0 _ | refine slA ?_)
            | exact vback (IH (x + 1) ⟨⟨by omega, by omega⟩, by rw [rowsN_one hx1 h44]; exact inAll_next hal h51 (show inF f ⟨x, (rowOf r x).b⟩ = true by simpa using h60)⟩ (by show (_ : Int).toNat < (_ : Int).toNat; omega)) ⟨rfl, rfl, rfl, rfl, rfl, True.intro⟩ (by repeat first | exact .refl _ | refine .cons_cons _ ?_ | refine .cons _ ?_ | exact sl0 _ | refine slA ?_)
      · skip
        refine vexit (k' := _) rfl ?_
        refine vseq ?_
        refine vregion ?_
        refine vone rfl (vxq (vas rfl) rfl rfl ?_)
        refine vone rfl (vxq (vas rfl) rfl rfl ?_)
        refine vnil ?_
        refine vret (vr2 (H' := H) Try.func47 rfl (.tmp rfl) (.tmp rfl) (by repeat first | exact .refl _ | refine .cons_cons _ ?_ | refine .cons _ ?_ | exact sl0 _ | refine slA ?_) ?_)
        first
          | (rw [covE_nz h15]; exact ⟨rfl, rfl⟩)
          | (rw [covE_4 (fz1 h15) (fz2 h15) (ends_nil_iff.1 (errO_nz h24)), show (optE (tightP r)).2 = 4 from errO_none (errO_nz h24)]; exact ⟨rfl, rfl⟩)
          | (have hne : endsOf r ≠ [] := fun e => by have := errO_none (ends_nil_iff.2 e); exact absurd (nn h24) (by show errO (tightP r) ≠ 0; omega)
             first
             | (rw [covE_0 (fz1 h15) (fz2 h15) hne, inAll_end hx1 hx2 h33 hal]; exact ⟨rfl, rfl⟩)
             | (rw [covE_0 (fz1 h15) (fz2 h15) hne, all_bad (ends_of_row hx1 h33 h44).1 h51]; exact ⟨rfl, rfl⟩)
             | (rw [covE_0 (fz1 h15) (fz2 h15) hne, all_bad (ends_of_row hx1 h33 h44).2 (by simpa using h60)]; exact ⟨rfl, rfl⟩))
end Go.Proofs.Ytffpfcomikcimaa
