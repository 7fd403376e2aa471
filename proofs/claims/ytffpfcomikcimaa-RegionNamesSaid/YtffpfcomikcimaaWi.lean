/-
  Walks of Count, of both; picks.
-/
import Derived.Test.YtffpfcomikcimaaWh
import Derived.Test.YtffpfcomikcimaaPlx
namespace Go.Proofs.Ytffpfcomikcimaa
open Go
set_option maxRecDepth 100000

attribute [local irreducible] tightP hullP rootP farP rows endsOf
theorem cntE_no {r : Rg} (h : chkR r ≠ 0) : cntE r = (0, chkR r) := by rw [cntE, if_neg (chkR_nz.1 h), chkR_no (chkR_nz.1 h)]
theorem cntE_ok {r : Rg} (h : ¬ chkR r ≠ 0) : cntE r = (cntF (rows r), 0) := by rw [cntE, if_pos (ok_c h)]
theorem rw_bd {r : Rg} (hr : r.ok) {w : Rw} (hw : w ∈ rows r) : (-65536 ≤ w.x ∧ w.x ≤ 65536) ∧ (-65536 ≤ w.a ∧ w.a ≤ 65536) ∧ (-65536 ≤ w.b ∧ w.b ≤ 65536) := rows_sm hr.sm hw

/-- paravane/region.Count -/
theorem c_Count (r : Rg) : VPure Try.prog 22 [vR r] (tup [I (cntE r).1, I (cntE r).2]) := by
  intro H
  refine vcall_of_vrun Try.func22 rfl (N := 25) rfl rfl ?_
  refine vseq ?_
  refine vregion ?_
  refine vone rfl (vxa (vbox rfl rfl) rfl rfl (fun b1 => ?_))
  refine vone rfl (vxq (vas rfl) rfl rfl ?_)
  refine vone rfl (vxq (vas rfl) rfl rfl ?_)
  refine vnil ?_
  refine vseq ?_
  refine vseq ?_
  refine vregion ?_
  refine vone rfl (vxq (vldn rfl rfl) rfl rfl ?_)
  refine vone rfl (vxq (vcp rfl rfl rfl (c_region_Check r)) rfl rfl ?_)
  refine vone rfl (vxq (vas rfl) rfl rfl ?_)
  refine vnil ?_
  refine vseq ?_
  refine vregion ?_
  refine vone rfl (vxq (vmv rfl) rfl rfl ?_)
  refine vone rfl (vxq (vneq rfl rfl) rfl rfl ?_)
  refine vnil ?_
  refine vcondd rfl (fun h10 => ?_) (fun h10 => ?_)
  · skip
    refine vseq ?_
    refine vregion ?_
    refine vone rfl (vxq (vmv rfl) rfl rfl ?_)
    refine vone rfl (vxq (vas rfl) rfl rfl ?_)
    refine vone rfl (vxq (vas rfl) rfl rfl ?_)
    refine vnil ?_
    refine vret (vr2 (H' := H) Try.func22 rfl (.tmp rfl) (.tmp rfl) (by repeat first | exact .refl _ | refine .cons_cons _ ?_ | refine .cons _ ?_ | exact sl0 _ | refine slA ?_) ?_)
    first | (rw [cntE_no h10]; exact ⟨rfl, rfl⟩) | (rw [cntE_ok h10]; exact ⟨rfl, rfl⟩)
  · skip
    refine vskip ?_
    refine vseq ?_
    refine vregion ?_
    refine vone rfl (vxa valloc rfl rfl (fun b2 => ?_))
    refine vone rfl (vxs (vst1 rfl rfl rfl rfl) rfl ?_)
    refine vnil ?_
    refine vseq ?_
    refine vseq ?_
    refine vregion ?_
    refine vone rfl (vxq (vldn rfl rfl) rfl rfl ?_)
    refine vone rfl (vxq (vcp rfl rfl rfl (c_region_bounds _ _ _ _ _ _ _ _)) rfl rfl ?_)
    refine vone rfl (vxg (vcnew rfl rfl rfl (n_rows r)) rfl rfl ?_)
    rintro _ _ ⟨b3, rfl, rfl⟩
    refine vnil ?_
    refine vblock ?_
    refine vrange (enc := (fun w => [vW w])) (xs := (rows r)) (caps := [ptr b3]) (Hi := [bR b3 r]) (Hc := ((b2, blk [I 0] 3) :: (b1, blk (clR r) 25) :: H)) (ps := [15]) (fun pre H1 => H1 = (b2, blk [I (cntF pre)] 3) :: (b1, blk (clR r) 25) :: H) (fun _ _ => False) rfl (it_rows r ((ok_c h10).sm.mono (by decide)) b3) (List.Perm.refl _) rfl (fun _ => rfl) rfl ?_ ?_ ?_
    · intro lp rec pre x post H1 hrs hxs hI
      subst hI
      have hbd := rw_bd (ok_c h10) (w := x) (by rw [hxs]; simp)
      have hcb := cnt_pre (ok_c h10) hxs
      refine vregion ?_
      refine vone rfl (vxa valloc rfl rfl (fun b4 => ?_))
      refine vone rfl (vxs (vstn rfl rfl rfl rfl rfl) rfl ?_)
      refine vnil ?_
      refine vbegin hrs ?_
      refine vblock ?_
      refine vregion ?_
      refine vone rfl (vxq (vld1 rfl rfl) rfl rfl ?_)
      refine vone rfl (vxq (vfa rfl) rfl rfl ?_)
      refine vone rfl (vxq (vld1 rfl rfl) rfl rfl ?_)
      refine vone rfl (vxq (vfa rfl) rfl rfl ?_)
      refine vone rfl (vxq (vld1 rfl rfl) rfl rfl ?_)
      refine vone rfl (vxq (vsub rfl rfl (by unfold InR; omega)) rfl rfl ?_)
      refine vone rfl (vxq (vadd rfl rfl (by unfold InR; omega)) rfl rfl ?_)
      refine vone rfl (vxq (vadd rfl rfl (by unfold InR; omega)) rfl rfl ?_)
      refine vone rfl (vxs (vst1 rfl rfl rfl rfl) rfl ?_)
      refine vnil ?_
      refine vinblock ?_
      refine vroundI_end (H' := (b2, _) :: (b1, _) :: H) (by repeat first | exact .refl _ | refine .cons_cons _ ?_ | refine .cons _ ?_ | exact sl0 _ | refine slA ?_) ?_
      rw [cntF_snoc]
    · intro r1 H1 hI
      subst hI
      change VRun _ _ _ _ _ _ _ ((r1, Obj.deferred (some [])) :: bR b3 r :: (b2, blk [I (cntF (rows r))] 3) :: (b1, blk (clR r) 25) :: H) _
      refine vinblock ?_
      refine vseq ?_
      refine vregion ?_
      refine vone rfl (vxq (vld1 rfl rfl) rfl rfl ?_)
      refine vone rfl (vxq (vas rfl) rfl rfl ?_)
      refine vone rfl (vxq (vas rfl) rfl rfl ?_)
      refine vnil ?_
      refine vret (vret_mark (vr2 (H' := H) Try.func22 rfl (.tmp rfl) (.tmp rfl) (by repeat first | exact .refl _ | refine .cons_cons _ ?_ | refine .cons _ ?_ | exact sl0 _ | refine slA ?_) ?_))
      first | (rw [cntE_no h10]; exact ⟨rfl, rfl⟩) | (rw [cntE_ok h10]; exact ⟨rfl, rfl⟩)
    · intro r1 c H1 hI
      exact hI.elim

abbrev cntX (r : Rg) (x : Int) : Int := cntF (rowsN r (x - r.x.lo).toNat)
theorem cntX_0 (r : Rg) : cntX r r.x.lo = 0 := by unfold cntX; rw [Int.sub_self]; rfl
theorem cntX_next {r : Rg} {x : Int} (hx : r.x.lo ≤ x) : cntX r (x + 1) = cntX r x + max 0 ((rowOf r x).b - (rowOf r x).a + 1) := by
  unfold cntX
  by_cases h : (rowOf r x).a ≤ (rowOf r x).b
  · rw [rowsN_one hx h, cntF_snoc]; omega
  · rw [rowsN_nil hx h]; omega
theorem cntX_bd {r : Rg} (hr : r.ok) {x : Int} (hx : r.x.lo ≤ x) (h2 : x = r.x.lo ∨ x ≤ r.x.hi + 1) : 0 ≤ cntX r x ∧ cntX r x ≤ 13107400000 := by
  obtain ⟨post, hp⟩ : ∃ post, rows r = rowsN r (x - r.x.lo).toNat ++ post := by
    by_cases e : x ≤ r.x.hi
    · obtain ⟨post, hp⟩ := xsF_split r.x.lo (x - r.x.lo).toNat r.x.len (by unfold Bd.len; omega)
      exact ⟨(_ :: post).flatMap (rowL r), by rw [show rows r = rowsN r r.x.len from by unfold rows; rfl]; simp only [rowsN, hp, List.flatMap_append]; rfl⟩
    · exact ⟨[], by rw [List.append_nil, rowsN_end hx h2 e]⟩
  exact cnt_pre hr hp

/-- paravane/paravaneref01.Count -/
theorem c_ref_Count (r : Rg) : VPure Try.prog 23 [vR r] (tup [I (cntE r).1, I (cntE r).2]) := by
  intro H
  refine vcall_of_vrun Try.func23 rfl (N := 36) rfl rfl ?_
  refine vseq ?_
  refine vregion ?_
  refine vone rfl (vxa (vbox rfl rfl) rfl rfl (fun b1 => ?_))
  refine vone rfl (vxq (vas rfl) rfl rfl ?_)
  refine vone rfl (vxq (vas rfl) rfl rfl ?_)
  refine vnil ?_
  refine vseq ?_
  refine vseq ?_
  refine vregion ?_
  refine vone rfl (vxq (vldn rfl rfl) rfl rfl ?_)
  refine vone rfl (vxq (vcp rfl rfl rfl (c_ref_Check r)) rfl rfl ?_)
  refine vone rfl (vxq (vas rfl) rfl rfl ?_)
  refine vnil ?_
  refine vseq ?_
  refine vregion ?_
  refine vone rfl (vxq (vmv rfl) rfl rfl ?_)
  refine vone rfl (vxq (vneq rfl rfl) rfl rfl ?_)
  refine vnil ?_
  refine vcondd rfl (fun h11 => ?_) (fun h11 => ?_)
  · skip
    refine vseq ?_
    refine vregion ?_
    refine vone rfl (vxq (vmv rfl) rfl rfl ?_)
    refine vone rfl (vxq (vas rfl) rfl rfl ?_)
    refine vone rfl (vxq (vas rfl) rfl rfl ?_)
    refine vnil ?_
    refine vret (vr2 (H' := H) Try.func23 rfl (.tmp rfl) (.tmp rfl) (by repeat first | exact .refl _ | refine .cons_cons _ ?_ | refine .cons _ ?_ | exact sl0 _ | refine slA ?_) ?_)
    first | (rw [cntE_no h11]; exact ⟨rfl, rfl⟩) | (rw [cntE_ok h11, ← rowsN_end hx1 hx2 h20, hn]; exact ⟨rfl, rfl⟩)
  · skip
    refine vskip ?_
    refine vseq ?_
    refine vregion ?_
    refine vone rfl (vxq (vas rfl) rfl rfl ?_)
    refine vnil ?_
    refine vseq ?_
    refine vseq ?_
    refine vregion ?_
    refine vone rfl (vxq (vfa rfl) rfl rfl ?_)
    refine vone rfl (vxq (vfa rfl) rfl rfl ?_)
    refine vone rfl (vxq (vld1 rfl rfl) rfl rfl ?_)
    refine vone rfl (vxq (vas rfl) rfl rfl ?_)
    refine vnil ?_
    refine vblock ?_
    refine vwhile (σ := Int × Int) (fun ⟨x, n⟩ => (r.x.hi + 1 - x).toNat) (fun ⟨x, n⟩ => [(1, ptr b1), (2, I 0), (3, I 0), (5, I n), (6, I x)]) (fun ⟨x, n⟩ => (b1, blk (clR r) 25) :: H) (fun ⟨x, n⟩ => (r.x.lo ≤ x ∧ (x = r.x.lo ∨ x ≤ r.x.hi + 1)) ∧ n = cntX r x) (r.x.lo, 0) ⟨⟨by omega, .inl rfl⟩, (cntX_0 r).symm⟩ ⟨rfl, rfl, rfl, rfl, rfl, True.intro⟩ (by repeat first | exact .refl _ | refine .cons_cons _ ?_ | refine .cons _ ?_ | exact sl0 _ | refine slA ?_) ?_
    rintro ⟨x, n⟩ ⟨⟨hx1, hx2⟩, hn⟩ IH
    change VRun _ _ _ _ _ [(1, ptr b1), (2, I 0), (3, I 0), (5, I n), (6, I x)] _ ((b1, blk (clR r) 25) :: H) _
    have hcb := cntX_bd (ok_c h11) hx1 hx2
    have hok := (ok_c h11).sm
    unfold Rg.sm Bd.sm at hok
    refine vseq ?_
    refine vseq ?_
    refine vregion ?_
    refine vone rfl (vxq (vmv rfl) rfl rfl ?_)
    refine vone rfl (vxq (vfa rfl) rfl rfl ?_)
    refine vone rfl (vxq (vfa rfl) rfl rfl ?_)
    refine vone rfl (vxq (vld1 rfl rfl) rfl rfl ?_)
    refine vone rfl (vxq (vleq rfl rfl) rfl rfl ?_)
    refine vnil ?_
    refine vcondd rfl (fun h20 => ?_) (fun h20 => ?_)
    · skip
      refine vskip ?_
      refine vseq ?_
      refine vblock ?_
      refine vseq ?_
      refine vregion ?_
      refine vone rfl (vxq (vldn rfl rfl) rfl rfl ?_)
      refine vone rfl (vxq (vmv rfl) rfl rfl ?_)
      refine vone rfl (vxq (vcp rfl rfl rfl (c_row r x ((ok_c h11).sm.mono (by decide)) (by omega))) rfl rfl ?_)
      refine vone rfl (vxa valloc rfl rfl (fun b2 => ?_))
      refine vone rfl (vxs (vstn rfl rfl rfl rfl rfl) rfl ?_)
      refine vnil ?_
      refine vregion ?_
      refine vone rfl (vxq (vmv rfl) rfl rfl ?_)
      refine vone rfl (vxq (vfa rfl) rfl rfl ?_)
      refine vone rfl (vxq (vld1 rfl rfl) rfl rfl ?_)
      refine vone rfl (vxq (vfa rfl) rfl rfl ?_)
      refine vone rfl (vxq (vld1 rfl rfl) rfl rfl ?_)
      refine vone rfl (vxq (vsub rfl rfl (by simp only [rowOf]; unfold InR; omega)) rfl rfl ?_)
      refine vone rfl (vxq (vadd rfl rfl (by simp only [rowOf]; unfold InR; omega)) rfl rfl ?_)
      refine vone rfl (vxq (vmax2 rfl rfl) rfl rfl ?_)
      refine vone rfl (vxq (vadd rfl rfl (by simp only [rowOf]; unfold InR; omega)) rfl rfl ?_)
      refine vone rfl (vxq (vas rfl) rfl rfl ?_)
      refine vnil ?_
      refine vinblock ?_
      refine vregion ?_
      refine vone rfl (vxq (vmv rfl) rfl rfl ?_)
      refine vone rfl (vxq (vadd rfl rfl (by unfold InR; omega)) rfl rfl ?_)
      refine vone rfl (vxq (vas rfl) rfl rfl ?_)
      refine vnil ?_
      exact vback (IH (x + 1, n + max 0 ((rowOf r x).b - (rowOf r x).a + 1)) ⟨⟨by omega, by omega⟩, by rw [cntX_next hx1, hn]⟩ (by show (_ : Int).toNat < (_ : Int).toNat; omega)) ⟨rfl, rfl, rfl, rfl, rfl, True.intro⟩ (by repeat first | exact .refl _ | refine .cons_cons _ ?_ | refine .cons _ ?_ | exact sl0 _ | refine slA ?_)
    · skip
      refine vexit (k' := _) rfl ?_
      refine vseq ?_
      refine vregion ?_
      refine vone rfl (vxq (vmv rfl) rfl rfl ?_)
      refine vone rfl (vxq (vas rfl) rfl rfl ?_)
      refine vone rfl (vxq (vas rfl) rfl rfl ?_)
      refine vnil ?_
      refine vret (vr2 (H' := H) Try.func23 rfl (.tmp rfl) (.tmp rfl) (by repeat first | exact .refl _ | refine .cons_cons _ ?_ | refine .cons _ ?_ | exact sl0 _ | refine slA ?_) ?_)
      first | (rw [cntE_no h11]; exact ⟨rfl, rfl⟩) | (rw [cntE_ok h11, ← rowsN_end hx1 hx2 h20, hn]; exact ⟨rfl, rfl⟩)
abbrev clV (x : Vd) : List Value := [I x.n, I x.p.x, I x.p.y]
abbrev vV (x : Vd) : Value := .agg (clV x).toArray
abbrev clB (x : Bd) : List Value := [I x.lo, I x.hi]
/-- paravane/region.pick[paravane/region.valued] -/
theorem h_pickVd {kf g : FuncId} [TFn Try.prog kf] [TFn Try.prog g] {caps : List Value} {Hi : Heap} {xs : List Vd} (better : Vd → Vd → Bool) (hit : VIt Try.prog kf caps (fun x => [vV x]) xs Hi) (hg : ∀ a b, VPure Try.prog g [vV a, vV b] (.bool (better a b))) : VHas Try.prog 107 [.func (.func kf) #[] caps.toArray, fnv g] (tup [vV ((pickL better xs).getD zV), .bool (pickL better xs).isSome]) Hi Hi := by
  refine vcall_of_vrun Try.func107 rfl (N := 20) rfl rfl ?_
  refine vseq ?_
  refine vregion ?_
  refine vone rfl (vxa (vbox rfl rfl) rfl rfl (fun b1 => ?_))
  refine vone rfl (vxa valloc rfl rfl (fun b2 => ?_))
  refine vone rfl (vxa valloc rfl rfl (fun b3 => ?_))
  refine vnil ?_
  refine vseq ?_
  refine vseq ?_
  refine vregion ?_
  refine vone rfl (vxq (vmv rfl) rfl rfl ?_)
  refine vnil ?_
  refine vblock ?_
  refine vrange (enc := (fun x => [vV x])) (xs := xs) (caps := caps) (Hi := Hi) (Hc := [(b3, blk [.bool (pickL better []).isSome] 4), (b2, blk (clV ((pickL better []).getD zV)) 130), (b1, blk [fnv g] 134)]) (ps := [8]) (fun pre H1 => H1 = [(b3, blk [.bool (pickL better pre).isSome] 4), (b2, blk (clV ((pickL better pre).getD zV)) 130), (b1, blk [fnv g] 134)]) (fun _ _ => False) rfl (hit) (List.perm_append_comm (l₁ := [(b3, blk [.bool (pickL better []).isSome] 4), (b2, blk (clV ((pickL better []).getD zV)) 130), (b1, blk [fnv g] 134)])) rfl (fun _ => rfl) rfl ?_ ?_ ?_
  · intro lp rec pre x post H1 hrs hxs hI
    subst hI
    refine vregion ?_
    refine vone rfl (vxa valloc rfl rfl (fun b4 => ?_))
    refine vone rfl (vxs (vstn rfl rfl rfl rfl rfl) rfl ?_)
    refine vnil ?_
    refine vbegin hrs ?_
    refine vblock ?_
    refine vseq ?_
    refine vregion ?_
    refine vone rfl (vxq (vld1 rfl rfl) rfl rfl ?_)
    refine vone rfl (vxq (vnot rfl) rfl rfl ?_)
    refine vone rfl (vxq (vmv rfl) rfl rfl ?_)
    refine vsplit (d := 11) rfl (fun h11 => ?_) (fun h11 => ?_)
    · skip
      refine vno rfl rfl rfl rfl rfl ?_
      refine vno rfl rfl rfl rfl rfl ?_
      refine vno rfl rfl rfl rfl rfl ?_
      refine vno rfl rfl rfl rfl rfl ?_
      refine vone rfl (vxq (vpkt rfl rfl) rfl rfl ?_)
      refine vnil ?_
      refine vcondt rfl ?_
      refine vregion ?_
      refine vone rfl (vxq (vldn rfl rfl) rfl rfl ?_)
      refine vone rfl (vxs (vstn rfl rfl rfl rfl rfl) rfl ?_)
      refine vone rfl (vxs (vst1 rfl rfl rfl rfl) rfl ?_)
      refine vnil ?_
      refine vinblock ?_
      refine vroundI_end (H' := [(b3, _), (b2, _), (b1, _)]) (by repeat first | exact .refl _ | refine .cons_cons _ ?_ | refine .cons _ ?_ | exact sl0 _ | refine slA ?_) ?_
      first | (rw [pick_n (x := x) h11]; rfl) | (rw [pick_y (z := zV) (x := x) h11 h16]; rfl) | (rw [pick_k (z := zV) (x := x) h11 h16])
    · skip
      refine vyes rfl rfl rfl (vxq (vld1 rfl rfl) rfl rfl ?_)
      refine vyes rfl rfl rfl (vxq (vldn rfl rfl) rfl rfl ?_)
      refine vyes rfl rfl rfl (vxq (vldn rfl rfl) rfl rfl ?_)
      refine vyes rfl rfl rfl (vxq (vcp rfl rfl rfl (hg x ((pickL better pre).getD zV))) rfl rfl ?_)
      refine vone rfl (vxq (vpkf rfl rfl) rfl rfl ?_)
      refine vnil ?_
      refine vcond rfl (fun h16 => ?_) (fun h16 => ?_)
      · skip
        refine vregion ?_
        refine vone rfl (vxq (vldn rfl rfl) rfl rfl ?_)
        refine vone rfl (vxs (vstn rfl rfl rfl rfl rfl) rfl ?_)
        refine vone rfl (vxs (vst1 rfl rfl rfl rfl) rfl ?_)
        refine vnil ?_
        refine vinblock ?_
        refine vroundI_end (H' := [(b3, _), (b2, _), (b1, _)]) (by repeat first | exact .refl _ | refine .cons_cons _ ?_ | refine .cons _ ?_ | exact sl0 _ | refine slA ?_) ?_
        first | (rw [pick_n (x := x) h11]; rfl) | (rw [pick_y (z := zV) (x := x) h11 h16]; rfl) | (rw [pick_k (z := zV) (x := x) h11 h16])
      · skip
        refine vskip ?_
        refine vinblock ?_
        refine vroundI_end (H' := [(b3, _), (b2, _), (b1, _)]) (by repeat first | exact .refl _ | refine .cons_cons _ ?_ | refine .cons _ ?_ | exact sl0 _ | refine slA ?_) ?_
        first | (rw [pick_n (x := x) h11]; rfl) | (rw [pick_y (z := zV) (x := x) h11 h16]; rfl) | (rw [pick_k (z := zV) (x := x) h11 h16])
  · intro r1 H1 hI
    subst hI
    refine VRun.perm (H' := (r1, Obj.deferred (some [])) :: (b3, blk [.bool (pickL better xs).isSome] 4) :: (b2, blk (clV ((pickL better xs).getD zV)) 130) :: (b1, blk [fnv g] 134) :: Hi) ((List.perm_append_comm).cons _) ?_
    refine vinblock ?_
    refine vseq ?_
    refine vdraw0 [(.q, 0), (.q, 1), (.q, 2), (.q, 3)] Try.mixed (by kernel_rfl) (by kernel_rfl) ?_
    refine vdq (mone rfl) (vldn rfl rfl) rfl rfl ?_
    refine vdq (mone rfl) (vld1 rfl rfl) rfl rfl ?_
    refine vdqn (mone rfl) (vstns rfl rfl rfl rfl rfl) rfl ?_
    refine vdqn (mone rfl) (vst1s rfl rfl rfl rfl) rfl ?_
    refine vdend rfl ?_
    refine vret (vret_mark (vr2 (H' := Hi) Try.func107 rfl (.celln rfl rfl) (.cell1 rfl rfl) (by repeat first | exact .refl _ | refine .cons_cons _ ?_ | refine .cons _ ?_ | exact sl0 _ | refine slA ?_) ?_))
    exact ⟨rfl, rfl⟩
  · intro r1 c H1 hI
    exact hI.elim
/-- paravane/region.pick[paravane/api.Bound] -/
theorem h_pickBd {kf g : FuncId} [TFn Try.prog kf] [TFn Try.prog g] {caps : List Value} {Hi : Heap} {xs : List Bd} (better : Bd → Bd → Bool) (hit : VIt Try.prog kf caps (fun x => [vB x]) xs Hi) (hg : ∀ a b, VPure Try.prog g [vB a, vB b] (.bool (better a b))) : VHas Try.prog 145 [.func (.func kf) #[] caps.toArray, fnv g] (tup [vB ((pickL better xs).getD zB), .bool (pickL better xs).isSome]) Hi Hi := by
  refine vcall_of_vrun Try.func145 rfl (N := 20) rfl rfl ?_
  refine vseq ?_
  refine vregion ?_
  refine vone rfl (vxa (vbox rfl rfl) rfl rfl (fun b1 => ?_))
  refine vone rfl (vxa valloc rfl rfl (fun b2 => ?_))
  refine vone rfl (vxa valloc rfl rfl (fun b3 => ?_))
  refine vnil ?_
  refine vseq ?_
  refine vseq ?_
  refine vregion ?_
  refine vone rfl (vxq (vmv rfl) rfl rfl ?_)
  refine vnil ?_
  refine vblock ?_
  refine vrange (enc := (fun x => [vB x])) (xs := xs) (caps := caps) (Hi := Hi) (Hc := [(b3, blk [.bool (pickL better []).isSome] 4), (b2, blk (clB ((pickL better []).getD zB)) 23), (b1, blk [fnv g] 168)]) (ps := [8]) (fun pre H1 => H1 = [(b3, blk [.bool (pickL better pre).isSome] 4), (b2, blk (clB ((pickL better pre).getD zB)) 23), (b1, blk [fnv g] 168)]) (fun _ _ => False) rfl (hit) (List.perm_append_comm (l₁ := [(b3, blk [.bool (pickL better []).isSome] 4), (b2, blk (clB ((pickL better []).getD zB)) 23), (b1, blk [fnv g] 168)])) rfl (fun _ => rfl) rfl ?_ ?_ ?_
  · intro lp rec pre x post H1 hrs hxs hI
    subst hI
    refine vregion ?_
    refine vone rfl (vxa valloc rfl rfl (fun b4 => ?_))
    refine vone rfl (vxs (vstn rfl rfl rfl rfl rfl) rfl ?_)
    refine vnil ?_
    refine vbegin hrs ?_
    refine vblock ?_
    refine vseq ?_
    refine vregion ?_
    refine vone rfl (vxq (vld1 rfl rfl) rfl rfl ?_)
    refine vone rfl (vxq (vnot rfl) rfl rfl ?_)
    refine vone rfl (vxq (vmv rfl) rfl rfl ?_)
    refine vsplit (d := 11) rfl (fun h11 => ?_) (fun h11 => ?_)
    · skip
      refine vno rfl rfl rfl rfl rfl ?_
      refine vno rfl rfl rfl rfl rfl ?_
      refine vno rfl rfl rfl rfl rfl ?_
      refine vno rfl rfl rfl rfl rfl ?_
      refine vone rfl (vxq (vpkt rfl rfl) rfl rfl ?_)
      refine vnil ?_
      refine vcondt rfl ?_
      refine vregion ?_
      refine vone rfl (vxq (vldn rfl rfl) rfl rfl ?_)
      refine vone rfl (vxs (vstn rfl rfl rfl rfl rfl) rfl ?_)
      refine vone rfl (vxs (vst1 rfl rfl rfl rfl) rfl ?_)
      refine vnil ?_
      refine vinblock ?_
      refine vroundI_end (H' := [(b3, _), (b2, _), (b1, _)]) (by repeat first | exact .refl _ | refine .cons_cons _ ?_ | refine .cons _ ?_ | exact sl0 _ | refine slA ?_) ?_
      first | (rw [pick_n (x := x) h11]; rfl) | (rw [pick_y (z := zB) (x := x) h11 h16]; rfl) | (rw [pick_k (z := zB) (x := x) h11 h16])
    · skip
      refine vyes rfl rfl rfl (vxq (vld1 rfl rfl) rfl rfl ?_)
      refine vyes rfl rfl rfl (vxq (vldn rfl rfl) rfl rfl ?_)
      refine vyes rfl rfl rfl (vxq (vldn rfl rfl) rfl rfl ?_)
      refine vyes rfl rfl rfl (vxq (vcp rfl rfl rfl (hg x ((pickL better pre).getD zB))) rfl rfl ?_)
      refine vone rfl (vxq (vpkf rfl rfl) rfl rfl ?_)
      refine vnil ?_
      refine vcond rfl (fun h16 => ?_) (fun h16 => ?_)
      · skip
        refine vregion ?_
        refine vone rfl (vxq (vldn rfl rfl) rfl rfl ?_)
        refine vone rfl (vxs (vstn rfl rfl rfl rfl rfl) rfl ?_)
        refine vone rfl (vxs (vst1 rfl rfl rfl rfl) rfl ?_)
        refine vnil ?_
        refine vinblock ?_
        refine vroundI_end (H' := [(b3, _), (b2, _), (b1, _)]) (by repeat first | exact .refl _ | refine .cons_cons _ ?_ | refine .cons _ ?_ | exact sl0 _ | refine slA ?_) ?_
        first | (rw [pick_n (x := x) h11]; rfl) | (rw [pick_y (z := zB) (x := x) h11 h16]; rfl) | (rw [pick_k (z := zB) (x := x) h11 h16])
      · skip
        refine vskip ?_
        refine vinblock ?_
        refine vroundI_end (H' := [(b3, _), (b2, _), (b1, _)]) (by repeat first | exact .refl _ | refine .cons_cons _ ?_ | refine .cons _ ?_ | exact sl0 _ | refine slA ?_) ?_
        first | (rw [pick_n (x := x) h11]; rfl) | (rw [pick_y (z := zB) (x := x) h11 h16]; rfl) | (rw [pick_k (z := zB) (x := x) h11 h16])
  · intro r1 H1 hI
    subst hI
    refine VRun.perm (H' := (r1, Obj.deferred (some [])) :: (b3, blk [.bool (pickL better xs).isSome] 4) :: (b2, blk (clB ((pickL better xs).getD zB)) 23) :: (b1, blk [fnv g] 168) :: Hi) ((List.perm_append_comm).cons _) ?_
    refine vinblock ?_
    refine vseq ?_
    refine vdraw0 [(.q, 0), (.q, 1), (.q, 2), (.q, 3)] Try.mixed (by kernel_rfl) (by kernel_rfl) ?_
    refine vdq (mone rfl) (vldn rfl rfl) rfl rfl ?_
    refine vdq (mone rfl) (vld1 rfl rfl) rfl rfl ?_
    refine vdqn (mone rfl) (vstns rfl rfl rfl rfl rfl) rfl ?_
    refine vdqn (mone rfl) (vst1s rfl rfl rfl rfl) rfl ?_
    refine vdend rfl ?_
    refine vret (vret_mark (vr2 (H' := Hi) Try.func145 rfl (.celln rfl rfl) (.cell1 rfl rfl) (by repeat first | exact .refl _ | refine .cons_cons _ ?_ | refine .cons _ ?_ | exact sl0 _ | refine slA ?_) ?_))
    exact ⟨rfl, rfl⟩
  · intro r1 c H1 hI
    exact hI.elim
end Go.Proofs.Ytffpfcomikcimaa
