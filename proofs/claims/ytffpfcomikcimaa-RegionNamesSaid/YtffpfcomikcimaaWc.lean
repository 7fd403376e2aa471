/-
  Walks of the hulls of package region and of its reference.
-/
import Derived.Test.YtffpfcomikcimaaWb
namespace Go.Proofs.Ytffpfcomikcimaa
open Go
set_option maxRecDepth 100000
theorem perm3 (A B C : Heap) : (A ++ (B ++ C)).Perm (B ++ (A ++ C)) := by
  rw [← List.append_assoc, ← List.append_assoc]; exact (List.perm_append_comm).append_right C
theorem perm4 (B A C : Heap) : (C ++ (B ++ A)).Perm (B ++ (A ++ C)) := by
  rw [← List.append_assoc B]; exact List.perm_append_comm

theorem oI {a b : Int} (h : a = b) : Out.val (I a) = Out.val (I b) := by rw [h]
theorem oV {a b : Value} (h : a = b) : Out.val a = Out.val b := by rw [h]
theorem oT {a b : List Value} (h : a = b) : Out.val (tup a) = Out.val (tup b) := by rw [h]
/-- Two blocks in front. -/
theorem VHas.fr1 {P : Program} {gf : FuncId} {al : List Value} {v : Value} {x1 y1 : Nat × Obj} {B : Heap} (h : VHas P gf al v [x1] [y1]) : VHas P gf al v (x1 :: B) (y1 :: B) := h.frame (B := B)
theorem VHas.fr2 {P : Program} {gf : FuncId} {al : List Value} {v : Value} {x1 x2 y1 y2 : Nat × Obj} {B : Heap} (h : VHas P gf al v [x1, x2] [y1, y2]) : VHas P gf al v (x1 :: x2 :: B) (y1 :: y2 :: B) := h.frame (B := B)
theorem VHas.fr3 {P : Program} {gf : FuncId} {al : List Value} {v : Value} {x1 x2 x3 y1 y2 y3 : Nat × Obj} {B : Heap} (h : VHas P gf al v [x1, x2, x3] [y1, y2, y3]) : VHas P gf al v (x1 :: x2 :: x3 :: B) (y1 :: y2 :: y3 :: B) := h.frame (B := B)
theorem c_of (p : Pt) (h : p.sm 1099511627776) : VPure Try.prog 96 [vP p] (vR (ofP p)) := c_region_of p.x p.y (by unfold Pt.sm at h; unfold InR; omega) (by unfold Pt.sm at h; unfold InR; omega)
theorem c_span4 (a b : Rg) : VPure Try.prog 95 [vR a, vR b, fnv 139] (vR (a.map2 Bd.span b)) :=
  c_region_four_combined _ _ _ _ _ _ _ _ _ _ _ _ _ _ _ _ _ _ _ _ _ _ _ _ _ (c_region_span _ _ _ _) (c_region_span _ _ _ _) (c_region_span _ _ _ _) (c_region_span _ _ _ _)
theorem c_cut4 (a b : Rg) : VPure Try.prog 95 [vR a, vR b, fnv 114] (vR (a.map2 Bd.cut b)) :=
  c_region_four_combined _ _ _ _ _ _ _ _ _ _ _ _ _ _ _ _ _ _ _ _ _ _ _ _ _ (c_region_cut _ _ _ _) (c_region_cut _ _ _ _) (c_region_cut _ _ _ _) (c_region_cut _ _ _ _)
theorem c_plus4 (a b : Rg) (ha : a.sm 1099511627776) (hb : b.sm 1099511627776) : VPure Try.prog 95 [vR a, vR b, fnv 97] (vR (a.map2 Bd.plus b)) := by
  unfold Rg.sm Bd.sm at ha hb
  exact c_region_four_combined _ _ _ _ _ _ _ _ _ _ _ _ _ _ _ _ _ _ _ _ _ _ _ _ _ (c_region_plus _ _ _ _ (by unfold InR; omega) (by unfold InR; omega)) (c_region_plus _ _ _ _ (by unfold InR; omega) (by unfold InR; omega)) (c_region_plus _ _ _ _ (by unfold InR; omega) (by unfold InR; omega)) (c_region_plus _ _ _ _ (by unfold InR; omega) (by unfold InR; omega))
theorem c_minus4 (a b : Rg) (ha : a.sm 1099511627776) (hb : b.sm 1099511627776) : VPure Try.prog 95 [vR a, vR b, fnv 119] (vR (a.map2 Bd.minus b)) := by
  unfold Rg.sm Bd.sm at ha hb
  exact c_region_four_combined _ _ _ _ _ _ _ _ _ _ _ _ _ _ _ _ _ _ _ _ _ _ _ _ _ (c_region_minus _ _ _ _ (by unfold InR; omega) (by unfold InR; omega)) (c_region_minus _ _ _ _ (by unfold InR; omega) (by unfold InR; omega)) (c_region_minus _ _ _ _ (by unfold InR; omega) (by unfold InR; omega)) (c_region_minus _ _ _ _ (by unfold InR; omega) (by unfold InR; omega))

/-- paravane/region.Check -/
theorem c_region_Check (r : Rg) : VPure Try.prog 70 [vR r] (I (chkR r)) := by
  intro H
  refine vcall_of_vrun Try.func70 rfl (N := 24) rfl rfl ?_
  refine vseq ?_
  refine vregion ?_
  refine vone rfl (vxa (vbox rfl rfl) rfl rfl (fun b1 => ?_))
  refine vone rfl (vxq (vas rfl) rfl rfl ?_)
  refine vnil ?_
  refine vseq ?_
  refine vregion ?_
  refine vone rfl (vxq (vmff rfl rfl) rfl rfl ?_)
  refine vone rfl (vxq (vmff rfl rfl) rfl rfl ?_)
  refine vone rfl (vxq (vmff rfl rfl) rfl rfl ?_)
  refine vone rfl (vxq (vmff rfl rfl) rfl rfl ?_)
  refine vone rfl (vxq (vbd rfl rfl) rfl rfl ?_)
  refine vone rfl (vxa valloc rfl rfl (fun b2 => ?_))
  refine vone rfl (vxs (vstn rfl rfl rfl rfl rfl) rfl ?_)
  refine vnil ?_
  refine vseq ?_
  refine vseq ?_
  refine vregion ?_
  refine vone rfl (vxq (vldn rfl rfl) rfl rfl ?_)
  refine vone rfl (vxq (vcp rfl rfl rfl (c_region_bounds _ _ _ _ _ _ _ _)) rfl rfl ?_)
  refine vone rfl (vxq (vmv rfl) rfl rfl ?_)
  refine vnil ?_
  refine vblock ?_
  refine vloop1 ?_
  refine vseq ?_
  refine vregion ?_
  refine vone rfl (vxq (vlss rfl rfl) rfl rfl ?_)
  refine vnil ?_
  refine vseq ?_
  refine vcondt rfl ?_
  refine vskip ?_
  refine vseq ?_
  refine vblock ?_
  refine vseq ?_
  refine vregion ?_
  refine vone rfl (vxq (vmv rfl) rfl rfl ?_)
  refine vone rfl (vxq (vixan rfl rfl (by omega) rfl) rfl rfl ?_)
  refine vone rfl (vxa valloc rfl rfl (fun b3 => ?_))
  refine vone rfl (vxq (vas rfl) rfl rfl ?_)
  refine vone rfl (vxs (vstn rfl rfl rfl rfl rfl) rfl ?_)
  refine vnil ?_
  refine vseq ?_
  refine vdraw0 [(.q, 0), (.q, 1), (.q, 2), (.q, 3), (.q, 4), (.q, 5)] Try.mixed (by kernel_rfl) (by kernel_rfl) ?_
  refine vdq (mone rfl) (vmv rfl) rfl rfl ?_
  refine vdq (mone rfl) (via rfl rfl (by omega)) rfl rfl ?_
  refine vdq (mone rfl) (vld1 rfl rfl) rfl rfl ?_
  refine vdq (mone rfl) (vldn rfl rfl) rfl rfl ?_
  refine vdq (mone rfl) (vcpf rfl rfl rfl (c_region_limit_fits _ _ _ (by omega))) rfl rfl ?_
  refine vdq (mone rfl) (vnotd rfl) rfl rfl ?_
  refine vdend rfl ?_
  refine vcondd rfl (fun h22 => ?_) (fun h22 => ?_)
  · skip
    refine vseq ?_
    refine vregion ?_
    refine vone rfl (vxq (vas rfl) rfl rfl ?_)
    refine vnil ?_
    refine vret (vr1 (H' := H) Try.func70 rfl (.tmp rfl) (by repeat first | exact .refl _ | refine .cons_cons _ ?_ | refine .cons _ ?_ | exact sl0 _ | refine slA ?_) ?_)
    first | exact ⟨oI (chkR_no (by unfold Rg.ok Bd.fits; omega)).symm, rfl⟩ | exact ⟨oI (chkR_ok (by unfold Rg.ok Bd.fits; omega)).symm, rfl⟩
  · skip
    refine vskip ?_
    refine vinblock ?_
    refine vregion ?_
    refine vone rfl (vxq (vadd rfl rfl (by unfold InR; omega)) rfl rfl ?_)
    refine vone rfl (vxq (vmv rfl) rfl rfl ?_)
    refine vnil ?_
    refine vinloop1 ?_
    refine vseq ?_
    refine vregion ?_
    refine vone rfl (vxq (vlss rfl rfl) rfl rfl ?_)
    refine vnil ?_
    refine vseq ?_
    refine vcondt rfl ?_
    refine vskip ?_
    refine vseq ?_
    refine vblock ?_
    refine vseq ?_
    refine vregion ?_
    refine vone rfl (vxq (vmv rfl) rfl rfl ?_)
    refine vone rfl (vxq (vixan rfl rfl (by omega) rfl) rfl rfl ?_)
    refine vone rfl (vxa valloc rfl rfl (fun b4 => ?_))
    refine vone rfl (vxq (vas rfl) rfl rfl ?_)
    refine vone rfl (vxs (vstn rfl rfl rfl rfl rfl) rfl ?_)
    refine vnil ?_
    refine vseq ?_
    refine vdraw0 [(.q, 0), (.q, 1), (.q, 2), (.q, 3), (.q, 4), (.q, 5)] Try.mixed (by kernel_rfl) (by kernel_rfl) ?_
    refine vdq (mone rfl) (vmv rfl) rfl rfl ?_
    refine vdq (mone rfl) (via rfl rfl (by omega)) rfl rfl ?_
    refine vdq (mone rfl) (vld1 rfl rfl) rfl rfl ?_
    refine vdq (mone rfl) (vldn rfl rfl) rfl rfl ?_
    refine vdq (mone rfl) (vcpf rfl rfl rfl (c_region_limit_fits _ _ _ (by omega))) rfl rfl ?_
    refine vdq (mone rfl) (vnotd rfl) rfl rfl ?_
    refine vdend rfl ?_
    refine vcondd rfl (fun h22 => ?_) (fun h22 => ?_)
    · skip
      refine vseq ?_
      refine vregion ?_
      refine vone rfl (vxq (vas rfl) rfl rfl ?_)
      refine vnil ?_
      refine vret (vr1 (H' := H) Try.func70 rfl (.tmp rfl) (by repeat first | exact .refl _ | refine .cons_cons _ ?_ | refine .cons _ ?_ | exact sl0 _ | refine slA ?_) ?_)
      first | exact ⟨oI (chkR_no (by unfold Rg.ok Bd.fits; omega)).symm, rfl⟩ | exact ⟨oI (chkR_ok (by unfold Rg.ok Bd.fits; omega)).symm, rfl⟩
    · skip
      refine vskip ?_
      refine vinblock ?_
      refine vregion ?_
      refine vone rfl (vxq (vadd rfl rfl (by unfold InR; omega)) rfl rfl ?_)
      refine vone rfl (vxq (vmv rfl) rfl rfl ?_)
      refine vnil ?_
      refine vinloop1 ?_
      refine vseq ?_
      refine vregion ?_
      refine vone rfl (vxq (vlss rfl rfl) rfl rfl ?_)
      refine vnil ?_
      refine vseq ?_
      refine vcondt rfl ?_
      refine vskip ?_
      refine vseq ?_
      refine vblock ?_
      refine vseq ?_
      refine vregion ?_
      refine vone rfl (vxq (vmv rfl) rfl rfl ?_)
      refine vone rfl (vxq (vixan rfl rfl (by omega) rfl) rfl rfl ?_)
      refine vone rfl (vxa valloc rfl rfl (fun b5 => ?_))
      refine vone rfl (vxq (vas rfl) rfl rfl ?_)
      refine vone rfl (vxs (vstn rfl rfl rfl rfl rfl) rfl ?_)
      refine vnil ?_
      refine vseq ?_
      refine vdraw0 [(.q, 0), (.q, 1), (.q, 2), (.q, 3), (.q, 4), (.q, 5)] Try.mixed (by kernel_rfl) (by kernel_rfl) ?_
      refine vdq (mone rfl) (vmv rfl) rfl rfl ?_
      refine vdq (mone rfl) (via rfl rfl (by omega)) rfl rfl ?_
      refine vdq (mone rfl) (vld1 rfl rfl) rfl rfl ?_
      refine vdq (mone rfl) (vldn rfl rfl) rfl rfl ?_
      refine vdq (mone rfl) (vcpf rfl rfl rfl (c_region_limit_fits _ _ _ (by omega))) rfl rfl ?_
      refine vdq (mone rfl) (vnotd rfl) rfl rfl ?_
      refine vdend rfl ?_
      refine vcondd rfl (fun h22 => ?_) (fun h22 => ?_)
      · skip
        refine vseq ?_
        refine vregion ?_
        refine vone rfl (vxq (vas rfl) rfl rfl ?_)
        refine vnil ?_
        refine vret (vr1 (H' := H) Try.func70 rfl (.tmp rfl) (by repeat first | exact .refl _ | refine .cons_cons _ ?_ | refine .cons _ ?_ | exact sl0 _ | refine slA ?_) ?_)
        first | exact ⟨oI (chkR_no (by unfold Rg.ok Bd.fits; omega)).symm, rfl⟩ | exact ⟨oI (chkR_ok (by unfold Rg.ok Bd.fits; omega)).symm, rfl⟩
      · skip
        refine vskip ?_
        refine vinblock ?_
        refine vregion ?_
        refine vone rfl (vxq (vadd rfl rfl (by unfold InR; omega)) rfl rfl ?_)
        refine vone rfl (vxq (vmv rfl) rfl rfl ?_)
        refine vnil ?_
        refine vinloop1 ?_
        refine vseq ?_
        refine vregion ?_
        refine vone rfl (vxq (vlss rfl rfl) rfl rfl ?_)
        refine vnil ?_
        refine vseq ?_
        refine vcondt rfl ?_
        refine vskip ?_
        refine vseq ?_
        refine vblock ?_
        refine vseq ?_
        refine vregion ?_
        refine vone rfl (vxq (vmv rfl) rfl rfl ?_)
        refine vone rfl (vxq (vixan rfl rfl (by omega) rfl) rfl rfl ?_)
        refine vone rfl (vxa valloc rfl rfl (fun b6 => ?_))
        refine vone rfl (vxq (vas rfl) rfl rfl ?_)
        refine vone rfl (vxs (vstn rfl rfl rfl rfl rfl) rfl ?_)
        refine vnil ?_
        refine vseq ?_
        refine vdraw0 [(.q, 0), (.q, 1), (.q, 2), (.q, 3), (.q, 4), (.q, 5)] Try.mixed (by kernel_rfl) (by kernel_rfl) ?_
        refine vdq (mone rfl) (vmv rfl) rfl rfl ?_
        refine vdq (mone rfl) (via rfl rfl (by omega)) rfl rfl ?_
        refine vdq (mone rfl) (vld1 rfl rfl) rfl rfl ?_
        refine vdq (mone rfl) (vldn rfl rfl) rfl rfl ?_
        refine vdq (mone rfl) (vcpf rfl rfl rfl (c_region_limit_fits _ _ _ (by omega))) rfl rfl ?_
        refine vdq (mone rfl) (vnotd rfl) rfl rfl ?_
        refine vdend rfl ?_
        refine vcondd rfl (fun h22 => ?_) (fun h22 => ?_)
        · skip
          refine vseq ?_
          refine vregion ?_
          refine vone rfl (vxq (vas rfl) rfl rfl ?_)
          refine vnil ?_
          refine vret (vr1 (H' := H) Try.func70 rfl (.tmp rfl) (by repeat first | exact .refl _ | refine .cons_cons _ ?_ | refine .cons _ ?_ | exact sl0 _ | refine slA ?_) ?_)
          first | exact ⟨oI (chkR_no (by unfold Rg.ok Bd.fits; omega)).symm, rfl⟩ | exact ⟨oI (chkR_ok (by unfold Rg.ok Bd.fits; omega)).symm, rfl⟩
        · skip
          refine vskip ?_
          refine vinblock ?_
          refine vregion ?_
          refine vone rfl (vxq (vadd rfl rfl (by unfold InR; omega)) rfl rfl ?_)
          refine vone rfl (vxq (vmv rfl) rfl rfl ?_)
          refine vnil ?_
          refine vinloop1 ?_
          refine vseq ?_
          refine vregion ?_
          refine vone rfl (vxq (vlss rfl rfl) rfl rfl ?_)
          refine vnil ?_
          refine vseq ?_
          refine vcondf rfl ?_
          refine vexit (k' := _) rfl ?_
          refine vseq ?_
          refine vregion ?_
          refine vone rfl (vxq (vas rfl) rfl rfl ?_)
          refine vnil ?_
          refine vret (vr1 (H' := H) Try.func70 rfl (.tmp rfl) (by repeat first | exact .refl _ | refine .cons_cons _ ?_ | refine .cons _ ?_ | exact sl0 _ | refine slA ?_) ?_)
          first | exact ⟨oI (chkR_no (by unfold Rg.ok Bd.fits; omega)).symm, rfl⟩ | exact ⟨oI (chkR_ok (by unfold Rg.ok Bd.fits; omega)).symm, rfl⟩
/-- paravane/region.CheckPoint -/
theorem c_region_CheckPoint (p : Pt) : VPure Try.prog 62 [vP p] (I (chkP p)) := by
  intro H
  refine vcall_of_vrun Try.func62 rfl (N := 18) rfl rfl ?_
  refine vseq ?_
  refine vregion ?_
  refine vone rfl (vxa (vbox rfl rfl) rfl rfl (fun b1 => ?_))
  refine vone rfl (vxq (vas rfl) rfl rfl ?_)
  refine vnil ?_
  refine vseq ?_
  refine vseq ?_
  refine vregion ?_
  refine vone rfl (vxq (vfa rfl) rfl rfl ?_)
  refine vone rfl (vxq (vld1 rfl rfl) rfl rfl ?_)
  refine vone rfl (vxq (vfa rfl) rfl rfl ?_)
  refine vone rfl (vxq (vld1 rfl rfl) rfl rfl ?_)
  refine vone rfl (vxq (vbd rfl rfl) rfl rfl ?_)
  refine vone rfl (vxq (vmv rfl) rfl rfl ?_)
  refine vnil ?_
  refine vblock ?_
  refine vloop1 ?_
  refine vseq ?_
  refine vregion ?_
  refine vone rfl (vxq (vlss rfl rfl) rfl rfl ?_)
  refine vnil ?_
  refine vseq ?_
  refine vcondt rfl ?_
  refine vskip ?_
  refine vseq ?_
  refine vblock ?_
  refine vseq ?_
  refine vregion ?_
  refine vone rfl (vxq (vixa1 rfl rfl (by omega) rfl) rfl rfl ?_)
  refine vone rfl (vxq (vas rfl) rfl rfl ?_)
  refine vnil ?_
  refine vseq ?_
  refine vregion ?_
  refine vone rfl (vxq (vmv rfl) rfl rfl ?_)
  refine vone rfl (vxq (vcp rfl rfl rfl (c_region_limit_into _ _ (by omega))) rfl rfl ?_)
  refine vone rfl (vxq (vmv rfl) rfl rfl ?_)
  refine vone rfl (vxq (vneq rfl rfl) rfl rfl ?_)
  refine vnil ?_
  refine vcondd rfl (fun h16 => ?_) (fun h16 => ?_)
  · skip
    refine vseq ?_
    refine vregion ?_
    refine vone rfl (vxq (vas rfl) rfl rfl ?_)
    refine vnil ?_
    refine vret (vr1 (H' := H) Try.func62 rfl (.tmp rfl) (by repeat first | exact .refl _ | refine .cons_cons _ ?_ | refine .cons _ ?_ | exact sl0 _ | refine slA ?_) ?_)
    first | exact ⟨oI (chkP_no (by unfold Pt.ok; omega)).symm, rfl⟩ | exact ⟨oI (chkP_zero.2 (by unfold Pt.ok; omega)).symm, rfl⟩
  · skip
    refine vskip ?_
    refine vinblock ?_
    refine vregion ?_
    refine vone rfl (vxq (vadd rfl rfl (by unfold InR; omega)) rfl rfl ?_)
    refine vone rfl (vxq (vmv rfl) rfl rfl ?_)
    refine vnil ?_
    refine vinloop1 ?_
    refine vseq ?_
    refine vregion ?_
    refine vone rfl (vxq (vlss rfl rfl) rfl rfl ?_)
    refine vnil ?_
    refine vseq ?_
    refine vcondt rfl ?_
    refine vskip ?_
    refine vseq ?_
    refine vblock ?_
    refine vseq ?_
    refine vregion ?_
    refine vone rfl (vxq (vixa1 rfl rfl (by omega) rfl) rfl rfl ?_)
    refine vone rfl (vxq (vas rfl) rfl rfl ?_)
    refine vnil ?_
    refine vseq ?_
    refine vregion ?_
    refine vone rfl (vxq (vmv rfl) rfl rfl ?_)
    refine vone rfl (vxq (vcp rfl rfl rfl (c_region_limit_into _ _ (by omega))) rfl rfl ?_)
    refine vone rfl (vxq (vmv rfl) rfl rfl ?_)
    refine vone rfl (vxq (vneq rfl rfl) rfl rfl ?_)
    refine vnil ?_
    refine vcondd rfl (fun h16 => ?_) (fun h16 => ?_)
    · skip
      refine vseq ?_
      refine vregion ?_
      refine vone rfl (vxq (vas rfl) rfl rfl ?_)
      refine vnil ?_
      refine vret (vr1 (H' := H) Try.func62 rfl (.tmp rfl) (by repeat first | exact .refl _ | refine .cons_cons _ ?_ | refine .cons _ ?_ | exact sl0 _ | refine slA ?_) ?_)
      first | exact ⟨oI (chkP_no (by unfold Pt.ok; omega)).symm, rfl⟩ | exact ⟨oI (chkP_zero.2 (by unfold Pt.ok; omega)).symm, rfl⟩
    · skip
      refine vskip ?_
      refine vinblock ?_
      refine vregion ?_
      refine vone rfl (vxq (vadd rfl rfl (by unfold InR; omega)) rfl rfl ?_)
      refine vone rfl (vxq (vmv rfl) rfl rfl ?_)
      refine vnil ?_
      refine vinloop1 ?_
      refine vseq ?_
      refine vregion ?_
      refine vone rfl (vxq (vlss rfl rfl) rfl rfl ?_)
      refine vnil ?_
      refine vseq ?_
      refine vcondf rfl ?_
      refine vexit (k' := _) rfl ?_
      refine vseq ?_
      refine vregion ?_
      refine vone rfl (vxq (vas rfl) rfl rfl ?_)
      refine vnil ?_
      refine vret (vr1 (H' := H) Try.func62 rfl (.tmp rfl) (by repeat first | exact .refl _ | refine .cons_cons _ ?_ | refine .cons _ ?_ | exact sl0 _ | refine slA ?_) ?_)
      first | exact ⟨oI (chkP_no (by unfold Pt.ok; omega)).symm, rfl⟩ | exact ⟨oI (chkP_zero.2 (by unfold Pt.ok; omega)).symm, rfl⟩

theorem hull_eqN {pre : List Pt} {x : Pt} (h : (!(hullP pre).isSome) = true) : hullP (pre ++ [x]) = some ((ofP x).map2 Bd.span (ofP x)) := by
  rw [hullP_snoc, optN h]; rfl
theorem hull_eqS {pre : List Pt} {x : Pt} (h : (!(hullP pre).isSome) = false) : hullP (pre ++ [x]) = some (((hullP pre).getD zR).map2 Bd.span (ofP x)) := by
  obtain ⟨g, hg⟩ := optS h
  rw [hullP_snoc, hg]; rfl

/-- paravane/region.hull -/
theorem h_hull1 {kf : FuncId} [TFn Try.prog kf] {caps : List Value} {Hi : Heap} {xs : List Pt} (hit : VIt Try.prog kf caps (fun p => [vP p]) xs Hi) (hsm : ∀ p ∈ xs, p.sm 1099511627776) (bs : Nat) : VHas Try.prog 87 [.slice (some ⟨bs, 0, Option.none⟩) 1 1] (tup [vR ((hullP xs).getD zR), .bool (hullP xs).isSome]) ((bs, blk [.func (.func kf) #[] caps.toArray] 112) :: Hi) ((bs, blk [.func (.func kf) #[] caps.toArray] 112) :: Hi) := by
  refine vcall_of_vrun Try.func87 rfl (N := 26) rfl rfl ?_
  refine vseq ?_
  refine vregion ?_
  refine vone rfl (vxa valloc rfl rfl (fun b1 => ?_))
  refine vone rfl (vxa valloc rfl rfl (fun b2 => ?_))
  refine vnil ?_
  refine vseq ?_
  refine vseq ?_
  refine vregion ?_
  refine vone rfl (vxq (vmv rfl) rfl rfl ?_)
  refine vone rfl (vxq (vlen rfl) rfl rfl ?_)
  refine vone rfl (vxq (vmv rfl) rfl rfl ?_)
  refine vnil ?_
  refine vblock ?_
  refine vloop1 ?_
  refine vseq ?_
  refine vregion ?_
  refine vone rfl (vxq (vlss rfl rfl) rfl rfl ?_)
  refine vnil ?_
  refine vseq ?_
  refine vcondt rfl ?_
  refine vskip ?_
  refine vseq ?_
  refine vblock ?_
  refine vseq ?_
  refine vregion ?_
  refine vone rfl (vxq (vis rfl rfl (by omega)) rfl rfl ?_)
  refine vone rfl (vxq (vld1 rfl rfl) rfl rfl ?_)
  refine vone rfl (vxq (vas rfl) rfl rfl ?_)
  refine vnil ?_
  refine vseq ?_
  refine vregion ?_
  refine vone rfl (vxq (vmv rfl) rfl rfl ?_)
  refine vnil ?_
  refine vblock ?_
  refine vrange (enc := (fun p => [vP p])) (xs := xs) (caps := caps) (Hi := Hi) (Hc := [(b2, blk [.bool (hullP []).isSome] 4), (b1, blk (clR ((hullP []).getD zR)) 96), (bs, blk [.func (.func kf) #[] caps.toArray] 112)]) (ps := [14]) (fun pre H1 => H1 = [(b2, blk [.bool (hullP pre).isSome] 4), (b1, blk (clR ((hullP pre).getD zR)) 96), (bs, blk [.func (.func kf) #[] caps.toArray] 112)]) (fun _ _ => False) rfl (hit) (List.perm_append_comm (l₁ := [(b2, blk [.bool (hullP []).isSome] 4), (b1, blk (clR ((hullP []).getD zR)) 96), (bs, blk [.func (.func kf) #[] caps.toArray] 112)])) rfl (fun _ => rfl) rfl ?_ ?_ ?_
  · intro lpa reca prea xa posta H1a hrsa hxsa hIa
    subst hIa
    have hsx := hsm xa (by rw [hxsa]; simp)
    refine vregion ?_
    refine vone rfl (vxa valloc rfl rfl (fun b3 => ?_))
    refine vone rfl (vxs (vstn rfl rfl rfl rfl rfl) rfl ?_)
    refine vnil ?_
    refine vbegin hrsa ?_
    refine vblock ?_
    refine vseq ?_
    refine vseq ?_
    refine vregion ?_
    refine vone rfl (vxq (vld1 rfl rfl) rfl rfl ?_)
    refine vone rfl (vxq (vnot rfl) rfl rfl ?_)
    refine vnil ?_
    refine vcond rfl (fun h16 => ?_) (fun h16 => ?_)
    · skip
      refine vregion ?_
      refine vone rfl (vxq (vldn rfl rfl) rfl rfl ?_)
      refine vone rfl (vxq (vcp rfl rfl rfl (c_of xa hsx)) rfl rfl ?_)
      refine vone rfl (vxs (vstn rfl rfl rfl rfl rfl) rfl ?_)
      refine vone rfl (vxs (vst1 rfl rfl rfl rfl) rfl ?_)
      refine vnil ?_
      refine vdraw0 [(.q, 0), (.q, 1), (.q, 2), (.q, 3), (.c, 4)] Try.mixed (by kernel_rfl) (by kernel_rfl) ?_
      refine vdq (mone rfl) (vldn rfl rfl) rfl rfl ?_
      refine vdq (mone rfl) (vldn rfl rfl) rfl rfl ?_
      refine vdq (mone rfl) (vcp rfl rfl rfl (c_of xa hsx)) rfl rfl ?_
      refine vdq (mone rfl) (vcp rfl rfl rfl (c_span4 ⟨⟨_, _⟩, ⟨_, _⟩, ⟨_, _⟩, ⟨_, _⟩⟩ ⟨⟨_, _⟩, ⟨_, _⟩, ⟨_, _⟩, ⟨_, _⟩⟩)) rfl rfl ?_
      refine vdcs (mone rfl) (vstn rfl rfl rfl rfl rfl) rfl ?_
      refine vdend rfl ?_
      refine vinblock ?_
      refine vroundI_end (H' := [(b2, _), (b1, _), (bs, _)]) (by repeat first | exact .refl _ | refine .cons_cons _ ?_ | refine .cons _ ?_ | exact sl0 _ | refine slA ?_) ?_
      first | (rw [hull_eqN h16]; rfl) | (have he := hull_eqS (x := xa) h16; obtain ⟨gg, hg⟩ := optS h16; rw [he, hg]; rfl)
    · skip
      refine vskip ?_
      refine vdraw0 [(.q, 0), (.q, 1), (.q, 2), (.q, 3), (.c, 4)] Try.mixed (by kernel_rfl) (by kernel_rfl) ?_
      refine vdq (mone rfl) (vldn rfl rfl) rfl rfl ?_
      refine vdq (mone rfl) (vldn rfl rfl) rfl rfl ?_
      refine vdq (mone rfl) (vcp rfl rfl rfl (c_of xa hsx)) rfl rfl ?_
      refine vdq (mone rfl) (vcp rfl rfl rfl (c_span4 ⟨⟨_, _⟩, ⟨_, _⟩, ⟨_, _⟩, ⟨_, _⟩⟩ ⟨⟨_, _⟩, ⟨_, _⟩, ⟨_, _⟩, ⟨_, _⟩⟩)) rfl rfl ?_
      refine vdcs (mone rfl) (vstn rfl rfl rfl rfl rfl) rfl ?_
      refine vdend rfl ?_
      refine vinblock ?_
      refine vroundI_end (H' := [(b2, _), (b1, _), (bs, _)]) (by repeat first | exact .refl _ | refine .cons_cons _ ?_ | refine .cons _ ?_ | exact sl0 _ | refine slA ?_) ?_
      first | (rw [hull_eqN h16]; rfl) | (have he := hull_eqS (x := xa) h16; obtain ⟨gg, hg⟩ := optS h16; rw [he, hg]; rfl)
  · intro r1a H1a hIa
    subst hIa
    refine VRun.perm (H' := (r1a, Obj.deferred (some [])) :: (b2, blk [.bool (hullP xs).isSome] 4) :: (b1, blk (clR ((hullP xs).getD zR)) 96) :: (bs, blk [.func (.func kf) #[] caps.toArray] 112) :: Hi) ((List.perm_append_comm).cons _) ?_
    refine vinblock ?_
    refine vinblock ?_
    refine vregion ?_
    refine vone rfl (vxq (vadd rfl rfl (by unfold InR; omega)) rfl rfl ?_)
    refine vone rfl (vxq (vmv rfl) rfl rfl ?_)
    refine vnil ?_
    refine vinloop1 ?_
    refine vseq ?_
    refine vregion ?_
    refine vone rfl (vxq (vlss rfl rfl) rfl rfl ?_)
    refine vnil ?_
    refine vseq ?_
    refine vcondf rfl ?_
    refine vexit (k' := _) rfl ?_
    refine vseq ?_
    refine vdraw0 [(.q, 0), (.q, 1), (.q, 2), (.q, 3)] Try.mixed (by kernel_rfl) (by kernel_rfl) ?_
    refine vdq (mone rfl) (vldn rfl rfl) rfl rfl ?_
    refine vdq (mone rfl) (vld1 rfl rfl) rfl rfl ?_
    refine vdqn (mone rfl) (vstns rfl rfl rfl rfl rfl) rfl ?_
    refine vdqn (mone rfl) (vst1s rfl rfl rfl rfl) rfl ?_
    refine vdend rfl ?_
    refine vret (vret_mark (vr2 (H' := (bs, blk [.func (.func kf) #[] caps.toArray] 112) :: Hi) Try.func87 rfl (.celln rfl rfl) (.cell1 rfl rfl) (by repeat first | exact .refl _ | refine .cons_cons _ ?_ | refine .cons _ ?_ | exact sl0 _ | refine slA ?_) ?_))
    exact ⟨rfl, rfl⟩
  · intro r1a ca H1a hIa
    exact hIa.elim
/-- paravane/region.hull -/
theorem h_hull2 {kf kf2 : FuncId} [TFn Try.prog kf] [TFn Try.prog kf2] {caps caps2 : List Value} {Hi Hi2 : Heap} {xs ys : List Pt} (hit : VIt Try.prog kf caps (fun p => [vP p]) xs Hi) (hit2 : VIt Try.prog kf2 caps2 (fun p => [vP p]) ys Hi2) (hsm : ∀ p ∈ xs, p.sm 1099511627776) (hsm2 : ∀ p ∈ ys, p.sm 1099511627776) (bs : Nat) : VHas Try.prog 87 [.slice (some ⟨bs, 0, Option.none⟩) 2 2] (tup [vR ((hullP (xs ++ ys)).getD zR), .bool (hullP (xs ++ ys)).isSome]) ((bs, blk [.func (.func kf) #[] caps.toArray, .func (.func kf2) #[] caps2.toArray] 112) :: (Hi ++ Hi2)) ((bs, blk [.func (.func kf) #[] caps.toArray, .func (.func kf2) #[] caps2.toArray] 112) :: (Hi ++ Hi2)) := by
  refine vcall_of_vrun Try.func87 rfl (N := 26) rfl rfl ?_
  refine vseq ?_
  refine vregion ?_
  refine vone rfl (vxa valloc rfl rfl (fun b1 => ?_))
  refine vone rfl (vxa valloc rfl rfl (fun b2 => ?_))
  refine vnil ?_
  refine vseq ?_
  refine vseq ?_
  refine vregion ?_
  refine vone rfl (vxq (vmv rfl) rfl rfl ?_)
  refine vone rfl (vxq (vlen rfl) rfl rfl ?_)
  refine vone rfl (vxq (vmv rfl) rfl rfl ?_)
  refine vnil ?_
  refine vblock ?_
  refine vloop1 ?_
  refine vseq ?_
  refine vregion ?_
  refine vone rfl (vxq (vlss rfl rfl) rfl rfl ?_)
  refine vnil ?_
  refine vseq ?_
  refine vcondt rfl ?_
  refine vskip ?_
  refine vseq ?_
  refine vblock ?_
  refine vseq ?_
  refine vregion ?_
  refine vone rfl (vxq (vis rfl rfl (by omega)) rfl rfl ?_)
  refine vone rfl (vxq (vld1 rfl rfl) rfl rfl ?_)
  refine vone rfl (vxq (vas rfl) rfl rfl ?_)
  refine vnil ?_
  refine vseq ?_
  refine vregion ?_
  refine vone rfl (vxq (vmv rfl) rfl rfl ?_)
  refine vnil ?_
  refine vblock ?_
  refine vrange (enc := (fun p => [vP p])) (xs := xs) (caps := caps) (Hi := Hi) (Hc := ([(b2, blk [.bool (hullP []).isSome] 4), (b1, blk (clR ((hullP []).getD zR)) 96), (bs, blk [.func (.func kf) #[] caps.toArray, .func (.func kf2) #[] caps2.toArray] 112)] ++ Hi2)) (ps := [14]) (fun pre H1 => H1 = [(b2, blk [.bool (hullP pre).isSome] 4), (b1, blk (clR ((hullP pre).getD zR)) 96), (bs, blk [.func (.func kf) #[] caps.toArray, .func (.func kf2) #[] caps2.toArray] 112)] ++ Hi2) (fun _ _ => False) rfl (hit) (perm3 Hi [(b2, blk [.bool (hullP []).isSome] 4), (b1, blk (clR ((hullP []).getD zR)) 96), (bs, blk [.func (.func kf) #[] caps.toArray, .func (.func kf2) #[] caps2.toArray] 112)] Hi2).symm rfl (fun _ => rfl) rfl ?_ ?_ ?_
  · intro lpa reca prea xa posta H1a hrsa hxsa hIa
    subst hIa
    have hsx := hsm xa (by rw [hxsa]; simp)
    change VRun _ _ _ _ _ _ _ ((lpa, Obj.loop reca) :: (b2, blk [.bool (hullP prea).isSome] 4) :: (b1, blk (clR ((hullP prea).getD zR)) 96) :: (bs, blk [.func (.func kf) #[] caps.toArray, .func (.func kf2) #[] caps2.toArray] 112) :: Hi2) _
    refine vregion ?_
    refine vone rfl (vxa valloc rfl rfl (fun b3 => ?_))
    refine vone rfl (vxs (vstn rfl rfl rfl rfl rfl) rfl ?_)
    refine vnil ?_
    refine vbegin hrsa ?_
    refine vblock ?_
    refine vseq ?_
    refine vseq ?_
    refine vregion ?_
    refine vone rfl (vxq (vld1 rfl rfl) rfl rfl ?_)
    refine vone rfl (vxq (vnot rfl) rfl rfl ?_)
    refine vnil ?_
    refine vcond rfl (fun h16 => ?_) (fun h16 => ?_)
    · skip
      refine vregion ?_
      refine vone rfl (vxq (vldn rfl rfl) rfl rfl ?_)
      refine vone rfl (vxq (vcp rfl rfl rfl (c_of _ hsx)) rfl rfl ?_)
      refine vone rfl (vxs (vstn rfl rfl rfl rfl rfl) rfl ?_)
      refine vone rfl (vxs (vst1 rfl rfl rfl rfl) rfl ?_)
      refine vnil ?_
      refine vdraw0 [(.q, 0), (.q, 1), (.q, 2), (.q, 3), (.c, 4)] Try.mixed (by kernel_rfl) (by kernel_rfl) ?_
      refine vdq (mone rfl) (vldn rfl rfl) rfl rfl ?_
      refine vdq (mone rfl) (vldn rfl rfl) rfl rfl ?_
      refine vdq (mone rfl) (vcp rfl rfl rfl (c_of _ hsx)) rfl rfl ?_
      refine vdq (mone rfl) (vcp rfl rfl rfl (c_span4 ⟨⟨_, _⟩, ⟨_, _⟩, ⟨_, _⟩, ⟨_, _⟩⟩ ⟨⟨_, _⟩, ⟨_, _⟩, ⟨_, _⟩, ⟨_, _⟩⟩)) rfl rfl ?_
      refine vdcs (mone rfl) (vstn rfl rfl rfl rfl rfl) rfl ?_
      refine vdend rfl ?_
      refine vinblock ?_
      refine vroundI_end (H' := (b2, _) :: (b1, _) :: (bs, _) :: Hi2) (by repeat first | exact .refl _ | refine .cons_cons _ ?_ | refine .cons _ ?_ | exact sl0 _ | refine slA ?_) ?_
      first | (rw [hull_eqN h16]; rfl) | (have he := hull_eqS (x := xa) h16; obtain ⟨gg, hg⟩ := optS h16; rw [he, hg]; rfl)
    · skip
      refine vskip ?_
      refine vdraw0 [(.q, 0), (.q, 1), (.q, 2), (.q, 3), (.c, 4)] Try.mixed (by kernel_rfl) (by kernel_rfl) ?_
      refine vdq (mone rfl) (vldn rfl rfl) rfl rfl ?_
      refine vdq (mone rfl) (vldn rfl rfl) rfl rfl ?_
      refine vdq (mone rfl) (vcp rfl rfl rfl (c_of _ hsx)) rfl rfl ?_
      refine vdq (mone rfl) (vcp rfl rfl rfl (c_span4 ⟨⟨_, _⟩, ⟨_, _⟩, ⟨_, _⟩, ⟨_, _⟩⟩ ⟨⟨_, _⟩, ⟨_, _⟩, ⟨_, _⟩, ⟨_, _⟩⟩)) rfl rfl ?_
      refine vdcs (mone rfl) (vstn rfl rfl rfl rfl rfl) rfl ?_
      refine vdend rfl ?_
      refine vinblock ?_
      refine vroundI_end (H' := (b2, _) :: (b1, _) :: (bs, _) :: Hi2) (by repeat first | exact .refl _ | refine .cons_cons _ ?_ | refine .cons _ ?_ | exact sl0 _ | refine slA ?_) ?_
      first | (rw [hull_eqN h16]; rfl) | (have he := hull_eqS (x := xa) h16; obtain ⟨gg, hg⟩ := optS h16; rw [he, hg]; rfl)
  · intro r1a H1a hIa
    subst hIa
    refine VRun.perm (H' := (r1a, Obj.deferred (some [])) :: (b2, blk [.bool (hullP xs).isSome] 4) :: (b1, blk (clR ((hullP xs).getD zR)) 96) :: (bs, blk [.func (.func kf) #[] caps.toArray, .func (.func kf2) #[] caps2.toArray] 112) :: (Hi ++ Hi2)) ((perm3 Hi _ Hi2).cons _) ?_
    refine vinblock ?_
    refine vinblock ?_
    refine vregion ?_
    refine vone rfl (vxq (vadd rfl rfl (by unfold InR; omega)) rfl rfl ?_)
    refine vone rfl (vxq (vmv rfl) rfl rfl ?_)
    refine vnil ?_
    refine vinloop1 ?_
    refine vseq ?_
    refine vregion ?_
    refine vone rfl (vxq (vlss rfl rfl) rfl rfl ?_)
    refine vnil ?_
    refine vseq ?_
    refine vcondt rfl ?_
    refine vskip ?_
    refine vseq ?_
    refine vblock ?_
    refine vseq ?_
    refine vregion ?_
    refine vone rfl (vxq (vis rfl rfl (by omega)) rfl rfl ?_)
    refine vone rfl (vxq (vld1 rfl rfl) rfl rfl ?_)
    refine vone rfl (vxq (vas rfl) rfl rfl ?_)
    refine vnil ?_
    refine vseq ?_
    refine vregion ?_
    refine vone rfl (vxq (vmv rfl) rfl rfl ?_)
    refine vnil ?_
    refine vblock ?_
    refine vrange (enc := (fun p => [vP p])) (xs := ys) (caps := caps2) (Hi := Hi2) (Hc := ((r1a, Obj.deferred (some [])) :: (b2, blk [.bool (hullP xs).isSome] 4) :: (b1, blk (clR ((hullP xs).getD zR)) 96) :: (bs, blk [.func (.func kf) #[] caps.toArray, .func (.func kf2) #[] caps2.toArray] 112) :: Hi)) (ps := [14]) (fun pre H1 => H1 = (r1a, Obj.deferred (some [])) :: (b2, blk [.bool (hullP (xs ++ pre)).isSome] 4) :: (b1, blk (clR ((hullP (xs ++ pre)).getD zR)) 96) :: (bs, blk [.func (.func kf) #[] caps.toArray, .func (.func kf2) #[] caps2.toArray] 112) :: Hi) (fun _ _ => False) rfl (hit2) (perm4 ((r1a, Obj.deferred (some [])) :: [(b2, blk [.bool (hullP xs).isSome] 4), (b1, blk (clR ((hullP xs).getD zR)) 96), (bs, blk [.func (.func kf) #[] caps.toArray, .func (.func kf2) #[] caps2.toArray] 112)]) Hi Hi2).symm (by rw [List.append_nil]) (fun _ => rfl) rfl ?_ ?_ ?_
    · intro lpb recb preb xb postb H1b hrsb hxsb hIb
      subst hIb
      have hsx := hsm2 xb (by rw [hxsb]; simp)
      refine vregion ?_
      refine vone rfl (vxa valloc rfl rfl (fun b4 => ?_))
      refine vone rfl (vxs (vstn rfl rfl rfl rfl rfl) rfl ?_)
      refine vnil ?_
      refine vbegin hrsb ?_
      refine vblock ?_
      refine vseq ?_
      refine vseq ?_
      refine vregion ?_
      refine vone rfl (vxq (vld1 rfl rfl) rfl rfl ?_)
      refine vone rfl (vxq (vnot rfl) rfl rfl ?_)
      refine vnil ?_
      refine vcond rfl (fun h16 => ?_) (fun h16 => ?_)
      · skip
        refine vregion ?_
        refine vone rfl (vxq (vldn rfl rfl) rfl rfl ?_)
        refine vone rfl (vxq (vcp rfl rfl rfl (c_of _ hsx)) rfl rfl ?_)
        refine vone rfl (vxs (vstn rfl rfl rfl rfl rfl) rfl ?_)
        refine vone rfl (vxs (vst1 rfl rfl rfl rfl) rfl ?_)
        refine vnil ?_
        refine vdraw0 [(.q, 0), (.q, 1), (.q, 2), (.q, 3), (.c, 4)] Try.mixed (by kernel_rfl) (by kernel_rfl) ?_
        refine vdq (mone rfl) (vldn rfl rfl) rfl rfl ?_
        refine vdq (mone rfl) (vldn rfl rfl) rfl rfl ?_
        refine vdq (mone rfl) (vcp rfl rfl rfl (c_of _ hsx)) rfl rfl ?_
        refine vdq (mone rfl) (vcp rfl rfl rfl (c_span4 ⟨⟨_, _⟩, ⟨_, _⟩, ⟨_, _⟩, ⟨_, _⟩⟩ ⟨⟨_, _⟩, ⟨_, _⟩, ⟨_, _⟩, ⟨_, _⟩⟩)) rfl rfl ?_
        refine vdcs (mone rfl) (vstn rfl rfl rfl rfl rfl) rfl ?_
        refine vdend rfl ?_
        refine vinblock ?_
        refine vroundI_end (H' := (r1a, Obj.deferred (some [])) :: (b2, _) :: (b1, _) :: (bs, _) :: Hi) (by repeat first | exact .refl _ | refine .cons_cons _ ?_ | refine .cons _ ?_ | exact sl0 _ | refine slA ?_) ?_
        first | (rw [← List.append_assoc, hull_eqN h16]; rfl) | (have he := hull_eqS (x := xb) h16; obtain ⟨gg, hg⟩ := optS h16; rw [← List.append_assoc, he, hg]; rfl)
      · skip
        refine vskip ?_
        refine vdraw0 [(.q, 0), (.q, 1), (.q, 2), (.q, 3), (.c, 4)] Try.mixed (by kernel_rfl) (by kernel_rfl) ?_
        refine vdq (mone rfl) (vldn rfl rfl) rfl rfl ?_
        refine vdq (mone rfl) (vldn rfl rfl) rfl rfl ?_
        refine vdq (mone rfl) (vcp rfl rfl rfl (c_of _ hsx)) rfl rfl ?_
        refine vdq (mone rfl) (vcp rfl rfl rfl (c_span4 ⟨⟨_, _⟩, ⟨_, _⟩, ⟨_, _⟩, ⟨_, _⟩⟩ ⟨⟨_, _⟩, ⟨_, _⟩, ⟨_, _⟩, ⟨_, _⟩⟩)) rfl rfl ?_
        refine vdcs (mone rfl) (vstn rfl rfl rfl rfl rfl) rfl ?_
        refine vdend rfl ?_
        refine vinblock ?_
        refine vroundI_end (H' := (r1a, Obj.deferred (some [])) :: (b2, _) :: (b1, _) :: (bs, _) :: Hi) (by repeat first | exact .refl _ | refine .cons_cons _ ?_ | refine .cons _ ?_ | exact sl0 _ | refine slA ?_) ?_
        first | (rw [← List.append_assoc, hull_eqN h16]; rfl) | (have he := hull_eqS (x := xb) h16; obtain ⟨gg, hg⟩ := optS h16; rw [← List.append_assoc, he, hg]; rfl)
    · intro r1b H1b hIb
      subst hIb
      refine VRun.perm (H' := (r1b, Obj.deferred (some [])) :: (r1a, Obj.deferred (some [])) :: (b2, blk [.bool (hullP (xs ++ ys)).isSome] 4) :: (b1, blk (clR ((hullP (xs ++ ys)).getD zR)) 96) :: (bs, blk [.func (.func kf) #[] caps.toArray, .func (.func kf2) #[] caps2.toArray] 112) :: (Hi ++ Hi2)) ((perm4 ((r1a, Obj.deferred (some [])) :: [(b2, blk [.bool (hullP (xs ++ ys)).isSome] 4), (b1, blk (clR ((hullP (xs ++ ys)).getD zR)) 96), (bs, blk [.func (.func kf) #[] caps.toArray, .func (.func kf2) #[] caps2.toArray] 112)]) Hi Hi2).cons _) ?_
      refine vinblock ?_
      refine vinblock ?_
      refine vregion ?_
      refine vone rfl (vxq (vadd rfl rfl (by unfold InR; omega)) rfl rfl ?_)
      refine vone rfl (vxq (vmv rfl) rfl rfl ?_)
      refine vnil ?_
      refine vinloop1 ?_
      refine vseq ?_
      refine vregion ?_
      refine vone rfl (vxq (vlss rfl rfl) rfl rfl ?_)
      refine vnil ?_
      refine vseq ?_
      refine vcondf rfl ?_
      refine vexit (k' := _) rfl ?_
      refine vseq ?_
      refine vdraw0 [(.q, 0), (.q, 1), (.q, 2), (.q, 3)] Try.mixed (by kernel_rfl) (by kernel_rfl) ?_
      refine vdq (mone rfl) (vldn rfl rfl) rfl rfl ?_
      refine vdq (mone rfl) (vld1 rfl rfl) rfl rfl ?_
      refine vdqn (mone rfl) (vstns rfl rfl rfl rfl rfl) rfl ?_
      refine vdqn (mone rfl) (vst1s rfl rfl rfl rfl) rfl ?_
      refine vdend rfl ?_
      refine vret (vret_mark (vret_mark (vr2 (H' := (bs, blk [.func (.func kf) #[] caps.toArray, .func (.func kf2) #[] caps2.toArray] 112) :: (Hi ++ Hi2)) Try.func87 rfl (.celln rfl rfl) (.cell1 rfl rfl) (by repeat first | exact .refl _ | refine .cons_cons _ ?_ | refine .cons _ ?_ | exact sl0 _ | refine slA ?_) ?_)))
      exact ⟨rfl, rfl⟩
    · intro r1b cb H1b hIb
      exact hIb.elim
  · intro r1a ca H1a hIa
    exact hIa.elim

theorem optE_n {h : Option Rg} (e : h = none) : optE h = (zR, 4) := by subst e; rfl
theorem optE_s {h : Option Rg} {g : Rg} (e : h = some g) : optE h = (g, 0) := by subst e; rfl

/-- (paravane/region.four).tight -/
theorem c_tight (r : Rg) (hs : r.sm 1099511627776) : VPure Try.prog 81 [vR r] (tup [vR (optE (tightP r)).1, I (optE (tightP r)).2]) := by
  intro H
  refine vcall_of_vrun Try.func81 rfl (N := 17) rfl rfl ?_
  refine vseq ?_
  refine vregion ?_
  refine vone rfl (vxa (vbox rfl rfl) rfl rfl (fun b1 => ?_))
  refine vone rfl (vxa valloc rfl rfl (fun b2 => ?_))
  refine vone rfl (vxq (vas rfl) rfl rfl ?_)
  refine vnil ?_
  refine vseq ?_
  refine vregion ?_
  refine vone rfl (vxq (vldn rfl rfl) rfl rfl ?_)
  refine vone rfl (vxg (vcnew rfl rfl rfl (n_ends _)) rfl rfl ?_)
  rintro _ _ ⟨b3, rfl, rfl⟩
  refine vone rfl (vxg (vbs rfl rfl rfl rfl rfl rfl) rfl rfl ?_)
  rintro _ _ ⟨b4, rfl, rfl⟩
  refine vone rfl (vxq (vcq rfl rfl rfl ((h_hull1 (it_ends r hs b3) (fun p hp => ends_sm hs hp) b4).fr2)) rfl rfl ?_)
  refine vone rfl (vxq (vmv rfl) rfl rfl ?_)
  refine vone rfl (vxq (vex rfl rfl) rfl rfl ?_)
  refine vone rfl (vxq (vex rfl rfl) rfl rfl ?_)
  refine vone rfl (vxa valloc rfl rfl (fun b5 => ?_))
  refine vone rfl (vxs (vstn rfl rfl rfl rfl rfl) rfl ?_)
  refine vone rfl (vxq (vas rfl) rfl rfl ?_)
  refine vnil ?_
  refine vseq ?_
  refine vseq ?_
  refine vregion ?_
  refine vone rfl (vxq (vmv rfl) rfl rfl ?_)
  refine vone rfl (vxq (vnot rfl) rfl rfl ?_)
  refine vnil ?_
  refine vcond rfl (fun h14 => ?_) (fun h14 => ?_)
  · skip
    refine vseq ?_
    refine vregion ?_
    refine vone rfl (vxq (vbd rfl rfl) rfl rfl ?_)
    refine vone rfl (vxs (vstn rfl rfl rfl rfl rfl) rfl ?_)
    refine vone rfl (vxq (vas rfl) rfl rfl ?_)
    refine vnil ?_
    refine vret (vr2 (H' := H) Try.func81 rfl (.celln rfl rfl) (.tmp rfl) (by repeat first | exact .refl _ | refine .cons_cons _ ?_ | refine .cons _ ?_ | exact sl0 _ | refine slA ?_) ?_)
    first | (have hh := optN (h := tightP r) h14; rw [optE_n hh]; exact ⟨rfl, rfl⟩) | (obtain ⟨gg, hh⟩ := optS (h := tightP r) h14; rw [optE_s hh, show hullP (endsOf r) = _ from hh]; exact ⟨rfl, rfl⟩)
  · skip
    refine vskip ?_
    refine vseq ?_
    refine vregion ?_
    refine vone rfl (vxq (vldn rfl rfl) rfl rfl ?_)
    refine vone rfl (vxs (vstn rfl rfl rfl rfl rfl) rfl ?_)
    refine vone rfl (vxq (vas rfl) rfl rfl ?_)
    refine vnil ?_
    refine vret (vr2 (H' := H) Try.func81 rfl (.celln rfl rfl) (.tmp rfl) (by repeat first | exact .refl _ | refine .cons_cons _ ?_ | refine .cons _ ?_ | exact sl0 _ | refine slA ?_) ?_)
    first | (have hh := optN (h := tightP r) h14; rw [optE_n hh]; exact ⟨rfl, rfl⟩) | (obtain ⟨gg, hh⟩ := optS (h := tightP r) h14; rw [optE_s hh, show hullP (endsOf r) = _ from hh]; exact ⟨rfl, rfl⟩)
/-- paravane/region.done -/
theorem c_done (r : Rg) (e : Int) : VPure Try.prog 79 [vR r, I e] (tup [vR (if e = 0 then r else zR), I e]) := by
  intro H
  refine vcall_of_vrun Try.func79 rfl (N := 12) rfl rfl ?_
  refine vseq ?_
  refine vregion ?_
  refine vone rfl (vxa (vbox rfl rfl) rfl rfl (fun b1 => ?_))
  refine vone rfl (vxa valloc rfl rfl (fun b2 => ?_))
  refine vone rfl (vxq (vas rfl) rfl rfl ?_)
  refine vnil ?_
  refine vseq ?_
  refine vseq ?_
  refine vregion ?_
  refine vone rfl (vxq (vmv rfl) rfl rfl ?_)
  refine vone rfl (vxq (vneq rfl rfl) rfl rfl ?_)
  refine vnil ?_
  refine vcondd rfl (fun h7 => ?_) (fun h7 => ?_)
  · skip
    refine vseq ?_
    refine vregion ?_
    refine vone rfl (vxq (vbd rfl rfl) rfl rfl ?_)
    refine vone rfl (vxq (vmv rfl) rfl rfl ?_)
    refine vone rfl (vxs (vstn rfl rfl rfl rfl rfl) rfl ?_)
    refine vone rfl (vxq (vas rfl) rfl rfl ?_)
    refine vnil ?_
    refine vret (vr2 (H' := H) Try.func79 rfl (.celln rfl rfl) (.tmp rfl) (by repeat first | exact .refl _ | refine .cons_cons _ ?_ | refine .cons _ ?_ | exact sl0 _ | refine slA ?_) ?_)
    first | (rw [if_neg h7]; exact ⟨rfl, rfl⟩) | (have h7 := Classical.not_not.1 h7; subst h7; exact ⟨rfl, rfl⟩)
  · skip
    refine vskip ?_
    refine vseq ?_
    refine vregion ?_
    refine vone rfl (vxq (vldn rfl rfl) rfl rfl ?_)
    refine vone rfl (vxq (vcp rfl rfl rfl (c_region_four_region _ _ _ _ _ _ _ _)) rfl rfl ?_)
    refine vone rfl (vxs (vstn rfl rfl rfl rfl rfl) rfl ?_)
    refine vone rfl (vxq (vas rfl) rfl rfl ?_)
    refine vnil ?_
    refine vret (vr2 (H' := H) Try.func79 rfl (.celln rfl rfl) (.tmp rfl) (by repeat first | exact .refl _ | refine .cons_cons _ ?_ | refine .cons _ ?_ | exact sl0 _ | refine slA ?_) ?_)
    first | (rw [if_neg h7]; exact ⟨rfl, rfl⟩) | (have h7 := Classical.not_not.1 h7; subst h7; exact ⟨rfl, rfl⟩)

theorem optE_if (h : Option Rg) : (if (optE h).2 = 0 then (optE h).1 else zR) = (optE h).1 := by
  cases h <;> rfl
theorem chkR_if {e : Int} {r : Rg} (h : e ≠ 0) (he : e = chkR r) : ¬ r.ok := by subst he; exact chkR_nz.1 h

end Go.Proofs.Ytffpfcomikcimaa
