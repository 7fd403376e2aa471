/-
  Walks of the reference's hulls; Tight, of both.
-/
import Derived.Test.YtffpfcomikcimaaWc
namespace Go.Proofs.Ytffpfcomikcimaa
open Go
set_option maxRecDepth 100000

abbrev clH (h : Option Rg) : List Value := [I (h.getD zR).x.lo, I (h.getD zR).x.hi, I (h.getD zR).y.lo, I (h.getD zR).y.hi, I (h.getD zR).s.lo, I (h.getD zR).s.hi, I (h.getD zR).d.lo, I (h.getD zR).d.hi, .bool h.isSome]

/-- paravane/paravaneref01.row -/
theorem c_row (r : Rg) (x : Int) (hs : r.sm 1099511627776) (hx : -2199023255552 ≤ x ∧ x ≤ 2199023255552) : VPure Try.prog 84 [vR r, I x] (vW (rowOf r x)) := by
  unfold Rg.sm Bd.sm at hs
  intro H
  refine vcall_of_vrun Try.func84 rfl (N := 35) rfl rfl ?_
  refine vseq ?_
  refine vregion ?_
  refine vone rfl (vxa (vbox rfl rfl) rfl rfl (fun b1 => ?_))
  refine vone rfl (vxa valloc rfl rfl (fun b2 => ?_))
  refine vnil ?_
  refine vseq ?_
  refine vregion ?_
  refine vone rfl (vxq (vmv rfl) rfl rfl ?_)
  refine vone rfl (vxq (vfa rfl) rfl rfl ?_)
  refine vone rfl (vxq (vfa rfl) rfl rfl ?_)
  refine vone rfl (vxq (vld1 rfl rfl) rfl rfl ?_)
  refine vone rfl (vxq (vfa rfl) rfl rfl ?_)
  refine vone rfl (vxq (vfa rfl) rfl rfl ?_)
  refine vone rfl (vxq (vld1 rfl rfl) rfl rfl ?_)
  refine vone rfl (vxq (vmv rfl) rfl rfl ?_)
  refine vone rfl (vxq (vsub rfl rfl (by unfold InR; omega)) rfl rfl ?_)
  refine vone rfl (vxq (vmv rfl) rfl rfl ?_)
  refine vone rfl (vxq (vfa rfl) rfl rfl ?_)
  refine vone rfl (vxq (vfa rfl) rfl rfl ?_)
  refine vone rfl (vxq (vld1 rfl rfl) rfl rfl ?_)
  refine vone rfl (vxq (vsub rfl rfl (by unfold InR; omega)) rfl rfl ?_)
  refine vone rfl (vxq (vmax3 rfl rfl rfl) rfl rfl ?_)
  refine vone rfl (vxq (vfa rfl) rfl rfl ?_)
  refine vone rfl (vxq (vfa rfl) rfl rfl ?_)
  refine vone rfl (vxq (vld1 rfl rfl) rfl rfl ?_)
  refine vone rfl (vxq (vfa rfl) rfl rfl ?_)
  refine vone rfl (vxq (vfa rfl) rfl rfl ?_)
  refine vone rfl (vxq (vld1 rfl rfl) rfl rfl ?_)
  refine vone rfl (vxq (vmv rfl) rfl rfl ?_)
  refine vone rfl (vxq (vsub rfl rfl (by unfold InR; omega)) rfl rfl ?_)
  refine vone rfl (vxq (vmv rfl) rfl rfl ?_)
  refine vone rfl (vxq (vfa rfl) rfl rfl ?_)
  refine vone rfl (vxq (vfa rfl) rfl rfl ?_)
  refine vone rfl (vxq (vld1 rfl rfl) rfl rfl ?_)
  refine vone rfl (vxq (vsub rfl rfl (by unfold InR; omega)) rfl rfl ?_)
  refine vone rfl (vxq (vmin3 rfl rfl rfl) rfl rfl ?_)
  refine vone rfl (vxq (vbd rfl rfl) rfl rfl ?_)
  refine vone rfl (vxs (vstn rfl rfl rfl rfl rfl) rfl ?_)
  refine vnil ?_
  refine vret (vr1 (H' := H) Try.func84 rfl (.celln rfl rfl) (by repeat first | exact .refl _ | refine .cons_cons _ ?_ | refine .cons _ ?_ | exact sl0 _ | refine slA ?_) ?_)
  exact ⟨rfl, rfl⟩
/-- (*paravane/paravaneref01.Hull).add -/
theorem h_add (h : Option Rg) (p : Pt) (hp : p.sm 1099511627776) (b : Nat) : VHas Try.prog 91 [ptr b, vP p] (tup []) ([(b, blk (clH h) 115)]) ([(b, blk (clH (addP h p)) 115)]) := by
  unfold Pt.sm at hp
  refine vcall_of_vrun Try.func91 rfl (N := 78) rfl rfl ?_
  refine vseq ?_
  refine vregion ?_
  refine vone rfl (vxa (vbox rfl rfl) rfl rfl (fun b1 => ?_))
  refine vnil ?_
  refine vseq ?_
  refine vdraw0 [(.q, 0), (.q, 1), (.q, 2), (.q, 3), (.q, 4), (.q, 5), (.q, 6), (.q, 7), (.q, 8), (.q, 9), (.q, 10), (.q, 11)] Try.mixed (by kernel_rfl) (by kernel_rfl) ?_
  refine vdq (mone rfl) (vfa rfl) rfl rfl ?_
  refine vdq (mone rfl) (vld1 rfl rfl) rfl rfl ?_
  refine vdq (mone rfl) (vfa rfl) rfl rfl ?_
  refine vdq (mone rfl) (vld1 rfl rfl) rfl rfl ?_
  refine vdq (mone rfl) (vadd rfl rfl (by unfold InR; omega)) rfl rfl ?_
  refine vdq (mone rfl) (vfa rfl) rfl rfl ?_
  refine vdq (mone rfl) (vld1 rfl rfl) rfl rfl ?_
  refine vdq (mone rfl) (vfa rfl) rfl rfl ?_
  refine vdq (mone rfl) (vld1 rfl rfl) rfl rfl ?_
  refine vdq (mone rfl) (vsub rfl rfl (by unfold InR; omega)) rfl rfl ?_
  refine vdq (mone rfl) (vas rfl) rfl rfl ?_
  refine vdq (mone rfl) (vas rfl) rfl rfl ?_
  refine vdend rfl ?_
  refine vseq ?_
  refine vseq ?_
  refine vregion ?_
  refine vone rfl (vxq (vmv rfl) rfl rfl ?_)
  refine vone rfl (vxq (vnc rfl) rfl rfl ?_)
  refine vone rfl (vxq (vfa rfl) rfl rfl ?_)
  refine vone rfl (vxq (vld1 rfl rfl) rfl rfl ?_)
  refine vone rfl (vxq (vnot rfl) rfl rfl ?_)
  refine vnil ?_
  refine vcond rfl (fun h20 => ?_) (fun h20 => ?_)
  · skip
    refine vregion ?_
    refine vone rfl (vxq (vmv rfl) rfl rfl ?_)
    refine vone rfl (vxq (vmv rfl) rfl rfl ?_)
    refine vone rfl (vxq (vfa rfl) rfl rfl ?_)
    refine vone rfl (vxq (vld1 rfl rfl) rfl rfl ?_)
    refine vone rfl (vxq (vfa rfl) rfl rfl ?_)
    refine vone rfl (vxq (vld1 rfl rfl) rfl rfl ?_)
    refine vone rfl (vxq (vbd rfl rfl) rfl rfl ?_)
    refine vone rfl (vxq (vfa rfl) rfl rfl ?_)
    refine vone rfl (vxq (vld1 rfl rfl) rfl rfl ?_)
    refine vone rfl (vxq (vfa rfl) rfl rfl ?_)
    refine vone rfl (vxq (vld1 rfl rfl) rfl rfl ?_)
    refine vone rfl (vxq (vbd rfl rfl) rfl rfl ?_)
    refine vone rfl (vxq (vmv rfl) rfl rfl ?_)
    refine vone rfl (vxq (vmv rfl) rfl rfl ?_)
    refine vone rfl (vxq (vbd rfl rfl) rfl rfl ?_)
    refine vone rfl (vxq (vmv rfl) rfl rfl ?_)
    refine vone rfl (vxq (vmv rfl) rfl rfl ?_)
    refine vone rfl (vxq (vbd rfl rfl) rfl rfl ?_)
    refine vone rfl (vxq (vbd rfl rfl) rfl rfl ?_)
    refine vone rfl (vxq (vnc rfl) rfl rfl ?_)
    refine vone rfl (vxq (vfa rfl) rfl rfl ?_)
    refine vone rfl (vxs (vstn rfl rfl rfl rfl rfl) rfl ?_)
    refine vone rfl (vxq (vnc rfl) rfl rfl ?_)
    refine vone rfl (vxq (vfa rfl) rfl rfl ?_)
    refine vone rfl (vxs (vst1 rfl rfl rfl rfl) rfl ?_)
    refine vnil ?_
    refine vdraw0 [(.q, 0), (.q, 1), (.q, 2), (.q, 3), (.q, 4), (.q, 5), (.q, 6), (.q, 7), (.q, 8), (.q, 9), (.q, 10), (.q, 11), (.q, 12), (.q, 13), (.q, 14), (.q, 15), (.q, 16), (.q, 17), (.q, 18), (.q, 19), (.q, 20), (.q, 21), (.q, 22), (.q, 23), (.q, 24), (.q, 25), (.q, 26), (.q, 27), (.q, 28), (.q, 29), (.q, 30), (.q, 31), (.q, 32), (.q, 33), (.c, 34)] Try.mixed (by kernel_rfl) (by kernel_rfl) ?_
    refine vdq (mone rfl) (vmv rfl) rfl rfl ?_
    refine vdq (mone rfl) (vmv rfl) rfl rfl ?_
    refine vdq (mone rfl) (vnc rfl) rfl rfl ?_
    refine vdq (mone rfl) (vfa rfl) rfl rfl ?_
    refine vdq (mone rfl) (vfa rfl) rfl rfl ?_
    refine vdq (mone rfl) (vldn rfl rfl) rfl rfl ?_
    refine vdq (mone rfl) (vfa rfl) rfl rfl ?_
    refine vdq (mone rfl) (vld1 rfl rfl) rfl rfl ?_
    refine vdq (mone rfl) (vcp rfl rfl rfl (c_ref01_with _ _ _)) rfl rfl ?_
    refine vdq (mone rfl) (vmv rfl) rfl rfl ?_
    refine vdq (mone rfl) (vnc rfl) rfl rfl ?_
    refine vdq (mone rfl) (vfa rfl) rfl rfl ?_
    refine vdq (mone rfl) (vfa rfl) rfl rfl ?_
    refine vdq (mone rfl) (vldn rfl rfl) rfl rfl ?_
    refine vdq (mone rfl) (vfa rfl) rfl rfl ?_
    refine vdq (mone rfl) (vld1 rfl rfl) rfl rfl ?_
    refine vdq (mone rfl) (vcp rfl rfl rfl (c_ref01_with _ _ _)) rfl rfl ?_
    refine vdq (mone rfl) (vmv rfl) rfl rfl ?_
    refine vdq (mone rfl) (vnc rfl) rfl rfl ?_
    refine vdq (mone rfl) (vfa rfl) rfl rfl ?_
    refine vdq (mone rfl) (vfa rfl) rfl rfl ?_
    refine vdq (mone rfl) (vldn rfl rfl) rfl rfl ?_
    refine vdq (mone rfl) (vmv rfl) rfl rfl ?_
    refine vdq (mone rfl) (vcp rfl rfl rfl (c_ref01_with _ _ _)) rfl rfl ?_
    refine vdq (mone rfl) (vmv rfl) rfl rfl ?_
    refine vdq (mone rfl) (vnc rfl) rfl rfl ?_
    refine vdq (mone rfl) (vfa rfl) rfl rfl ?_
    refine vdq (mone rfl) (vfa rfl) rfl rfl ?_
    refine vdq (mone rfl) (vldn rfl rfl) rfl rfl ?_
    refine vdq (mone rfl) (vmv rfl) rfl rfl ?_
    refine vdq (mone rfl) (vcp rfl rfl rfl (c_ref01_with _ _ _)) rfl rfl ?_
    refine vdq (mone rfl) (vbd rfl rfl) rfl rfl ?_
    refine vdq (mone rfl) (vnc rfl) rfl rfl ?_
    refine vdq (mone rfl) (vfa rfl) rfl rfl ?_
    refine vdcs (mone rfl) (vstn rfl rfl rfl rfl rfl) rfl ?_
    refine vdend rfl ?_
    refine vend (vr0 (H' := [(b, _)]) Try.func91 rfl  (by repeat first | exact .refl _ | refine .cons_cons _ ?_ | refine .cons _ ?_ | exact sl0 _ | refine slA ?_) ?_)
    first | (have hh := optN h20; subst hh; exact ⟨rfl, rfl⟩) | (obtain ⟨gg, hh⟩ := optS h20; subst hh; exact ⟨rfl, rfl⟩)
  · skip
    refine vskip ?_
    refine vdraw0 [(.q, 0), (.q, 1), (.q, 2), (.q, 3), (.q, 4), (.q, 5), (.q, 6), (.q, 7), (.q, 8), (.q, 9), (.q, 10), (.q, 11), (.q, 12), (.q, 13), (.q, 14), (.q, 15), (.q, 16), (.q, 17), (.q, 18), (.q, 19), (.q, 20), (.q, 21), (.q, 22), (.q, 23), (.q, 24), (.q, 25), (.q, 26), (.q, 27), (.q, 28), (.q, 29), (.q, 30), (.q, 31), (.q, 32), (.q, 33), (.c, 34)] Try.mixed (by kernel_rfl) (by kernel_rfl) ?_
    refine vdq (mone rfl) (vmv rfl) rfl rfl ?_
    refine vdq (mone rfl) (vmv rfl) rfl rfl ?_
    refine vdq (mone rfl) (vnc rfl) rfl rfl ?_
    refine vdq (mone rfl) (vfa rfl) rfl rfl ?_
    refine vdq (mone rfl) (vfa rfl) rfl rfl ?_
    refine vdq (mone rfl) (vldn rfl rfl) rfl rfl ?_
    refine vdq (mone rfl) (vfa rfl) rfl rfl ?_
    refine vdq (mone rfl) (vld1 rfl rfl) rfl rfl ?_
    refine vdq (mone rfl) (vcp rfl rfl rfl (c_ref01_with _ _ _)) rfl rfl ?_
    refine vdq (mone rfl) (vmv rfl) rfl rfl ?_
    refine vdq (mone rfl) (vnc rfl) rfl rfl ?_
    refine vdq (mone rfl) (vfa rfl) rfl rfl ?_
    refine vdq (mone rfl) (vfa rfl) rfl rfl ?_
    refine vdq (mone rfl) (vldn rfl rfl) rfl rfl ?_
    refine vdq (mone rfl) (vfa rfl) rfl rfl ?_
    refine vdq (mone rfl) (vld1 rfl rfl) rfl rfl ?_
    refine vdq (mone rfl) (vcp rfl rfl rfl (c_ref01_with _ _ _)) rfl rfl ?_
    refine vdq (mone rfl) (vmv rfl) rfl rfl ?_
    refine vdq (mone rfl) (vnc rfl) rfl rfl ?_
    refine vdq (mone rfl) (vfa rfl) rfl rfl ?_
    refine vdq (mone rfl) (vfa rfl) rfl rfl ?_
    refine vdq (mone rfl) (vldn rfl rfl) rfl rfl ?_
    refine vdq (mone rfl) (vmv rfl) rfl rfl ?_
    refine vdq (mone rfl) (vcp rfl rfl rfl (c_ref01_with _ _ _)) rfl rfl ?_
    refine vdq (mone rfl) (vmv rfl) rfl rfl ?_
    refine vdq (mone rfl) (vnc rfl) rfl rfl ?_
    refine vdq (mone rfl) (vfa rfl) rfl rfl ?_
    refine vdq (mone rfl) (vfa rfl) rfl rfl ?_
    refine vdq (mone rfl) (vldn rfl rfl) rfl rfl ?_
    refine vdq (mone rfl) (vmv rfl) rfl rfl ?_
    refine vdq (mone rfl) (vcp rfl rfl rfl (c_ref01_with _ _ _)) rfl rfl ?_
    refine vdq (mone rfl) (vbd rfl rfl) rfl rfl ?_
    refine vdq (mone rfl) (vnc rfl) rfl rfl ?_
    refine vdq (mone rfl) (vfa rfl) rfl rfl ?_
    refine vdcs (mone rfl) (vstn rfl rfl rfl rfl rfl) rfl ?_
    refine vdend rfl ?_
    refine vend (vr0 (H' := [(b, _)]) Try.func91 rfl  (by repeat first | exact .refl _ | refine .cons_cons _ ?_ | refine .cons _ ?_ | exact sl0 _ | refine slA ?_) ?_)
    first | (have hh := optN h20; subst hh; exact ⟨rfl, rfl⟩) | (obtain ⟨gg, hh⟩ := optS h20; subst hh; exact ⟨rfl, rfl⟩)

theorem foldl_flat (pre : List Rw) (w : Rw) (h : Option Rg) : ((pre ++ [w]).flatMap endL).foldl addP h = (endL w).foldl addP ((pre.flatMap endL).foldl addP h) := by simp [List.foldl_append]
theorem fold_endL (w : Rw) (h : Option Rg) : (endL w).foldl addP h = addP (addP h ⟨w.x, w.a⟩) ⟨w.x, w.b⟩ := by
  unfold endL; split
  · rename_i e; simp only [List.foldl_cons, List.foldl_nil, e]; exact (addP_twice _ _).symm
  · rfl
abbrev fillH (h : Option Rg) (r : Rg) (x : Int) : Option Rg := ((rowsN r (x - r.x.lo).toNat).flatMap endL).foldl addP h
theorem fillH_0 (h : Option Rg) (r : Rg) : fillH h r r.x.lo = h := by unfold fillH; rw [Int.sub_self]; rfl
theorem fillH_no {h : Option Rg} {r : Rg} {x : Int} (hx : r.x.lo ≤ x) (hab : ¬ (rowOf r x).a ≤ (rowOf r x).b) : fillH h r (x + 1) = fillH h r x := by unfold fillH; rw [rowsN_nil hx hab]
theorem fillH_yes {h : Option Rg} {r : Rg} {x : Int} (hx : r.x.lo ≤ x) (hab : (rowOf r x).a ≤ (rowOf r x).b) : fillH h r (x + 1) = addP (addP (fillH h r x) ⟨x, (rowOf r x).a⟩) ⟨x, (rowOf r x).b⟩ := by
  unfold fillH; rw [rowsN_one hx hab, foldl_flat, fold_endL]; rfl
theorem rowOf_sm {r : Rg} {m x : Int} (hs : r.sm m) (hx : r.x.lo ≤ x ∧ x ≤ r.x.hi) (hab : (rowOf r x).a ≤ (rowOf r x).b) : (⟨x, (rowOf r x).a⟩ : Pt).sm m ∧ (⟨x, (rowOf r x).b⟩ : Pt).sm m := by
  unfold rowOf at *; unfold Rg.sm Bd.sm at hs; unfold Pt.sm; simp only at *; omega
theorem rowOf_x (r : Rg) (x : Int) : rowOf r x = ⟨x, (rowOf r x).a, (rowOf r x).b⟩ := rfl

/-- (*paravane/paravaneref01.Hull).fill -/
theorem h_fill (h : Option Rg) (r : Rg) (hs : r.sm 1099511627776) (b : Nat) : VHas Try.prog 136 [ptr b, vR r] (tup []) ([(b, blk (clH h) 115)]) ([(b, blk (clH ((endsOf r).foldl addP h)) 115)]) := by
  have hs0 := hs
  unfold Rg.sm Bd.sm at hs
  refine vcall_of_vrun Try.func136 rfl (N := 36) rfl rfl ?_
  refine vseq ?_
  refine vregion ?_
  refine vone rfl (vxa (vbox rfl rfl) rfl rfl (fun b1 => ?_))
  refine vnil ?_
  refine vseq ?_
  refine vregion ?_
  refine vone rfl (vxq (vfa rfl) rfl rfl ?_)
  refine vone rfl (vxq (vfa rfl) rfl rfl ?_)
  refine vone rfl (vxq (vld1 rfl rfl) rfl rfl ?_)
  refine vone rfl (vxq (vas rfl) rfl rfl ?_)
  refine vnil ?_
  refine vblock ?_
  refine vwhile (σ := Int) (fun x => (r.x.hi + 1 - x).toNat) (fun x => [(0, ptr b), (3, ptr b1), (4, I x)]) (fun x => [(b1, blk (clR r) 25), (b, blk (clH (fillH h r x)) 115)]) (fun x => r.x.lo ≤ x ∧ (x = r.x.lo ∨ x ≤ r.x.hi + 1)) r.x.lo ⟨by omega, .inl rfl⟩ ⟨rfl, rfl, rfl, True.intro⟩ (by show List.Sublist [(b1, blk (clR r) 25), (b, blk (clH (fillH h r r.x.lo)) 115)] _; rw [fillH_0]; exact (by repeat first | exact .refl _ | refine .cons_cons _ ?_ | refine .cons _ ?_ | exact sl0 _ | refine slA ?_)) ?_
  rintro x ⟨hx1, hx2⟩ IH
  change VRun _ _ _ _ _ [(0, ptr b), (3, ptr b1), (4, I x)] _ ([(b1, blk (clR r) 25), (b, blk (clH (fillH h r x)) 115)]) _
  refine vseq ?_
  refine vseq ?_
  refine vregion ?_
  refine vone rfl (vxq (vmv rfl) rfl rfl ?_)
  refine vone rfl (vxq (vfa rfl) rfl rfl ?_)
  refine vone rfl (vxq (vfa rfl) rfl rfl ?_)
  refine vone rfl (vxq (vld1 rfl rfl) rfl rfl ?_)
  refine vone rfl (vxq (vleq rfl rfl) rfl rfl ?_)
  refine vnil ?_
  refine vcondd rfl (fun h13 => ?_) (fun h13 => ?_)
  · skip
    refine vskip ?_
    refine vseq ?_
    refine vblock ?_
    refine vseq ?_
    refine vregion ?_
    refine vone rfl (vxq (vldn rfl rfl) rfl rfl ?_)
    refine vone rfl (vxq (vmv rfl) rfl rfl ?_)
    refine vone rfl (vxq (vcp rfl rfl rfl (c_row ⟨⟨_, _⟩, ⟨_, _⟩, ⟨_, _⟩, ⟨_, _⟩⟩ _ hs0 (by omega))) rfl rfl ?_)
    refine vone rfl (vxa valloc rfl rfl (fun b2 => ?_))
    refine vone rfl (vxs (vstn rfl rfl rfl rfl rfl) rfl ?_)
    refine vnil ?_
    refine vseq ?_
    refine vregion ?_
    refine vone rfl (vxq (vfa rfl) rfl rfl ?_)
    refine vone rfl (vxq (vld1 rfl rfl) rfl rfl ?_)
    refine vone rfl (vxq (vfa rfl) rfl rfl ?_)
    refine vone rfl (vxq (vld1 rfl rfl) rfl rfl ?_)
    refine vone rfl (vxq (vleq rfl rfl) rfl rfl ?_)
    refine vnil ?_
    refine vcondd rfl (fun h23 => ?_) (fun h23 => ?_)
    · skip
      refine vseq ?_
      refine vregion ?_
      refine vone rfl (vxq (vmv rfl) rfl rfl ?_)
      refine vone rfl (vxq (vmv rfl) rfl rfl ?_)
      refine vone rfl (vxq (vfa rfl) rfl rfl ?_)
      refine vone rfl (vxq (vld1 rfl rfl) rfl rfl ?_)
      refine vone rfl (vxq (vbd rfl rfl) rfl rfl ?_)
      refine vone rfl (vxg (vch rfl rfl rfl ((h_add _ ⟨_, _⟩ (rowOf_sm hs0 ⟨hx1, h13⟩ h23).1 b).at1)) rfl rfl ?_)
      rintro _ _ ⟨rfl, rfl⟩
      refine vnil ?_
      refine vregion ?_
      refine vone rfl (vxq (vmv rfl) rfl rfl ?_)
      refine vone rfl (vxq (vmv rfl) rfl rfl ?_)
      refine vone rfl (vxq (vfa rfl) rfl rfl ?_)
      refine vone rfl (vxq (vld1 rfl rfl) rfl rfl ?_)
      refine vone rfl (vxq (vbd rfl rfl) rfl rfl ?_)
      refine vone rfl (vxg (vch rfl rfl rfl ((h_add _ ⟨_, _⟩ (rowOf_sm hs0 ⟨hx1, h13⟩ h23).2 b).at1)) rfl rfl ?_)
      rintro _ _ ⟨rfl, rfl⟩
      refine vnil ?_
      refine vinblock ?_
      refine vregion ?_
      refine vone rfl (vxq (vmv rfl) rfl rfl ?_)
      refine vone rfl (vxq (vadd rfl rfl (by unfold InR; omega)) rfl rfl ?_)
      refine vone rfl (vxq (vas rfl) rfl rfl ?_)
      refine vnil ?_
      first | exact vback (IH (x + 1) ⟨by omega, by omega⟩ (by show (_ : Int).toNat < (_ : Int).toNat; omega)) ⟨rfl, rfl, rfl, True.intro⟩ (by rw [fillH_yes hx1 (by assumption)]; exact (by repeat first | exact .refl _ | refine .cons_cons _ ?_ | refine .cons _ ?_ | exact sl0 _ | refine slA ?_)) | exact vback (IH (x + 1) ⟨by omega, by omega⟩ (by show (_ : Int).toNat < (_ : Int).toNat; omega)) ⟨rfl, rfl, rfl, True.intro⟩ (by rw [fillH_no hx1 (by assumption)]; exact (by repeat first | exact .refl _ | refine .cons_cons _ ?_ | refine .cons _ ?_ | exact sl0 _ | refine slA ?_))
    · skip
      refine vskip ?_
      refine vinblock ?_
      refine vregion ?_
      refine vone rfl (vxq (vmv rfl) rfl rfl ?_)
      refine vone rfl (vxq (vadd rfl rfl (by unfold InR; omega)) rfl rfl ?_)
      refine vone rfl (vxq (vas rfl) rfl rfl ?_)
      refine vnil ?_
      first | exact vback (IH (x + 1) ⟨by omega, by omega⟩ (by show (_ : Int).toNat < (_ : Int).toNat; omega)) ⟨rfl, rfl, rfl, True.intro⟩ (by rw [fillH_yes hx1 (by assumption)]; exact (by repeat first | exact .refl _ | refine .cons_cons _ ?_ | refine .cons _ ?_ | exact sl0 _ | refine slA ?_)) | exact vback (IH (x + 1) ⟨by omega, by omega⟩ (by show (_ : Int).toNat < (_ : Int).toNat; omega)) ⟨rfl, rfl, rfl, True.intro⟩ (by rw [fillH_no hx1 (by assumption)]; exact (by repeat first | exact .refl _ | refine .cons_cons _ ?_ | refine .cons _ ?_ | exact sl0 _ | refine slA ?_))
  · skip
    refine vexit (k' := _) rfl ?_
    refine vend (vr0 (H' := [(b, _)]) Try.func136 rfl  (by repeat first | exact .refl _ | refine .cons_cons _ ?_ | refine .cons _ ?_ | exact sl0 _ | refine slA ?_) ?_)
    exact ⟨rfl, by unfold endsOf; rw [← rowsN_end hx1 hx2 h13]⟩
/-- paravane/paravaneref01.hulls -/
theorem h_hulls1 (r : Rg) (hs : r.sm 1099511627776) (bs : Nat) : VHas Try.prog 82 [.slice (some ⟨bs, 0, Option.none⟩) 1 1] (tup [vR (optE (tightP r)).1, I (optE (tightP r)).2]) ([(bs, blk (clR r) 25)]) ([(bs, blk (clR r) 25)]) := by
  refine vcall_of_vrun Try.func82 rfl (N := 30) rfl rfl ?_
  refine vseq ?_
  refine vregion ?_
  refine vone rfl (vxa valloc rfl rfl (fun b1 => ?_))
  refine vone rfl (vxq (vas rfl) rfl rfl ?_)
  refine vnil ?_
  refine vseq ?_
  refine vregion ?_
  refine vone rfl (vxq (vbd rfl rfl) rfl rfl ?_)
  refine vone rfl (vxa (vbox (v := .agg (clH Option.none).toArray) rfl rfl) rfl rfl (fun b2 => ?_))
  refine vone rfl (vxq (vas rfl) rfl rfl ?_)
  refine vnil ?_
  refine vseq ?_
  refine vseq ?_
  refine vregion ?_
  refine vone rfl (vxq (vas rfl) rfl rfl ?_)
  refine vnil ?_
  refine vblock ?_
  refine vloop1 ?_
  refine vseq ?_
  refine vseq ?_
  refine vregion ?_
  refine vone rfl (vxq (vmv rfl) rfl rfl ?_)
  refine vone rfl (vxq (vmv rfl) rfl rfl ?_)
  refine vone rfl (vxq (vlen rfl) rfl rfl ?_)
  refine vone rfl (vxq (vlss rfl rfl) rfl rfl ?_)
  refine vnil ?_
  refine vcondt rfl ?_
  refine vskip ?_
  refine vseq ?_
  refine vblock ?_
  refine vregion ?_
  refine vone rfl (vxq (vmv rfl) rfl rfl ?_)
  refine vone rfl (vxq (vmv rfl) rfl rfl ?_)
  refine vone rfl (vxq (vmv rfl) rfl rfl ?_)
  refine vone rfl (vxq (vis rfl rfl (by omega)) rfl rfl ?_)
  refine vone rfl (vxq (vldn rfl rfl) rfl rfl ?_)
  refine vone rfl (vxg (vch rfl rfl rfl ((h_fill _ ⟨⟨_, _⟩, ⟨_, _⟩, ⟨_, _⟩, ⟨_, _⟩⟩ hs b2).at1)) rfl rfl ?_)
  rintro _ _ ⟨rfl, rfl⟩
  refine vnil ?_
  refine vinblock ?_
  refine vregion ?_
  refine vone rfl (vxq (vmv rfl) rfl rfl ?_)
  refine vone rfl (vxq (vadd rfl rfl (by unfold InR; omega)) rfl rfl ?_)
  refine vone rfl (vxq (vas rfl) rfl rfl ?_)
  refine vnil ?_
  refine vinloop1 ?_
  refine vseq ?_
  refine vseq ?_
  refine vregion ?_
  refine vone rfl (vxq (vmv rfl) rfl rfl ?_)
  refine vone rfl (vxq (vmv rfl) rfl rfl ?_)
  refine vone rfl (vxq (vlen rfl) rfl rfl ?_)
  refine vone rfl (vxq (vlss rfl rfl) rfl rfl ?_)
  refine vnil ?_
  refine vcondf rfl ?_
  refine vexit (k' := _) rfl ?_
  refine vseq ?_
  refine vseq ?_
  refine vregion ?_
  refine vone rfl (vxq (vmv rfl) rfl rfl ?_)
  refine vone rfl (vxq (vnc rfl) rfl rfl ?_)
  refine vone rfl (vxq (vfa rfl) rfl rfl ?_)
  refine vone rfl (vxq (vld1 rfl rfl) rfl rfl ?_)
  refine vone rfl (vxq (vnot rfl) rfl rfl ?_)
  refine vnil ?_
  refine vcond rfl (fun h24 => ?_) (fun h24 => ?_)
  · skip
    refine vseq ?_
    refine vregion ?_
    refine vone rfl (vxq (vbd rfl rfl) rfl rfl ?_)
    refine vone rfl (vxs (vstn rfl rfl rfl rfl rfl) rfl ?_)
    refine vone rfl (vxq (vas rfl) rfl rfl ?_)
    refine vnil ?_
    refine vret (vr2 (H' := [(bs, blk (clR r) 25)]) Try.func82 rfl (.celln rfl rfl) (.tmp rfl) (by repeat first | exact .refl _ | refine .cons_cons _ ?_ | refine .cons _ ?_ | exact sl0 _ | refine slA ?_) ?_)
    first | (have hh := optN (h := tightP r) h24; rw [optE_n hh]; exact ⟨rfl, rfl⟩) | (obtain ⟨gg, hh⟩ := optS (h := tightP r) h24; rw [optE_s hh, show (endsOf r).foldl addP Option.none = _ from hh]; exact ⟨rfl, rfl⟩)
  · skip
    refine vskip ?_
    refine vseq ?_
    refine vregion ?_
    refine vone rfl (vxq (vmv rfl) rfl rfl ?_)
    refine vone rfl (vxq (vnc rfl) rfl rfl ?_)
    refine vone rfl (vxq (vfa rfl) rfl rfl ?_)
    refine vone rfl (vxq (vldn rfl rfl) rfl rfl ?_)
    refine vone rfl (vxs (vstn rfl rfl rfl rfl rfl) rfl ?_)
    refine vone rfl (vxq (vas rfl) rfl rfl ?_)
    refine vnil ?_
    refine vret (vr2 (H' := [(bs, blk (clR r) 25)]) Try.func82 rfl (.celln rfl rfl) (.tmp rfl) (by repeat first | exact .refl _ | refine .cons_cons _ ?_ | refine .cons _ ?_ | exact sl0 _ | refine slA ?_) ?_)
    first | (have hh := optN (h := tightP r) h24; rw [optE_n hh]; exact ⟨rfl, rfl⟩) | (obtain ⟨gg, hh⟩ := optS (h := tightP r) h24; rw [optE_s hh, show (endsOf r).foldl addP Option.none = _ from hh]; exact ⟨rfl, rfl⟩)
/-- paravane/paravaneref01.hulls -/
theorem h_hulls2 (a b : Rg) (ha : a.sm 1099511627776) (hb : b.sm 1099511627776) (bs : Nat) : VHas Try.prog 82 [.slice (some ⟨bs, 0, Option.none⟩) 2 2] (tup [vR (optE (hullP (endsOf a ++ endsOf b))).1, I (optE (hullP (endsOf a ++ endsOf b))).2]) ([(bs, blk (app (clR a) (clR b)) 25)]) ([(bs, blk (app (clR a) (clR b)) 25)]) := by
  refine vcall_of_vrun Try.func82 rfl (N := 30) rfl rfl ?_
  refine vseq ?_
  refine vregion ?_
  refine vone rfl (vxa valloc rfl rfl (fun b1 => ?_))
  refine vone rfl (vxq (vas rfl) rfl rfl ?_)
  refine vnil ?_
  refine vseq ?_
  refine vregion ?_
  refine vone rfl (vxq (vbd rfl rfl) rfl rfl ?_)
  refine vone rfl (vxa (vbox (v := .agg (clH Option.none).toArray) rfl rfl) rfl rfl (fun b2 => ?_))
  refine vone rfl (vxq (vas rfl) rfl rfl ?_)
  refine vnil ?_
  refine vseq ?_
  refine vseq ?_
  refine vregion ?_
  refine vone rfl (vxq (vas rfl) rfl rfl ?_)
  refine vnil ?_
  refine vblock ?_
  refine vloop1 ?_
  refine vseq ?_
  refine vseq ?_
  refine vregion ?_
  refine vone rfl (vxq (vmv rfl) rfl rfl ?_)
  refine vone rfl (vxq (vmv rfl) rfl rfl ?_)
  refine vone rfl (vxq (vlen rfl) rfl rfl ?_)
  refine vone rfl (vxq (vlss rfl rfl) rfl rfl ?_)
  refine vnil ?_
  refine vcondt rfl ?_
  refine vskip ?_
  refine vseq ?_
  refine vblock ?_
  refine vregion ?_
  refine vone rfl (vxq (vmv rfl) rfl rfl ?_)
  refine vone rfl (vxq (vmv rfl) rfl rfl ?_)
  refine vone rfl (vxq (vmv rfl) rfl rfl ?_)
  refine vone rfl (vxq (vis rfl rfl (by omega)) rfl rfl ?_)
  refine vone rfl (vxq (vldn rfl rfl) rfl rfl ?_)
  refine vone rfl (vxg (vch rfl rfl rfl ((h_fill _ ⟨⟨_, _⟩, ⟨_, _⟩, ⟨_, _⟩, ⟨_, _⟩⟩ (by first | exact ha | exact hb) b2).at1)) rfl rfl ?_)
  rintro _ _ ⟨rfl, rfl⟩
  refine vnil ?_
  refine vinblock ?_
  refine vregion ?_
  refine vone rfl (vxq (vmv rfl) rfl rfl ?_)
  refine vone rfl (vxq (vadd rfl rfl (by unfold InR; omega)) rfl rfl ?_)
  refine vone rfl (vxq (vas rfl) rfl rfl ?_)
  refine vnil ?_
  refine vinloop1 ?_
  refine vseq ?_
  refine vseq ?_
  refine vregion ?_
  refine vone rfl (vxq (vmv rfl) rfl rfl ?_)
  refine vone rfl (vxq (vmv rfl) rfl rfl ?_)
  refine vone rfl (vxq (vlen rfl) rfl rfl ?_)
  refine vone rfl (vxq (vlss rfl rfl) rfl rfl ?_)
  refine vnil ?_
  refine vcondt rfl ?_
  refine vskip ?_
  refine vseq ?_
  refine vblock ?_
  refine vregion ?_
  refine vone rfl (vxq (vmv rfl) rfl rfl ?_)
  refine vone rfl (vxq (vmv rfl) rfl rfl ?_)
  refine vone rfl (vxq (vmv rfl) rfl rfl ?_)
  refine vone rfl (vxq (vis rfl rfl (by omega)) rfl rfl ?_)
  refine vone rfl (vxq (vldn rfl rfl) rfl rfl ?_)
  refine vone rfl (vxg (vch rfl rfl rfl ((h_fill _ ⟨⟨_, _⟩, ⟨_, _⟩, ⟨_, _⟩, ⟨_, _⟩⟩ (by first | exact ha | exact hb) b2).at1)) rfl rfl ?_)
  rintro _ _ ⟨rfl, rfl⟩
  refine vnil ?_
  refine vinblock ?_
  refine vregion ?_
  refine vone rfl (vxq (vmv rfl) rfl rfl ?_)
  refine vone rfl (vxq (vadd rfl rfl (by unfold InR; omega)) rfl rfl ?_)
  refine vone rfl (vxq (vas rfl) rfl rfl ?_)
  refine vnil ?_
  refine vinloop1 ?_
  refine vseq ?_
  refine vseq ?_
  refine vregion ?_
  refine vone rfl (vxq (vmv rfl) rfl rfl ?_)
  refine vone rfl (vxq (vmv rfl) rfl rfl ?_)
  refine vone rfl (vxq (vlen rfl) rfl rfl ?_)
  refine vone rfl (vxq (vlss rfl rfl) rfl rfl ?_)
  refine vnil ?_
  refine vcondf rfl ?_
  refine vexit (k' := _) rfl ?_
  refine vseq ?_
  refine vseq ?_
  refine vregion ?_
  refine vone rfl (vxq (vmv rfl) rfl rfl ?_)
  refine vone rfl (vxq (vnc rfl) rfl rfl ?_)
  refine vone rfl (vxq (vfa rfl) rfl rfl ?_)
  refine vone rfl (vxq (vld1 rfl rfl) rfl rfl ?_)
  refine vone rfl (vxq (vnot rfl) rfl rfl ?_)
  refine vnil ?_
  refine vcond rfl (fun h24 => ?_) (fun h24 => ?_)
  · skip
    refine vseq ?_
    refine vregion ?_
    refine vone rfl (vxq (vbd rfl rfl) rfl rfl ?_)
    refine vone rfl (vxs (vstn rfl rfl rfl rfl rfl) rfl ?_)
    refine vone rfl (vxq (vas rfl) rfl rfl ?_)
    refine vnil ?_
    refine vret (vr2 (H' := [(bs, blk (app (clR a) (clR b)) 25)]) Try.func82 rfl (.celln rfl rfl) (.tmp rfl) (by repeat first | exact .refl _ | refine .cons_cons _ ?_ | refine .cons _ ?_ | exact sl0 _ | refine slA ?_) ?_)
    first | (have hh := optN (h := (endsOf b).foldl addP ((endsOf a).foldl addP Option.none)) h24; rw [optE_n (show hullP (endsOf a ++ endsOf b) = _ by unfold hullP; rw [List.foldl_append]; exact hh)]; exact ⟨rfl, rfl⟩) | (obtain ⟨gg, hh⟩ := optS (h := (endsOf b).foldl addP ((endsOf a).foldl addP Option.none)) h24; rw [optE_s (show hullP (endsOf a ++ endsOf b) = _ by unfold hullP; rw [List.foldl_append]; exact hh), show (endsOf b).foldl addP ((endsOf a).foldl addP Option.none) = _ from hh]; exact ⟨rfl, rfl⟩)
  · skip
    refine vskip ?_
    refine vseq ?_
    refine vregion ?_
    refine vone rfl (vxq (vmv rfl) rfl rfl ?_)
    refine vone rfl (vxq (vnc rfl) rfl rfl ?_)
    refine vone rfl (vxq (vfa rfl) rfl rfl ?_)
    refine vone rfl (vxq (vldn rfl rfl) rfl rfl ?_)
    refine vone rfl (vxs (vstn rfl rfl rfl rfl rfl) rfl ?_)
    refine vone rfl (vxq (vas rfl) rfl rfl ?_)
    refine vnil ?_
    refine vret (vr2 (H' := [(bs, blk (app (clR a) (clR b)) 25)]) Try.func82 rfl (.celln rfl rfl) (.tmp rfl) (by repeat first | exact .refl _ | refine .cons_cons _ ?_ | refine .cons _ ?_ | exact sl0 _ | refine slA ?_) ?_)
    first | (have hh := optN (h := (endsOf b).foldl addP ((endsOf a).foldl addP Option.none)) h24; rw [optE_n (show hullP (endsOf a ++ endsOf b) = _ by unfold hullP; rw [List.foldl_append]; exact hh)]; exact ⟨rfl, rfl⟩) | (obtain ⟨gg, hh⟩ := optS (h := (endsOf b).foldl addP ((endsOf a).foldl addP Option.none)) h24; rw [optE_s (show hullP (endsOf a ++ endsOf b) = _ by unfold hullP; rw [List.foldl_append]; exact hh), show (endsOf b).foldl addP ((endsOf a).foldl addP Option.none) = _ from hh]; exact ⟨rfl, rfl⟩)
/-- paravane/paravaneref01.Check -/
theorem c_ref_Check (r : Rg) : VPure Try.prog 71 [vR r] (I (chkR r)) := by
  intro H
  refine vcall_of_vrun Try.func71 rfl (N := 25) rfl rfl ?_
  refine vseq ?_
  refine vregion ?_
  refine vone rfl (vxa (vbox rfl rfl) rfl rfl (fun b1 => ?_))
  refine vone rfl (vxq (vas rfl) rfl rfl ?_)
  refine vnil ?_
  refine vseq ?_
  refine vseq ?_
  refine vregion ?_
  refine vone rfl (vxq (vfa rfl) rfl rfl ?_)
  refine vone rfl (vxq (vldn rfl rfl) rfl rfl ?_)
  refine vone rfl (vxq (vcp rfl rfl rfl (c_ref01_ends _ _ _ (by omega))) rfl rfl ?_)
  refine vone rfl (vxq (vnotd rfl) rfl rfl ?_)
  refine vone rfl (vxq (vmv rfl) rfl rfl ?_)
  refine vsplitd (d := 7) rfl (fun h7 => ?_) (fun h7 => ?_)
  · skip
    refine vno rfl rfl rfl rfl rfl ?_
    refine vno rfl rfl rfl rfl rfl ?_
    refine vno rfl rfl rfl rfl rfl ?_
    refine vno rfl rfl rfl rfl rfl ?_
    refine vone rfl (vxq (vpkt rfl rfl) rfl rfl ?_)
    refine vone rfl (vxq (vmv rfl) rfl rfl ?_)
    refine vno rfl rfl rfl rfl rfl ?_
    refine vno rfl rfl rfl rfl rfl ?_
    refine vno rfl rfl rfl rfl rfl ?_
    refine vno rfl rfl rfl rfl rfl ?_
    refine vone rfl (vxq (vpkt rfl rfl) rfl rfl ?_)
    refine vone rfl (vxq (vmv rfl) rfl rfl ?_)
    refine vno rfl rfl rfl rfl rfl ?_
    refine vno rfl rfl rfl rfl rfl ?_
    refine vno rfl rfl rfl rfl rfl ?_
    refine vno rfl rfl rfl rfl rfl ?_
    refine vone rfl (vxq (vpkt rfl rfl) rfl rfl ?_)
    refine vnil ?_
    refine vcondt rfl ?_
    refine vseq ?_
    refine vregion ?_
    refine vone rfl (vxq (vas rfl) rfl rfl ?_)
    refine vnil ?_
    refine vret (vr1 (H' := H) Try.func71 rfl (.tmp rfl) (by repeat first | exact .refl _ | refine .cons_cons _ ?_ | refine .cons _ ?_ | exact sl0 _ | refine slA ?_) ?_)
    first | exact ⟨oI (chkR_no (by unfold Rg.ok Bd.fits; omega)).symm, rfl⟩ | exact ⟨oI (chkR_ok (by unfold Rg.ok Bd.fits; omega)).symm, rfl⟩
  · skip
    refine vyes rfl rfl rfl (vxq (vfa rfl) rfl rfl ?_)
    refine vyes rfl rfl rfl (vxq (vldn rfl rfl) rfl rfl ?_)
    refine vyes rfl rfl rfl (vxq (vcp rfl rfl rfl (c_ref01_ends _ _ _ (by omega))) rfl rfl ?_)
    refine vyes rfl rfl rfl (vxq (vnotd rfl) rfl rfl ?_)
    refine vone rfl (vxq (vpkf rfl rfl) rfl rfl ?_)
    refine vone rfl (vxq (vmv rfl) rfl rfl ?_)
    refine vsplitd (d := 13) rfl (fun h13 => ?_) (fun h13 => ?_)
    · skip
      refine vno rfl rfl rfl rfl rfl ?_
      refine vno rfl rfl rfl rfl rfl ?_
      refine vno rfl rfl rfl rfl rfl ?_
      refine vno rfl rfl rfl rfl rfl ?_
      refine vone rfl (vxq (vpkt rfl rfl) rfl rfl ?_)
      refine vone rfl (vxq (vmv rfl) rfl rfl ?_)
      refine vno rfl rfl rfl rfl rfl ?_
      refine vno rfl rfl rfl rfl rfl ?_
      refine vno rfl rfl rfl rfl rfl ?_
      refine vno rfl rfl rfl rfl rfl ?_
      refine vone rfl (vxq (vpkt rfl rfl) rfl rfl ?_)
      refine vnil ?_
      refine vcondt rfl ?_
      refine vseq ?_
      refine vregion ?_
      refine vone rfl (vxq (vas rfl) rfl rfl ?_)
      refine vnil ?_
      refine vret (vr1 (H' := H) Try.func71 rfl (.tmp rfl) (by repeat first | exact .refl _ | refine .cons_cons _ ?_ | refine .cons _ ?_ | exact sl0 _ | refine slA ?_) ?_)
      first | exact ⟨oI (chkR_no (by unfold Rg.ok Bd.fits; omega)).symm, rfl⟩ | exact ⟨oI (chkR_ok (by unfold Rg.ok Bd.fits; omega)).symm, rfl⟩
    · skip
      refine vyes rfl rfl rfl (vxq (vfa rfl) rfl rfl ?_)
      refine vyes rfl rfl rfl (vxq (vldn rfl rfl) rfl rfl ?_)
      refine vyes rfl rfl rfl (vxq (vcp rfl rfl rfl (c_ref01_ends _ _ _ (by omega))) rfl rfl ?_)
      refine vyes rfl rfl rfl (vxq (vnotd rfl) rfl rfl ?_)
      refine vone rfl (vxq (vpkf rfl rfl) rfl rfl ?_)
      refine vone rfl (vxq (vmv rfl) rfl rfl ?_)
      refine vsplitd (d := 19) rfl (fun h19 => ?_) (fun h19 => ?_)
      · skip
        refine vno rfl rfl rfl rfl rfl ?_
        refine vno rfl rfl rfl rfl rfl ?_
        refine vno rfl rfl rfl rfl rfl ?_
        refine vno rfl rfl rfl rfl rfl ?_
        refine vone rfl (vxq (vpkt rfl rfl) rfl rfl ?_)
        refine vnil ?_
        refine vcondt rfl ?_
        refine vseq ?_
        refine vregion ?_
        refine vone rfl (vxq (vas rfl) rfl rfl ?_)
        refine vnil ?_
        refine vret (vr1 (H' := H) Try.func71 rfl (.tmp rfl) (by repeat first | exact .refl _ | refine .cons_cons _ ?_ | refine .cons _ ?_ | exact sl0 _ | refine slA ?_) ?_)
        first | exact ⟨oI (chkR_no (by unfold Rg.ok Bd.fits; omega)).symm, rfl⟩ | exact ⟨oI (chkR_ok (by unfold Rg.ok Bd.fits; omega)).symm, rfl⟩
      · skip
        refine vyes rfl rfl rfl (vxq (vfa rfl) rfl rfl ?_)
        refine vyes rfl rfl rfl (vxq (vldn rfl rfl) rfl rfl ?_)
        refine vyes rfl rfl rfl (vxq (vcp rfl rfl rfl (c_ref01_ends _ _ _ (by omega))) rfl rfl ?_)
        refine vyes rfl rfl rfl (vxq (vnotd rfl) rfl rfl ?_)
        refine vone rfl (vxq (vpkf rfl rfl) rfl rfl ?_)
        refine vnil ?_
        refine vcondd rfl (fun h24 => ?_) (fun h24 => ?_)
        · skip
          refine vseq ?_
          refine vregion ?_
          refine vone rfl (vxq (vas rfl) rfl rfl ?_)
          refine vnil ?_
          refine vret (vr1 (H' := H) Try.func71 rfl (.tmp rfl) (by repeat first | exact .refl _ | refine .cons_cons _ ?_ | refine .cons _ ?_ | exact sl0 _ | refine slA ?_) ?_)
          first | exact ⟨oI (chkR_no (by unfold Rg.ok Bd.fits; omega)).symm, rfl⟩ | exact ⟨oI (chkR_ok (by unfold Rg.ok Bd.fits; omega)).symm, rfl⟩
        · skip
          refine vskip ?_
          refine vseq ?_
          refine vregion ?_
          refine vone rfl (vxq (vas rfl) rfl rfl ?_)
          refine vnil ?_
          refine vret (vr1 (H' := H) Try.func71 rfl (.tmp rfl) (by repeat first | exact .refl _ | refine .cons_cons _ ?_ | refine .cons _ ?_ | exact sl0 _ | refine slA ?_) ?_)
          first | exact ⟨oI (chkR_no (by unfold Rg.ok Bd.fits; omega)).symm, rfl⟩ | exact ⟨oI (chkR_ok (by unfold Rg.ok Bd.fits; omega)).symm, rfl⟩
/-- paravane/paravaneref01.place -/
theorem c_place (p : Pt) : VPure Try.prog 90 [vP p] (.bool (decide p.ok)) := by
  intro H
  refine vcall_of_vrun Try.func90 rfl (N := 11) rfl rfl ?_
  refine vseq ?_
  refine vregion ?_
  refine vone rfl (vxa (vbox rfl rfl) rfl rfl (fun b1 => ?_))
  refine vone rfl (vxq (vas rfl) rfl rfl ?_)
  refine vnil ?_
  refine vseq ?_
  refine vregion ?_
  refine vone rfl (vxq (vfa rfl) rfl rfl ?_)
  refine vone rfl (vxq (vld1 rfl rfl) rfl rfl ?_)
  refine vone rfl (vxq (vcp rfl rfl rfl (c_ref00_Between _ _ _)) rfl rfl ?_)
  refine vone rfl (vxq (vmv rfl) rfl rfl ?_)
  refine vsplitd (d := 6) rfl (fun h6 => ?_) (fun h6 => ?_)
  · skip
    refine vyes rfl rfl rfl (vxq (vfa rfl) rfl rfl ?_)
    refine vyes rfl rfl rfl (vxq (vld1 rfl rfl) rfl rfl ?_)
    refine vyes rfl rfl rfl (vxq (vcp rfl rfl rfl (c_ref00_Between _ _ _)) rfl rfl ?_)
    refine vone rfl (vxq (vpkt rfl rfl) rfl rfl ?_)
    refine vone rfl (vxq (vas rfl) rfl rfl ?_)
    refine vnil ?_
    refine vret (vr1 (H' := H) Try.func90 rfl (.tmp rfl) (by repeat first | exact .refl _ | refine .cons_cons _ ?_ | refine .cons _ ?_ | exact sl0 _ | refine slA ?_) ?_)
    first | exact ⟨obt (by unfold Pt.ok; omega), rfl⟩ | exact ⟨obf (by unfold Pt.ok; omega), rfl⟩ | exact ⟨obd (by unfold Pt.ok; omega), rfl⟩
  · skip
    refine vno rfl rfl rfl rfl rfl ?_
    refine vno rfl rfl rfl rfl rfl ?_
    refine vno rfl rfl rfl rfl rfl ?_
    refine vone rfl (vxq (vpkf rfl rfl) rfl rfl ?_)
    refine vone rfl (vxq (vas rfl) rfl rfl ?_)
    refine vnil ?_
    refine vret (vr1 (H' := H) Try.func90 rfl (.tmp rfl) (by repeat first | exact .refl _ | refine .cons_cons _ ?_ | refine .cons _ ?_ | exact sl0 _ | refine slA ?_) ?_)
    first | exact ⟨obt (by unfold Pt.ok; omega), rfl⟩ | exact ⟨obf (by unfold Pt.ok; omega), rfl⟩ | exact ⟨obd (by unfold Pt.ok; omega), rfl⟩
/-- paravane/paravaneref01.CheckPoint -/
theorem c_ref_CheckPoint (p : Pt) : VPure Try.prog 69 [vP p] (I (chkP p)) := by
  intro H
  refine vcall_of_vrun Try.func69 rfl (N := 6) rfl rfl ?_
  refine vseq ?_
  refine vregion ?_
  refine vone rfl (vxa (vbox rfl rfl) rfl rfl (fun b1 => ?_))
  refine vone rfl (vxq (vas rfl) rfl rfl ?_)
  refine vnil ?_
  refine vseq ?_
  refine vseq ?_
  refine vregion ?_
  refine vone rfl (vxq (vldn rfl rfl) rfl rfl ?_)
  refine vone rfl (vxq (vcp rfl rfl rfl (c_place ⟨_, _⟩)) rfl rfl ?_)
  refine vone rfl (vxq (vnotd rfl) rfl rfl ?_)
  refine vnil ?_
  refine vcondd rfl (fun h5 => ?_) (fun h5 => ?_)
  · skip
    refine vseq ?_
    refine vregion ?_
    refine vone rfl (vxq (vas rfl) rfl rfl ?_)
    refine vnil ?_
    refine vret (vr1 (H' := H) Try.func69 rfl (.tmp rfl) (by repeat first | exact .refl _ | refine .cons_cons _ ?_ | refine .cons _ ?_ | exact sl0 _ | refine slA ?_) ?_)
    first | exact ⟨oI (chkP_no (by omega)).symm, rfl⟩ | exact ⟨oI (chkP_zero.2 (by omega)).symm, rfl⟩ | exact ⟨oI (chkP_no (by assumption)).symm, rfl⟩ | exact ⟨oI (chkP_zero.2 (by first | assumption | exact Classical.not_not.1 (by assumption))).symm, rfl⟩
  · skip
    refine vskip ?_
    refine vseq ?_
    refine vregion ?_
    refine vone rfl (vxq (vas rfl) rfl rfl ?_)
    refine vnil ?_
    refine vret (vr1 (H' := H) Try.func69 rfl (.tmp rfl) (by repeat first | exact .refl _ | refine .cons_cons _ ?_ | refine .cons _ ?_ | exact sl0 _ | refine slA ?_) ?_)
    first | exact ⟨oI (chkP_no (by omega)).symm, rfl⟩ | exact ⟨oI (chkP_zero.2 (by omega)).symm, rfl⟩ | exact ⟨oI (chkP_no (by assumption)).symm, rfl⟩ | exact ⟨oI (chkP_zero.2 (by first | assumption | exact Classical.not_not.1 (by assumption))).symm, rfl⟩

theorem tightE_no {r : Rg} (h : ¬ r.ok) : tightE r = (zR, chkR r) := by rw [tightE, if_neg h, chkR_no h]
theorem tightE_ok {r : Rg} (h : ¬ chkR r ≠ 0) : tightE r = optE (tightP r) := if_pos (chkR_zero.1 (Classical.not_not.1 h))
theorem ok_of {r : Rg} (h : ¬ chkR r ≠ 0) : r.ok := chkR_zero.1 (Classical.not_not.1 h)
theorem sm_of {r : Rg} (h : ¬ chkR r ≠ 0) : r.sm 1099511627776 := (ok_of h).sm.mono (by decide)

/-- paravane/region.Tight -/
theorem c_Tight (r : Rg) : VPure Try.prog 20 [vR r] (tup [vR (tightE r).1, I (tightE r).2]) := by
  intro H
  refine vcall_of_vrun Try.func20 rfl (N := 19) rfl rfl ?_
  refine vseq ?_
  refine vregion ?_
  refine vone rfl (vxa (vbox rfl rfl) rfl rfl (fun b1 => ?_))
  refine vone rfl (vxa valloc rfl rfl (fun b2 => ?_))
  refine vone rfl (vxq (vas rfl) rfl rfl ?_)
  refine vnil ?_
  refine vseq ?_
  refine vseq ?_
  refine vregion ?_
  refine vone rfl (vxq (vldn rfl rfl) rfl rfl ?_)
  refine vone rfl (vxq (vcp rfl rfl rfl (c_region_Check ⟨⟨_, _⟩, ⟨_, _⟩, ⟨_, _⟩, ⟨_, _⟩⟩)) rfl rfl ?_)
  refine vone rfl (vxq (vas rfl) rfl rfl ?_)
  refine vnil ?_
  refine vseq ?_
  refine vregion ?_
  refine vone rfl (vxq (vmv rfl) rfl rfl ?_)
  refine vone rfl (vxq (vneq rfl rfl) rfl rfl ?_)
  refine vnil ?_
  refine vcondd rfl (fun h8 => ?_) (fun h8 => ?_)
  · skip
    refine vseq ?_
    refine vregion ?_
    refine vone rfl (vxq (vbd rfl rfl) rfl rfl ?_)
    refine vone rfl (vxq (vmv rfl) rfl rfl ?_)
    refine vone rfl (vxs (vstn rfl rfl rfl rfl rfl) rfl ?_)
    refine vone rfl (vxq (vas rfl) rfl rfl ?_)
    refine vnil ?_
    refine vret (vr2 (H' := H) Try.func20 rfl (.celln rfl rfl) (.tmp rfl) (by repeat first | exact .refl _ | refine .cons_cons _ ?_ | refine .cons _ ?_ | exact sl0 _ | refine slA ?_) ?_)
    first | (rw [tightE_no (chkR_nz.1 h8)]; exact ⟨rfl, rfl⟩) | (rw [tightE_ok h8]; exact ⟨rfl, rfl⟩)
  · skip
    refine vskip ?_
    refine vseq ?_
    refine vregion ?_
    refine vone rfl (vxq (vldn rfl rfl) rfl rfl ?_)
    refine vone rfl (vxq (vcp rfl rfl rfl (c_region_bounds _ _ _ _ _ _ _ _)) rfl rfl ?_)
    refine vone rfl (vxq (vcp rfl rfl rfl (c_tight ⟨⟨_, _⟩, ⟨_, _⟩, ⟨_, _⟩, ⟨_, _⟩⟩ (sm_of h8))) rfl rfl ?_)
    refine vone rfl (vxq (vex rfl rfl) rfl rfl ?_)
    refine vone rfl (vxq (vex rfl rfl) rfl rfl ?_)
    refine vone rfl (vxq (vcp rfl rfl rfl ((c_done (optE (tightP r)).1 (optE (tightP r)).2).cong (by rw [optE_if]))) rfl rfl ?_)
    refine vone rfl (vxq (vex rfl rfl) rfl rfl ?_)
    refine vone rfl (vxq (vex rfl rfl) rfl rfl ?_)
    refine vone rfl (vxs (vstn rfl rfl rfl rfl rfl) rfl ?_)
    refine vone rfl (vxq (vas rfl) rfl rfl ?_)
    refine vnil ?_
    refine vret (vr2 (H' := H) Try.func20 rfl (.celln rfl rfl) (.tmp rfl) (by repeat first | exact .refl _ | refine .cons_cons _ ?_ | refine .cons _ ?_ | exact sl0 _ | refine slA ?_) ?_)
    first | (rw [tightE_no (chkR_nz.1 h8)]; exact ⟨rfl, rfl⟩) | (rw [tightE_ok h8]; exact ⟨rfl, rfl⟩)
/-- paravane/paravaneref01.Tight -/
theorem c_ref_Tight (r : Rg) : VPure Try.prog 21 [vR r] (tup [vR (tightE r).1, I (tightE r).2]) := by
  intro H
  refine vcall_of_vrun Try.func21 rfl (N := 16) rfl rfl ?_
  refine vseq ?_
  refine vregion ?_
  refine vone rfl (vxa (vbox rfl rfl) rfl rfl (fun b1 => ?_))
  refine vone rfl (vxa valloc rfl rfl (fun b2 => ?_))
  refine vone rfl (vxq (vas rfl) rfl rfl ?_)
  refine vnil ?_
  refine vseq ?_
  refine vseq ?_
  refine vregion ?_
  refine vone rfl (vxq (vldn rfl rfl) rfl rfl ?_)
  refine vone rfl (vxq (vcp rfl rfl rfl (c_ref_Check ⟨⟨_, _⟩, ⟨_, _⟩, ⟨_, _⟩, ⟨_, _⟩⟩)) rfl rfl ?_)
  refine vone rfl (vxq (vas rfl) rfl rfl ?_)
  refine vnil ?_
  refine vseq ?_
  refine vregion ?_
  refine vone rfl (vxq (vmv rfl) rfl rfl ?_)
  refine vone rfl (vxq (vneq rfl rfl) rfl rfl ?_)
  refine vnil ?_
  refine vcondd rfl (fun h8 => ?_) (fun h8 => ?_)
  · skip
    refine vseq ?_
    refine vregion ?_
    refine vone rfl (vxq (vbd rfl rfl) rfl rfl ?_)
    refine vone rfl (vxq (vmv rfl) rfl rfl ?_)
    refine vone rfl (vxs (vstn rfl rfl rfl rfl rfl) rfl ?_)
    refine vone rfl (vxq (vas rfl) rfl rfl ?_)
    refine vnil ?_
    refine vret (vr2 (H' := H) Try.func21 rfl (.celln rfl rfl) (.tmp rfl) (by repeat first | exact .refl _ | refine .cons_cons _ ?_ | refine .cons _ ?_ | exact sl0 _ | refine slA ?_) ?_)
    first | (rw [tightE_no (chkR_nz.1 h8)]; exact ⟨rfl, rfl⟩) | (rw [tightE_ok h8]; exact ⟨rfl, rfl⟩)
  · skip
    refine vskip ?_
    refine vseq ?_
    refine vregion ?_
    refine vone rfl (vxq (vldn rfl rfl) rfl rfl ?_)
    refine vone rfl (vxg (vbs rfl rfl rfl rfl rfl rfl) rfl rfl ?_)
    rintro _ _ ⟨b3, rfl, rfl⟩
    refine vone rfl (vxq (vcq rfl rfl rfl ((h_hulls1 r (sm_of h8) b3).fr1)) rfl rfl ?_)
    refine vone rfl (vxq (vex rfl rfl) rfl rfl ?_)
    refine vone rfl (vxq (vex rfl rfl) rfl rfl ?_)
    refine vone rfl (vxs (vstn rfl rfl rfl rfl rfl) rfl ?_)
    refine vone rfl (vxq (vas rfl) rfl rfl ?_)
    refine vnil ?_
    refine vret (vr2 (H' := H) Try.func21 rfl (.celln rfl rfl) (.tmp rfl) (by repeat first | exact .refl _ | refine .cons_cons _ ?_ | refine .cons _ ?_ | exact sl0 _ | refine slA ?_) ?_)
    first | (rw [tightE_no (chkR_nz.1 h8)]; exact ⟨rfl, rfl⟩) | (rw [tightE_ok h8]; exact ⟨rfl, rfl⟩)
end Go.Proofs.Ytffpfcomikcimaa
