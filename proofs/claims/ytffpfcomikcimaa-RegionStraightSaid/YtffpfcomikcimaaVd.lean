/-
  The walk of RegionStraight.
-/
import Derived.Test.YtffpfcomikcimaaWz
namespace Go.Proofs.Ytffpfcomikcimaa
open Go
set_option maxRecDepth 100000
attribute [local irreducible] tightP hullP rootP farP rows endsOf sqL sqP twoE pickL srch cutsOf clashE ofE tightE meetE sumE sweptE reachE cntE extE distE moveE gapE coversE hitE joinE minusE hasE restP rootE inE

theorem tdiv2_bd {a : Int} (h : -65536 ≤ a ∧ a ≤ 65536) : -65536 ≤ a.tdiv 2 ∧ a.tdiv 2 ≤ 65536 := by
  have := tdiv_m a 2
  rcases Int.le_total 0 a with h0 | h0
  · have h1 := Int.tmod_nonneg 2 h0
    have h2 := Int.tmod_lt_of_pos a (show (0 : Int) < 2 by decide)
    omega
  · have h1 := Int.tmod_nonneg 2 (show 0 ≤ -a by omega)
    have h2 := Int.tmod_lt_of_pos (-a) (show (0 : Int) < 2 by decide)
    rw [Int.neg_tmod] at h1 h2
    omega
theorem half_fin {f : List Pt} {p h : Pt} (hf : fieldB f = true) (hp : p.ok) (hh : h.ok) (ip : inF f p = true) (ih : inF f h = true) (e1 : (p.x + h.x).tmod 2 = 0) (e2 : (p.y + h.y).tmod 2 = 0) : inE f ⟨(p.x + h.x).tdiv 2, (p.y + h.y).tdiv 2⟩ = (true, 0) := by
  have a1 := tdiv_m (p.x + h.x) 2
  have a2 := tdiv_m (p.y + h.y) 2
  rw [e1] at a1
  rw [e2] at a2
  rw [inE_ok hf (by unfold Pt.ok at *; simp only; omega), half_in ip ih (h := ⟨(p.x + h.x).tdiv 2, (p.y + h.y).tdiv 2⟩) (by simp only; omega) (by simp only; omega)]
theorem chkF_of {f : List Pt} (h : fieldB f = true) : chkF f = 0 := if_pos h

/-- paravane/paravanelaw01.RegionStraight -/
theorem l_Straight0 (f : List Pt) (oa : Option Addr) (n c : Nat) (hn : f.length = n) (hmax : n ≤ 9223372036854775807) (r t : Rg) (n0 n1 n2 n3 e : Int) (h1 : tightE r = (t, e)) (he : e ≠ 0 ∨ chkF f ≠ 0) (H : Heap) [SlO H oa 2 encP f] : VHas Try.prog 16 [sli oa n c, vR r, .agg [I n0, I n1, I n2, I n3].toArray] (.bool true) H H := by
  refine vcall_of_vrun Try.func16 rfl (N := 189) rfl rfl ?_
  refine vseq ?_
  refine vregion ?_
  refine vone rfl (vxa (vbox rfl rfl) rfl rfl (fun b1 => ?_))
  refine vone rfl (vxa (vbox rfl rfl) rfl rfl (fun b2 => ?_))
  refine vone rfl (vxq (vas rfl) rfl rfl ?_)
  refine vnil ?_
  refine vseq ?_
  refine vregion ?_
  refine vone rfl (vxq (vldn rfl rfl) rfl rfl ?_)
  refine vone rfl (vxq (vcp rfl rfl rfl ((c_Tight r).reR h1)) rfl rfl ?_)
  refine vone rfl (vxq (vmv rfl) rfl rfl ?_)
  refine vone rfl (vxq (vex rfl rfl) rfl rfl ?_)
  refine vone rfl (vxq (vex rfl rfl) rfl rfl ?_)
  refine vone rfl (vxa valloc rfl rfl (fun b3 => ?_))
  refine vone rfl (vxs (vstn rfl rfl rfl rfl rfl) rfl ?_)
  refine vone rfl (vxq (vas rfl) rfl rfl ?_)
  refine vnil ?_
  refine vseq ?_
  refine vseq ?_
  refine vregion ?_
  refine vone rfl (vxq (vmv rfl) rfl rfl ?_)
  refine vone rfl (vxq (vneq rfl rfl) rfl rfl ?_)
  refine vone rfl (vxq (vmv rfl) rfl rfl ?_)
  refine vsplitd (d := 28) rfl (fun h28 => ?_) (fun h28 => ?_)
  · skip
    refine vno rfl rfl rfl rfl rfl ?_
    refine vno rfl rfl rfl rfl rfl ?_
    refine vno rfl rfl rfl rfl rfl ?_
    refine vone rfl (vxq (vpkt rfl rfl) rfl rfl ?_)
    refine vnil ?_
    refine vcondt rfl ?_
    refine vseq ?_
    refine vregion ?_
    refine vone rfl (vxq (vcp rfl rfl rfl (c_works)) rfl rfl ?_)
    refine vone rfl (vxq (vas rfl) rfl rfl ?_)
    refine vnil ?_
    refine vret (vr1 (H' := H) Try.func16 rfl (.tmp rfl) (by repeat first | exact .refl _ | refine .cons_cons _ ?_ | refine .cons _ ?_ | exact sl0 _ | refine slA ?_) ?_)
    exact ⟨rfl, rfl⟩
  · skip
    refine vyes rfl rfl rfl (vxq (vmv rfl) rfl rfl ?_)
    refine vyes rfl rfl rfl (vxq (vcq rfl rfl rfl (q_CheckField f oa n c hn hmax _)) rfl rfl ?_)
    refine vyes rfl rfl rfl (vxq (vneq rfl rfl) rfl rfl ?_)
    refine vknow (d := 31) (b' := true) rfl (decide_eq_true (by rcases he with h | h; exact absurd h h28; exact h)) ?_
    refine vone rfl (vxq (vpkf rfl rfl) rfl rfl ?_)
    refine vnil ?_
    refine vcondt rfl ?_
    refine vseq ?_
    refine vregion ?_
    refine vone rfl (vxq (vcp rfl rfl rfl (c_works)) rfl rfl ?_)
    refine vone rfl (vxq (vas rfl) rfl rfl ?_)
    refine vnil ?_
    refine vret (vr1 (H' := H) Try.func16 rfl (.tmp rfl) (by repeat first | exact .refl _ | refine .cons_cons _ ?_ | refine .cons _ ?_ | exact sl0 _ | refine slA ?_) ?_)
    exact ⟨rfl, rfl⟩
/-- paravane/paravanelaw01.RegionStraight -/
theorem l_Straight1 (f : List Pt) (oa : Option Addr) (n c : Nat) (hn : f.length = n) (hmax : n ≤ 9223372036854775807) (r t : Rg) (n0 n1 n2 n3 : Int) (i0 : InR n0) (i1 : InR n1) (h1 : tightE r = (t, 0)) (hf : fieldB f = true) (ht : TotR t t) (hto : t.ok) (h2 : inE f (choP t n0 n1) = (false, 0)) (h3 : coversE f r = (false, 0)) (h4 : hitE f r = (zP, 4)) (H : Heap) [SlO H oa 2 encP f] : VHas Try.prog 16 [sli oa n c, vR r, .agg [I n0, I n1, I n2, I n3].toArray] (.bool true) H H := by
  refine vcall_of_vrun Try.func16 rfl (N := 189) rfl rfl ?_
  refine vseq ?_
  refine vregion ?_
  refine vone rfl (vxa (vbox rfl rfl) rfl rfl (fun b1 => ?_))
  refine vone rfl (vxa (vbox rfl rfl) rfl rfl (fun b2 => ?_))
  refine vone rfl (vxq (vas rfl) rfl rfl ?_)
  refine vnil ?_
  refine vseq ?_
  refine vregion ?_
  refine vone rfl (vxq (vldn rfl rfl) rfl rfl ?_)
  refine vone rfl (vxq (vcp rfl rfl rfl ((c_Tight r).reR h1)) rfl rfl ?_)
  refine vone rfl (vxq (vmv rfl) rfl rfl ?_)
  refine vone rfl (vxq (vex rfl rfl) rfl rfl ?_)
  refine vone rfl (vxq (vex rfl rfl) rfl rfl ?_)
  refine vone rfl (vxa valloc rfl rfl (fun b3 => ?_))
  refine vone rfl (vxs (vstn rfl rfl rfl rfl rfl) rfl ?_)
  refine vone rfl (vxq (vas rfl) rfl rfl ?_)
  refine vnil ?_
  refine vseq ?_
  refine vseq ?_
  refine vregion ?_
  refine vone rfl (vxq (vmv rfl) rfl rfl ?_)
  refine vone rfl (vxq (vneq rfl rfl) rfl rfl ?_)
  refine vknow (d := 27) (b' := false) rfl (by decide) ?_
  refine vone rfl (vxq (vmv rfl) rfl rfl ?_)
  refine vyes rfl rfl rfl (vxq (vmv rfl) rfl rfl ?_)
  refine vyes rfl rfl rfl (vxq (vcq rfl rfl rfl (q_CheckField f oa n c hn hmax _)) rfl rfl ?_)
  refine vyes rfl rfl rfl (vxq (vneq rfl rfl) rfl rfl ?_)
  refine vknow (d := 31) (b' := false) rfl (by rw [chkF_of hf]; decide) ?_
  refine vone rfl (vxq (vpkf rfl rfl) rfl rfl ?_)
  refine vnil ?_
  refine vcondf rfl ?_
  refine vskip ?_
  refine vseq ?_
  refine vregion ?_
  refine vone rfl (vxq (vldn rfl rfl) rfl rfl ?_)
  refine vone rfl (vxq (via rfl rfl (by omega)) rfl rfl ?_)
  refine vone rfl (vxq (vld1 rfl rfl) rfl rfl ?_)
  refine vone rfl (vxq (via rfl rfl (by omega)) rfl rfl ?_)
  refine vone rfl (vxq (vld1 rfl rfl) rfl rfl ?_)
  refine vone rfl (vxq (vcp rfl rfl rfl ((c_chosen t n0 n1 hto.sm i0 i1).reC (cho_is ht n0))) rfl rfl ?_)
  refine vone rfl (vxq (vmv rfl) rfl rfl ?_)
  refine vone rfl (vxq (vex rfl rfl) rfl rfl ?_)
  refine vone rfl (vxq (vex rfl rfl) rfl rfl ?_)
  refine vknow (d := 42) (b' := true) rfl rfl ?_
  refine vone rfl (vxa valloc rfl rfl (fun b4 => ?_))
  refine vone rfl (vxs (vstn rfl rfl rfl rfl rfl) rfl ?_)
  refine vone rfl (vxq (vas rfl) rfl rfl ?_)
  refine vnil ?_
  refine vseq ?_
  refine vregion ?_
  refine vone rfl (vxq (vmv rfl) rfl rfl ?_)
  refine vone rfl (vxq (vldn rfl rfl) rfl rfl ?_)
  refine vone rfl (vxq (vcq rfl rfl rfl ((q_Inside (choP t n0 n1) f oa n c hn hmax _).reT h2)) rfl rfl ?_)
  refine vone rfl (vxq (vmv rfl) rfl rfl ?_)
  refine vone rfl (vxq (vex rfl rfl) rfl rfl ?_)
  refine vknow (d := 47) (b' := false) rfl rfl ?_
  refine vone rfl (vxq (vex rfl rfl) rfl rfl ?_)
  refine vone rfl (vxq (vas rfl) rfl rfl ?_)
  refine vone rfl (vxq (vas rfl) rfl rfl ?_)
  refine vnil ?_
  refine vseq ?_
  refine vregion ?_
  refine vone rfl (vxq (vmv rfl) rfl rfl ?_)
  refine vone rfl (vxq (vldn rfl rfl) rfl rfl ?_)
  refine vone rfl (vxq (vcq rfl rfl rfl ((q_Covers r f oa n c hn hmax _).reT h3)) rfl rfl ?_)
  refine vone rfl (vxq (vmv rfl) rfl rfl ?_)
  refine vone rfl (vxq (vex rfl rfl) rfl rfl ?_)
  refine vknow (d := 53) (b' := false) rfl rfl ?_
  refine vone rfl (vxq (vex rfl rfl) rfl rfl ?_)
  refine vone rfl (vxq (vas rfl) rfl rfl ?_)
  refine vone rfl (vxq (vas rfl) rfl rfl ?_)
  refine vnil ?_
  refine vseq ?_
  refine vseq ?_
  refine vregion ?_
  refine vone rfl (vxq (vmv rfl) rfl rfl ?_)
  refine vone rfl (vxq (vnot rfl) rfl rfl ?_)
  refine vone rfl (vxq (vmv rfl) rfl rfl ?_)
  refine vyes rfl rfl rfl (vxq (vmv rfl) rfl rfl ?_)
  refine vyes rfl rfl rfl (vxq (vneq rfl rfl) rfl rfl ?_)
  refine vknow (d := 59) (b' := false) rfl (by decide) ?_
  refine vone rfl (vxq (vpkf rfl rfl) rfl rfl ?_)
  refine vone rfl (vxq (vmv rfl) rfl rfl ?_)
  refine vyes rfl rfl rfl (vxq (vmv rfl) rfl rfl ?_)
  refine vyes rfl rfl rfl (vxq (vneq rfl rfl) rfl rfl ?_)
  refine vknow (d := 63) (b' := false) rfl (by decide) ?_
  refine vone rfl (vxq (vpkf rfl rfl) rfl rfl ?_)
  refine vone rfl (vxq (vmv rfl) rfl rfl ?_)
  refine vyes rfl rfl rfl (vxq (vmv rfl) rfl rfl ?_)
  refine vyes rfl rfl rfl (vxq (vmv rfl) rfl rfl ?_)
  refine vno rfl rfl rfl rfl rfl ?_
  refine vno rfl rfl rfl rfl rfl ?_
  refine vyes rfl rfl rfl (vxq (vpkf rfl rfl) rfl rfl ?_)
  refine vone rfl (vxq (vpkf rfl rfl) rfl rfl ?_)
  refine vnil ?_
  refine vcondf rfl ?_
  refine vskip ?_
  refine vseq ?_
  refine vregion ?_
  refine vone rfl (vxq (vmv rfl) rfl rfl ?_)
  refine vone rfl (vxq (vldn rfl rfl) rfl rfl ?_)
  refine vone rfl (vxq (vcq rfl rfl rfl ((q_Hits r f oa n c hn hmax _).reP h4)) rfl rfl ?_)
  refine vone rfl (vxq (vmv rfl) rfl rfl ?_)
  refine vone rfl (vxq (vex rfl rfl) rfl rfl ?_)
  refine vone rfl (vxq (vex rfl rfl) rfl rfl ?_)
  refine vone rfl (vxa valloc rfl rfl (fun b5 => ?_))
  refine vone rfl (vxs (vstn rfl rfl rfl rfl rfl) rfl ?_)
  refine vone rfl (vxq (vas rfl) rfl rfl ?_)
  refine vnil ?_
  refine vseq ?_
  refine vseq ?_
  refine vregion ?_
  refine vone rfl (vxq (vmv rfl) rfl rfl ?_)
  refine vone rfl (vxq (vneq rfl rfl) rfl rfl ?_)
  refine vknow (d := 79) (b' := true) rfl (by decide) ?_
  refine vnil ?_
  refine vcondt rfl ?_
  refine vseq ?_
  refine vregion ?_
  refine vone rfl (vxq (vmv rfl) rfl rfl ?_)
  refine vone rfl (vxq (veql rfl rfl) rfl rfl ?_)
  refine vknow (d := 81) (b' := true) rfl (by decide) ?_
  refine vone rfl (vxq (vmv rfl) rfl rfl ?_)
  refine vyes rfl rfl rfl (vxq (vmv rfl) rfl rfl ?_)
  refine vyes rfl rfl rfl (vxq (vnot rfl) rfl rfl ?_)
  refine vone rfl (vxq (vpkt rfl rfl) rfl rfl ?_)
  refine vone rfl (vxq (vmv rfl) rfl rfl ?_)
  refine vyes rfl rfl rfl (vxq (vmv rfl) rfl rfl ?_)
  refine vyes rfl rfl rfl (vxq (vnot rfl) rfl rfl ?_)
  refine vone rfl (vxq (vpkt rfl rfl) rfl rfl ?_)
  refine vone rfl (vxq (vmv rfl) rfl rfl ?_)
  refine vyes rfl rfl rfl (vxq (vcp rfl rfl rfl (c_works)) rfl rfl ?_)
  refine vone rfl (vxq (vpkt rfl rfl) rfl rfl ?_)
  refine vone rfl (vxq (vas rfl) rfl rfl ?_)
  refine vnil ?_
  refine vret (vr1 (H' := H) Try.func16 rfl (.tmp rfl) (by repeat first | exact .refl _ | refine .cons_cons _ ?_ | refine .cons _ ?_ | exact sl0 _ | refine slA ?_) ?_)
  exact ⟨rfl, rfl⟩
/-- paravane/paravanelaw01.RegionStraight -/
theorem l_Straight2 (f : List Pt) (oa : Option Addr) (n c : Nat) (hn : f.length = n) (hmax : n ≤ 9223372036854775807) (r t : Rg) (n0 n1 n2 n3 : Int) (i0 : InR n0) (i1 : InR n1) (h1 : tightE r = (t, 0)) (hf : fieldB f = true) (ht : TotR t t) (hto : t.ok) (x cv : Bool) (h : Pt) (ho : h.ok) (h2 : inE f (choP t n0 n1) = (x, 0)) (h3 : coversE f r = (cv, 0)) (hcv : cv = true → x = true) (h4 : hitE f r = (h, 0)) (h5 : hasE r h = (true, 0)) (h6 : inE f h = (true, 0)) (hl : x = true → h.x < (choP t n0 n1).x ∨ h.x = (choP t n0 n1).x ∧ h.y ≤ (choP t n0 n1).y) (hx : x = true → ∀ e1 : ((choP t n0 n1).x + h.x).tmod 2 = 0, ((choP t n0 n1).y + h.y).tmod 2 = 0 → inE f ⟨((choP t n0 n1).x + h.x).tdiv 2, ((choP t n0 n1).y + h.y).tdiv 2⟩ = (true, 0)) (H : Heap) [SlO H oa 2 encP f] : VHas Try.prog 16 [sli oa n c, vR r, .agg [I n0, I n1, I n2, I n3].toArray] (.bool true) H H := by
  refine vcall_of_vrun Try.func16 rfl (N := 189) rfl rfl ?_
  refine vseq ?_
  refine vregion ?_
  refine vone rfl (vxa (vbox rfl rfl) rfl rfl (fun b1 => ?_))
  refine vone rfl (vxa (vbox rfl rfl) rfl rfl (fun b2 => ?_))
  refine vone rfl (vxq (vas rfl) rfl rfl ?_)
  refine vnil ?_
  refine vseq ?_
  refine vregion ?_
  refine vone rfl (vxq (vldn rfl rfl) rfl rfl ?_)
  refine vone rfl (vxq (vcp rfl rfl rfl ((c_Tight r).reR h1)) rfl rfl ?_)
  refine vone rfl (vxq (vmv rfl) rfl rfl ?_)
  refine vone rfl (vxq (vex rfl rfl) rfl rfl ?_)
  refine vone rfl (vxq (vex rfl rfl) rfl rfl ?_)
  refine vone rfl (vxa valloc rfl rfl (fun b3 => ?_))
  refine vone rfl (vxs (vstn rfl rfl rfl rfl rfl) rfl ?_)
  refine vone rfl (vxq (vas rfl) rfl rfl ?_)
  refine vnil ?_
  refine vseq ?_
  refine vseq ?_
  refine vregion ?_
  refine vone rfl (vxq (vmv rfl) rfl rfl ?_)
  refine vone rfl (vxq (vneq rfl rfl) rfl rfl ?_)
  refine vknow (d := 27) (b' := false) rfl (by decide) ?_
  refine vone rfl (vxq (vmv rfl) rfl rfl ?_)
  refine vyes rfl rfl rfl (vxq (vmv rfl) rfl rfl ?_)
  refine vyes rfl rfl rfl (vxq (vcq rfl rfl rfl (q_CheckField f oa n c hn hmax _)) rfl rfl ?_)
  refine vyes rfl rfl rfl (vxq (vneq rfl rfl) rfl rfl ?_)
  refine vknow (d := 31) (b' := false) rfl (by rw [chkF_of hf]; decide) ?_
  refine vone rfl (vxq (vpkf rfl rfl) rfl rfl ?_)
  refine vnil ?_
  refine vcondf rfl ?_
  refine vskip ?_
  refine vseq ?_
  refine vregion ?_
  refine vone rfl (vxq (vldn rfl rfl) rfl rfl ?_)
  refine vone rfl (vxq (via rfl rfl (by omega)) rfl rfl ?_)
  refine vone rfl (vxq (vld1 rfl rfl) rfl rfl ?_)
  refine vone rfl (vxq (via rfl rfl (by omega)) rfl rfl ?_)
  refine vone rfl (vxq (vld1 rfl rfl) rfl rfl ?_)
  refine vone rfl (vxq (vcp rfl rfl rfl ((c_chosen t n0 n1 hto.sm i0 i1).reC (cho_is ht n0))) rfl rfl ?_)
  have hpo := ok_inR hto (cho_in ht n0 n1)
  unfold Pt.ok at hpo ho
  have dx := tdiv2_bd (a := (choP t n0 n1).x + h.x) (by omega)
  have dy := tdiv2_bd (a := (choP t n0 n1).y + h.y) (by omega)
  refine vone rfl (vxq (vmv rfl) rfl rfl ?_)
  refine vone rfl (vxq (vex rfl rfl) rfl rfl ?_)
  refine vone rfl (vxq (vex rfl rfl) rfl rfl ?_)
  refine vknow (d := 42) (b' := true) rfl rfl ?_
  refine vone rfl (vxa valloc rfl rfl (fun b4 => ?_))
  refine vone rfl (vxs (vstn rfl rfl rfl rfl rfl) rfl ?_)
  refine vone rfl (vxq (vas rfl) rfl rfl ?_)
  refine vnil ?_
  refine vseq ?_
  refine vregion ?_
  refine vone rfl (vxq (vmv rfl) rfl rfl ?_)
  refine vone rfl (vxq (vldn rfl rfl) rfl rfl ?_)
  refine vone rfl (vxq (vcq rfl rfl rfl ((q_Inside (choP t n0 n1) f oa n c hn hmax _).reT h2)) rfl rfl ?_)
  refine vone rfl (vxq (vmv rfl) rfl rfl ?_)
  refine vone rfl (vxq (vex rfl rfl) rfl rfl ?_)
  refine vone rfl (vxq (vex rfl rfl) rfl rfl ?_)
  refine vone rfl (vxq (vas rfl) rfl rfl ?_)
  refine vone rfl (vxq (vas rfl) rfl rfl ?_)
  refine vnil ?_
  refine vseq ?_
  refine vregion ?_
  refine vone rfl (vxq (vmv rfl) rfl rfl ?_)
  refine vone rfl (vxq (vldn rfl rfl) rfl rfl ?_)
  refine vone rfl (vxq (vcq rfl rfl rfl ((q_Covers r f oa n c hn hmax _).reT h3)) rfl rfl ?_)
  refine vone rfl (vxq (vmv rfl) rfl rfl ?_)
  refine vone rfl (vxq (vex rfl rfl) rfl rfl ?_)
  refine vone rfl (vxq (vex rfl rfl) rfl rfl ?_)
  refine vone rfl (vxq (vas rfl) rfl rfl ?_)
  refine vone rfl (vxq (vas rfl) rfl rfl ?_)
  refine vnil ?_
  refine vseq ?_
  refine vseq ?_
  refine vregion ?_
  refine vone rfl (vxq (vmv rfl) rfl rfl ?_)
  refine vone rfl (vxq (vnot rfl) rfl rfl ?_)
  refine vone rfl (vxq (vmv rfl) rfl rfl ?_)
  refine vyes rfl rfl rfl (vxq (vmv rfl) rfl rfl ?_)
  refine vyes rfl rfl rfl (vxq (vneq rfl rfl) rfl rfl ?_)
  refine vknow (d := 59) (b' := false) rfl (by decide) ?_
  refine vone rfl (vxq (vpkf rfl rfl) rfl rfl ?_)
  refine vone rfl (vxq (vmv rfl) rfl rfl ?_)
  refine vyes rfl rfl rfl (vxq (vmv rfl) rfl rfl ?_)
  refine vyes rfl rfl rfl (vxq (vneq rfl rfl) rfl rfl ?_)
  refine vknow (d := 63) (b' := false) rfl (by decide) ?_
  refine vone rfl (vxq (vpkf rfl rfl) rfl rfl ?_)
  refine vone rfl (vxq (vmv rfl) rfl rfl ?_)
  refine vyes rfl rfl rfl (vxq (vmv rfl) rfl rfl ?_)
  refine vyes rfl rfl rfl (vxq (vmv rfl) rfl rfl ?_)
  refine vsplit (d := 67) rfl (fun h67 => ?_) (fun h67 => ?_)
  · skip
    refine vyes rfl rfl rfl (vxq (vmv rfl) rfl rfl ?_)
    refine vknow (d := 68) (b' := true) rfl (hcv h67) ?_
    refine vyes rfl rfl rfl (vxq (vnot rfl) rfl rfl ?_)
    refine vyes rfl rfl rfl (vxq (vpkt rfl rfl) rfl rfl ?_)
    refine vone rfl (vxq (vpkf rfl rfl) rfl rfl ?_)
    refine vnil ?_
    refine vcondf rfl ?_
    refine vskip ?_
    refine vseq ?_
    refine vregion ?_
    refine vone rfl (vxq (vmv rfl) rfl rfl ?_)
    refine vone rfl (vxq (vldn rfl rfl) rfl rfl ?_)
    refine vone rfl (vxq (vcq rfl rfl rfl ((q_Hits r f oa n c hn hmax _).reP h4)) rfl rfl ?_)
    refine vone rfl (vxq (vmv rfl) rfl rfl ?_)
    refine vone rfl (vxq (vex rfl rfl) rfl rfl ?_)
    refine vone rfl (vxq (vex rfl rfl) rfl rfl ?_)
    refine vone rfl (vxa valloc rfl rfl (fun b5 => ?_))
    refine vone rfl (vxs (vstn rfl rfl rfl rfl rfl) rfl ?_)
    refine vone rfl (vxq (vas rfl) rfl rfl ?_)
    refine vnil ?_
    refine vseq ?_
    refine vseq ?_
    refine vregion ?_
    refine vone rfl (vxq (vmv rfl) rfl rfl ?_)
    refine vone rfl (vxq (vneq rfl rfl) rfl rfl ?_)
    refine vknow (d := 79) (b' := false) rfl (by decide) ?_
    refine vnil ?_
    refine vcondf rfl ?_
    refine vskip ?_
    refine vseq ?_
    refine vregion ?_
    refine vone rfl (vxq (vldn rfl rfl) rfl rfl ?_)
    refine vone rfl (vxq (vldn rfl rfl) rfl rfl ?_)
    refine vone rfl (vxq (vcp rfl rfl rfl ((c_Has r h).reT h5)) rfl rfl ?_)
    refine vone rfl (vxq (vmv rfl) rfl rfl ?_)
    refine vone rfl (vxq (vex rfl rfl) rfl rfl ?_)
    refine vknow (d := 97) (b' := true) rfl rfl ?_
    refine vone rfl (vxq (vex rfl rfl) rfl rfl ?_)
    refine vone rfl (vxq (vas rfl) rfl rfl ?_)
    refine vone rfl (vxq (vas rfl) rfl rfl ?_)
    refine vnil ?_
    refine vseq ?_
    refine vregion ?_
    refine vone rfl (vxq (vmv rfl) rfl rfl ?_)
    refine vone rfl (vxq (vldn rfl rfl) rfl rfl ?_)
    refine vone rfl (vxq (vcq rfl rfl rfl ((q_Inside h f oa n c hn hmax _).reT h6)) rfl rfl ?_)
    refine vone rfl (vxq (vmv rfl) rfl rfl ?_)
    refine vone rfl (vxq (vex rfl rfl) rfl rfl ?_)
    refine vknow (d := 103) (b' := true) rfl rfl ?_
    refine vone rfl (vxq (vex rfl rfl) rfl rfl ?_)
    refine vone rfl (vxq (vas rfl) rfl rfl ?_)
    refine vone rfl (vxq (vas rfl) rfl rfl ?_)
    refine vnil ?_
    refine vseq ?_
    refine vseq ?_
    refine vregion ?_
    refine vone rfl (vxq (vmv rfl) rfl rfl ?_)
    refine vone rfl (vxq (vnot rfl) rfl rfl ?_)
    refine vone rfl (vxq (vmv rfl) rfl rfl ?_)
    refine vyes rfl rfl rfl (vxq (vmv rfl) rfl rfl ?_)
    refine vyes rfl rfl rfl (vxq (vnot rfl) rfl rfl ?_)
    refine vone rfl (vxq (vpkf rfl rfl) rfl rfl ?_)
    refine vone rfl (vxq (vmv rfl) rfl rfl ?_)
    refine vyes rfl rfl rfl (vxq (vmv rfl) rfl rfl ?_)
    refine vyes rfl rfl rfl (vxq (vneq rfl rfl) rfl rfl ?_)
    refine vknow (d := 113) (b' := false) rfl (by decide) ?_
    refine vone rfl (vxq (vpkf rfl rfl) rfl rfl ?_)
    refine vone rfl (vxq (vmv rfl) rfl rfl ?_)
    refine vyes rfl rfl rfl (vxq (vmv rfl) rfl rfl ?_)
    refine vyes rfl rfl rfl (vxq (vneq rfl rfl) rfl rfl ?_)
    refine vknow (d := 117) (b' := false) rfl (by decide) ?_
    refine vone rfl (vxq (vpkf rfl rfl) rfl rfl ?_)
    refine vone rfl (vxq (vmv rfl) rfl rfl ?_)
    refine vyes rfl rfl rfl (vxq (vmv rfl) rfl rfl ?_)
    refine vyes rfl rfl rfl (vxq (vmv rfl) rfl rfl ?_)
    refine vsplit (d := 121) rfl (fun h121 => ?_) (fun h121 => ?_)
    · skip
      refine vyes rfl rfl rfl (vxq (vfa rfl) rfl rfl ?_)
      refine vyes rfl rfl rfl (vxq (vld1 rfl rfl) rfl rfl ?_)
      refine vyes rfl rfl rfl (vxq (vfa rfl) rfl rfl ?_)
      refine vyes rfl rfl rfl (vxq (vld1 rfl rfl) rfl rfl ?_)
      refine vyes rfl rfl rfl (vxq (vgtr rfl rfl) rfl rfl ?_)
      refine vknow (d := 126) (b' := false) rfl (decide_eq_false (by have := hl h121; omega)) ?_
      refine vyes rfl rfl rfl (vxq (vmv rfl) rfl rfl ?_)
      refine vyes rfl rfl rfl (vxq (vfa rfl) rfl rfl ?_)
      refine vyes rfl rfl rfl (vxq (vld1 rfl rfl) rfl rfl ?_)
      refine vyes rfl rfl rfl (vxq (vfa rfl) rfl rfl ?_)
      refine vyes rfl rfl rfl (vxq (vld1 rfl rfl) rfl rfl ?_)
      refine vyes rfl rfl rfl (vxq (veql rfl rfl) rfl rfl ?_)
      refine vyes rfl rfl rfl (vxq (vmv rfl) rfl rfl ?_)
      refine vsplitd (d := 133) rfl (fun h133 => ?_) (fun h133 => ?_)
      · skip
        refine vyes rfl rfl rfl (vxq (vfa rfl) rfl rfl ?_)
        refine vyes rfl rfl rfl (vxq (vld1 rfl rfl) rfl rfl ?_)
        refine vyes rfl rfl rfl (vxq (vfa rfl) rfl rfl ?_)
        refine vyes rfl rfl rfl (vxq (vld1 rfl rfl) rfl rfl ?_)
        refine vyes rfl rfl rfl (vxq (vgtr rfl rfl) rfl rfl ?_)
        refine vknow (d := 138) (b' := false) rfl (decide_eq_false (by have := hl h121; omega)) ?_
        refine vyes rfl rfl rfl (vxq (vpkt rfl rfl) rfl rfl ?_)
        refine vyes rfl rfl rfl (vxq (vpkf rfl rfl) rfl rfl ?_)
        refine vyes rfl rfl rfl (vxq (vpkt rfl rfl) rfl rfl ?_)
        refine vone rfl (vxq (vpkf rfl rfl) rfl rfl ?_)
        refine vnil ?_
        refine vcondf rfl ?_
        refine vskip ?_
        refine vseq ?_
        refine vseq ?_
        refine vregion ?_
        refine vone rfl (vxq (vfa rfl) rfl rfl ?_)
        refine vone rfl (vxq (vld1 rfl rfl) rfl rfl ?_)
        refine vone rfl (vxq (vfa rfl) rfl rfl ?_)
        refine vone rfl (vxq (vld1 rfl rfl) rfl rfl ?_)
        refine vone rfl (vxq (vadd rfl rfl (by unfold InR; omega)) rfl rfl ?_)
        refine vone rfl (vxq (vfa rfl) rfl rfl ?_)
        refine vone rfl (vxq (vld1 rfl rfl) rfl rfl ?_)
        refine vone rfl (vxq (vfa rfl) rfl rfl ?_)
        refine vone rfl (vxq (vld1 rfl rfl) rfl rfl ?_)
        refine vone rfl (vxq (vadd rfl rfl (by unfold InR; omega)) rfl rfl ?_)
        refine vone rfl (vxq (vbd rfl rfl) rfl rfl ?_)
        refine vone rfl (vxq (vmv rfl) rfl rfl ?_)
        refine vone rfl (vxa valloc rfl rfl (fun b6 => ?_))
        refine vone rfl (vxs (vstn rfl rfl rfl rfl rfl) rfl ?_)
        refine vone rfl (vxq (vas rfl) rfl rfl ?_)
        refine vnil ?_
        refine vseq ?_
        refine vregion ?_
        refine vone rfl (vxq (vmv rfl) rfl rfl ?_)
        refine vone rfl (vxq (vmv rfl) rfl rfl ?_)
        refine vsplit (d := 156) rfl (fun h156 => ?_) (fun h156 => ?_)
        · skip
          refine vyes rfl rfl rfl (vxq (vfa rfl) rfl rfl ?_)
          refine vyes rfl rfl rfl (vxq (vld1 rfl rfl) rfl rfl ?_)
          refine vyes rfl rfl rfl (vxq (vrem rfl rfl (by omega)) rfl rfl ?_)
          refine vyes rfl rfl rfl (vxq (veql rfl rfl) rfl rfl ?_)
          refine vone rfl (vxq (vpkt rfl rfl) rfl rfl ?_)
          refine vone rfl (vxq (vmv rfl) rfl rfl ?_)
          refine vsplitd (d := 162) rfl (fun h162 => ?_) (fun h162 => ?_)
          · skip
            refine vyes rfl rfl rfl (vxq (vfa rfl) rfl rfl ?_)
            refine vyes rfl rfl rfl (vxq (vld1 rfl rfl) rfl rfl ?_)
            refine vyes rfl rfl rfl (vxq (vrem rfl rfl (by omega)) rfl rfl ?_)
            refine vyes rfl rfl rfl (vxq (veql rfl rfl) rfl rfl ?_)
            refine vone rfl (vxq (vpkt rfl rfl) rfl rfl ?_)
            refine vnil ?_
            refine vcondd rfl (fun h167 => ?_) (fun h167 => ?_)
            · skip
              have hh := hx h156 h162 h167
              refine vseq ?_
              refine vregion ?_
              refine vone rfl (vxq (vmv rfl) rfl rfl ?_)
              refine vone rfl (vxq (vfa rfl) rfl rfl ?_)
              refine vone rfl (vxq (vld1 rfl rfl) rfl rfl ?_)
              refine vone rfl (vxq (vquo rfl rfl (by omega) (by unfold InR; omega)) rfl rfl ?_)
              refine vone rfl (vxq (vfa rfl) rfl rfl ?_)
              refine vone rfl (vxq (vld1 rfl rfl) rfl rfl ?_)
              refine vone rfl (vxq (vquo rfl rfl (by omega) (by unfold InR; omega)) rfl rfl ?_)
              refine vone rfl (vxq (vbd rfl rfl) rfl rfl ?_)
              refine vone rfl (vxq (vcq rfl rfl rfl ((q_Inside ⟨((choP t n0 n1).x + h.x).tdiv 2, ((choP t n0 n1).y + h.y).tdiv 2⟩ f oa n c hn hmax _).reT hh)) rfl rfl ?_)
              refine vone rfl (vxq (vmv rfl) rfl rfl ?_)
              refine vone rfl (vxq (vex rfl rfl) rfl rfl ?_)
              refine vknow (d := 178) (b' := true) rfl rfl ?_
              refine vone rfl (vxq (vex rfl rfl) rfl rfl ?_)
              refine vone rfl (vxq (vas rfl) rfl rfl ?_)
              refine vone rfl (vxq (vas rfl) rfl rfl ?_)
              refine vnil ?_
              refine vseq ?_
              refine vregion ?_
              refine vone rfl (vxq (vmv rfl) rfl rfl ?_)
              refine vone rfl (vxq (vmv rfl) rfl rfl ?_)
              refine vyes rfl rfl rfl (vxq (vmv rfl) rfl rfl ?_)
              refine vyes rfl rfl rfl (vxq (veql rfl rfl) rfl rfl ?_)
              refine vknow (d := 183) (b' := true) rfl (by decide) ?_
              refine vone rfl (vxq (vpkt rfl rfl) rfl rfl ?_)
              refine vone rfl (vxq (vmv rfl) rfl rfl ?_)
              refine vyes rfl rfl rfl (vxq (vcp rfl rfl rfl (c_works)) rfl rfl ?_)
              refine vone rfl (vxq (vpkt rfl rfl) rfl rfl ?_)
              refine vone rfl (vxq (vas rfl) rfl rfl ?_)
              refine vnil ?_
              refine vret (vr1 (H' := H) Try.func16 rfl (.tmp rfl) (by repeat first | exact .refl _ | refine .cons_cons _ ?_ | refine .cons _ ?_ | exact sl0 _ | refine slA ?_) ?_)
              exact ⟨rfl, rfl⟩
            · skip
              refine vskip ?_
              refine vseq ?_
              refine vregion ?_
              refine vone rfl (vxq (vcp rfl rfl rfl (c_works)) rfl rfl ?_)
              refine vone rfl (vxq (vas rfl) rfl rfl ?_)
              refine vnil ?_
              refine vret (vr1 (H' := H) Try.func16 rfl (.tmp rfl) (by repeat first | exact .refl _ | refine .cons_cons _ ?_ | refine .cons _ ?_ | exact sl0 _ | refine slA ?_) ?_)
              exact ⟨rfl, rfl⟩
          · skip
            refine vno rfl rfl rfl rfl rfl ?_
            refine vno rfl rfl rfl rfl rfl ?_
            refine vno rfl rfl rfl rfl rfl ?_
            refine vno rfl rfl rfl rfl rfl ?_
            refine vone rfl (vxq (vpkf rfl rfl) rfl rfl ?_)
            refine vnil ?_
            refine vcondf rfl ?_
            refine vskip ?_
            refine vseq ?_
            refine vregion ?_
            refine vone rfl (vxq (vcp rfl rfl rfl (c_works)) rfl rfl ?_)
            refine vone rfl (vxq (vas rfl) rfl rfl ?_)
            refine vnil ?_
            refine vret (vr1 (H' := H) Try.func16 rfl (.tmp rfl) (by repeat first | exact .refl _ | refine .cons_cons _ ?_ | refine .cons _ ?_ | exact sl0 _ | refine slA ?_) ?_)
            exact ⟨rfl, rfl⟩
        · skip
          refine vno rfl rfl rfl rfl rfl ?_
          refine vno rfl rfl rfl rfl rfl ?_
          refine vno rfl rfl rfl rfl rfl ?_
          refine vno rfl rfl rfl rfl rfl ?_
          refine vone rfl (vxq (vpkf rfl rfl) rfl rfl ?_)
          refine vone rfl (vxq (vmv rfl) rfl rfl ?_)
          refine vno rfl rfl rfl rfl rfl ?_
          refine vno rfl rfl rfl rfl rfl ?_
          refine vno rfl rfl rfl rfl rfl ?_
          refine vno rfl rfl rfl rfl rfl ?_
          refine vone rfl (vxq (vpkf rfl rfl) rfl rfl ?_)
          refine vnil ?_
          refine vcondf rfl ?_
          refine vskip ?_
          refine vseq ?_
          refine vregion ?_
          refine vone rfl (vxq (vcp rfl rfl rfl (c_works)) rfl rfl ?_)
          refine vone rfl (vxq (vas rfl) rfl rfl ?_)
          refine vnil ?_
          refine vret (vr1 (H' := H) Try.func16 rfl (.tmp rfl) (by repeat first | exact .refl _ | refine .cons_cons _ ?_ | refine .cons _ ?_ | exact sl0 _ | refine slA ?_) ?_)
          exact ⟨rfl, rfl⟩
      · skip
        refine vno rfl rfl rfl rfl rfl ?_
        refine vno rfl rfl rfl rfl rfl ?_
        refine vno rfl rfl rfl rfl rfl ?_
        refine vno rfl rfl rfl rfl rfl ?_
        refine vno rfl rfl rfl rfl rfl ?_
        refine vyes rfl rfl rfl (vxq (vpkf rfl rfl) rfl rfl ?_)
        refine vyes rfl rfl rfl (vxq (vpkf rfl rfl) rfl rfl ?_)
        refine vyes rfl rfl rfl (vxq (vpkt rfl rfl) rfl rfl ?_)
        refine vone rfl (vxq (vpkf rfl rfl) rfl rfl ?_)
        refine vnil ?_
        refine vcondf rfl ?_
        refine vskip ?_
        refine vseq ?_
        refine vseq ?_
        refine vregion ?_
        refine vone rfl (vxq (vfa rfl) rfl rfl ?_)
        refine vone rfl (vxq (vld1 rfl rfl) rfl rfl ?_)
        refine vone rfl (vxq (vfa rfl) rfl rfl ?_)
        refine vone rfl (vxq (vld1 rfl rfl) rfl rfl ?_)
        refine vone rfl (vxq (vadd rfl rfl (by unfold InR; omega)) rfl rfl ?_)
        refine vone rfl (vxq (vfa rfl) rfl rfl ?_)
        refine vone rfl (vxq (vld1 rfl rfl) rfl rfl ?_)
        refine vone rfl (vxq (vfa rfl) rfl rfl ?_)
        refine vone rfl (vxq (vld1 rfl rfl) rfl rfl ?_)
        refine vone rfl (vxq (vadd rfl rfl (by unfold InR; omega)) rfl rfl ?_)
        refine vone rfl (vxq (vbd rfl rfl) rfl rfl ?_)
        refine vone rfl (vxq (vmv rfl) rfl rfl ?_)
        refine vone rfl (vxa valloc rfl rfl (fun b7 => ?_))
        refine vone rfl (vxs (vstn rfl rfl rfl rfl rfl) rfl ?_)
        refine vone rfl (vxq (vas rfl) rfl rfl ?_)
        refine vnil ?_
        refine vseq ?_
        refine vregion ?_
        refine vone rfl (vxq (vmv rfl) rfl rfl ?_)
        refine vone rfl (vxq (vmv rfl) rfl rfl ?_)
        refine vsplit (d := 156) rfl (fun h156 => ?_) (fun h156 => ?_)
        · skip
          refine vyes rfl rfl rfl (vxq (vfa rfl) rfl rfl ?_)
          refine vyes rfl rfl rfl (vxq (vld1 rfl rfl) rfl rfl ?_)
          refine vyes rfl rfl rfl (vxq (vrem rfl rfl (by omega)) rfl rfl ?_)
          refine vyes rfl rfl rfl (vxq (veql rfl rfl) rfl rfl ?_)
          refine vone rfl (vxq (vpkt rfl rfl) rfl rfl ?_)
          refine vone rfl (vxq (vmv rfl) rfl rfl ?_)
          refine vsplitd (d := 162) rfl (fun h162 => ?_) (fun h162 => ?_)
          · skip
            refine vyes rfl rfl rfl (vxq (vfa rfl) rfl rfl ?_)
            refine vyes rfl rfl rfl (vxq (vld1 rfl rfl) rfl rfl ?_)
            refine vyes rfl rfl rfl (vxq (vrem rfl rfl (by omega)) rfl rfl ?_)
            refine vyes rfl rfl rfl (vxq (veql rfl rfl) rfl rfl ?_)
            refine vone rfl (vxq (vpkt rfl rfl) rfl rfl ?_)
            refine vnil ?_
            refine vcondd rfl (fun h167 => ?_) (fun h167 => ?_)
            · skip
              have hh := hx h156 h162 h167
              refine vseq ?_
              refine vregion ?_
              refine vone rfl (vxq (vmv rfl) rfl rfl ?_)
              refine vone rfl (vxq (vfa rfl) rfl rfl ?_)
              refine vone rfl (vxq (vld1 rfl rfl) rfl rfl ?_)
              refine vone rfl (vxq (vquo rfl rfl (by omega) (by unfold InR; omega)) rfl rfl ?_)
              refine vone rfl (vxq (vfa rfl) rfl rfl ?_)
              refine vone rfl (vxq (vld1 rfl rfl) rfl rfl ?_)
              refine vone rfl (vxq (vquo rfl rfl (by omega) (by unfold InR; omega)) rfl rfl ?_)
              refine vone rfl (vxq (vbd rfl rfl) rfl rfl ?_)
              refine vone rfl (vxq (vcq rfl rfl rfl ((q_Inside ⟨((choP t n0 n1).x + h.x).tdiv 2, ((choP t n0 n1).y + h.y).tdiv 2⟩ f oa n c hn hmax _).reT hh)) rfl rfl ?_)
              refine vone rfl (vxq (vmv rfl) rfl rfl ?_)
              refine vone rfl (vxq (vex rfl rfl) rfl rfl ?_)
              refine vknow (d := 178) (b' := true) rfl rfl ?_
              refine vone rfl (vxq (vex rfl rfl) rfl rfl ?_)
              refine vone rfl (vxq (vas rfl) rfl rfl ?_)
              refine vone rfl (vxq (vas rfl) rfl rfl ?_)
              refine vnil ?_
              refine vseq ?_
              refine vregion ?_
              refine vone rfl (vxq (vmv rfl) rfl rfl ?_)
              refine vone rfl (vxq (vmv rfl) rfl rfl ?_)
              refine vyes rfl rfl rfl (vxq (vmv rfl) rfl rfl ?_)
              refine vyes rfl rfl rfl (vxq (veql rfl rfl) rfl rfl ?_)
              refine vknow (d := 183) (b' := true) rfl (by decide) ?_
              refine vone rfl (vxq (vpkt rfl rfl) rfl rfl ?_)
              refine vone rfl (vxq (vmv rfl) rfl rfl ?_)
              refine vyes rfl rfl rfl (vxq (vcp rfl rfl rfl (c_works)) rfl rfl ?_)
              refine vone rfl (vxq (vpkt rfl rfl) rfl rfl ?_)
              refine vone rfl (vxq (vas rfl) rfl rfl ?_)
              refine vnil ?_
              refine vret (vr1 (H' := H) Try.func16 rfl (.tmp rfl) (by repeat first | exact .refl _ | refine .cons_cons _ ?_ | refine .cons _ ?_ | exact sl0 _ | refine slA ?_) ?_)
              exact ⟨rfl, rfl⟩
            · skip
              refine vskip ?_
              refine vseq ?_
              refine vregion ?_
              refine vone rfl (vxq (vcp rfl rfl rfl (c_works)) rfl rfl ?_)
              refine vone rfl (vxq (vas rfl) rfl rfl ?_)
              refine vnil ?_
              refine vret (vr1 (H' := H) Try.func16 rfl (.tmp rfl) (by repeat first | exact .refl _ | refine .cons_cons _ ?_ | refine .cons _ ?_ | exact sl0 _ | refine slA ?_) ?_)
              exact ⟨rfl, rfl⟩
          · skip
            refine vno rfl rfl rfl rfl rfl ?_
            refine vno rfl rfl rfl rfl rfl ?_
            refine vno rfl rfl rfl rfl rfl ?_
            refine vno rfl rfl rfl rfl rfl ?_
            refine vone rfl (vxq (vpkf rfl rfl) rfl rfl ?_)
            refine vnil ?_
            refine vcondf rfl ?_
            refine vskip ?_
            refine vseq ?_
            refine vregion ?_
            refine vone rfl (vxq (vcp rfl rfl rfl (c_works)) rfl rfl ?_)
            refine vone rfl (vxq (vas rfl) rfl rfl ?_)
            refine vnil ?_
            refine vret (vr1 (H' := H) Try.func16 rfl (.tmp rfl) (by repeat first | exact .refl _ | refine .cons_cons _ ?_ | refine .cons _ ?_ | exact sl0 _ | refine slA ?_) ?_)
            exact ⟨rfl, rfl⟩
        · skip
          refine vno rfl rfl rfl rfl rfl ?_
          refine vno rfl rfl rfl rfl rfl ?_
          refine vno rfl rfl rfl rfl rfl ?_
          refine vno rfl rfl rfl rfl rfl ?_
          refine vone rfl (vxq (vpkf rfl rfl) rfl rfl ?_)
          refine vone rfl (vxq (vmv rfl) rfl rfl ?_)
          refine vno rfl rfl rfl rfl rfl ?_
          refine vno rfl rfl rfl rfl rfl ?_
          refine vno rfl rfl rfl rfl rfl ?_
          refine vno rfl rfl rfl rfl rfl ?_
          refine vone rfl (vxq (vpkf rfl rfl) rfl rfl ?_)
          refine vnil ?_
          refine vcondf rfl ?_
          refine vskip ?_
          refine vseq ?_
          refine vregion ?_
          refine vone rfl (vxq (vcp rfl rfl rfl (c_works)) rfl rfl ?_)
          refine vone rfl (vxq (vas rfl) rfl rfl ?_)
          refine vnil ?_
          refine vret (vr1 (H' := H) Try.func16 rfl (.tmp rfl) (by repeat first | exact .refl _ | refine .cons_cons _ ?_ | refine .cons _ ?_ | exact sl0 _ | refine slA ?_) ?_)
          exact ⟨rfl, rfl⟩
    · skip
      refine vno rfl rfl rfl rfl rfl ?_
      refine vno rfl rfl rfl rfl rfl ?_
      refine vno rfl rfl rfl rfl rfl ?_
      refine vno rfl rfl rfl rfl rfl ?_
      refine vno rfl rfl rfl rfl rfl ?_
      refine vno rfl rfl rfl rfl rfl ?_
      refine vnou rfl rfl rfl rfl rfl ?_
      refine vnou rfl rfl rfl rfl rfl ?_
      refine vnou rfl rfl rfl rfl rfl ?_
      refine vnou rfl rfl rfl rfl rfl ?_
      refine vnou rfl rfl rfl rfl rfl ?_
      refine vnou rfl rfl rfl rfl rfl ?_
      refine vnou rfl rfl rfl rfl rfl ?_
      refine vnou rfl rfl rfl rfl rfl ?_
      refine vnou rfl rfl rfl rfl rfl ?_
      refine vnou rfl rfl rfl rfl rfl ?_
      refine vnou rfl rfl rfl rfl rfl ?_
      refine vnou rfl rfl rfl rfl rfl ?_
      refine vno rfl rfl rfl rfl rfl ?_
      refine vyes rfl rfl rfl (vxq (vpkf rfl rfl) rfl rfl ?_)
      refine vone rfl (vxq (vpkf rfl rfl) rfl rfl ?_)
      refine vnil ?_
      refine vcondf rfl ?_
      refine vskip ?_
      refine vseq ?_
      refine vseq ?_
      refine vregion ?_
      refine vone rfl (vxq (vfa rfl) rfl rfl ?_)
      refine vone rfl (vxq (vld1 rfl rfl) rfl rfl ?_)
      refine vone rfl (vxq (vfa rfl) rfl rfl ?_)
      refine vone rfl (vxq (vld1 rfl rfl) rfl rfl ?_)
      refine vone rfl (vxq (vadd rfl rfl (by unfold InR; omega)) rfl rfl ?_)
      refine vone rfl (vxq (vfa rfl) rfl rfl ?_)
      refine vone rfl (vxq (vld1 rfl rfl) rfl rfl ?_)
      refine vone rfl (vxq (vfa rfl) rfl rfl ?_)
      refine vone rfl (vxq (vld1 rfl rfl) rfl rfl ?_)
      refine vone rfl (vxq (vadd rfl rfl (by unfold InR; omega)) rfl rfl ?_)
      refine vone rfl (vxq (vbd rfl rfl) rfl rfl ?_)
      refine vone rfl (vxq (vmv rfl) rfl rfl ?_)
      refine vone rfl (vxa valloc rfl rfl (fun b8 => ?_))
      refine vone rfl (vxs (vstn rfl rfl rfl rfl rfl) rfl ?_)
      refine vone rfl (vxq (vas rfl) rfl rfl ?_)
      refine vnil ?_
      refine vseq ?_
      refine vregion ?_
      refine vone rfl (vxq (vmv rfl) rfl rfl ?_)
      refine vone rfl (vxq (vmv rfl) rfl rfl ?_)
      refine vsplit (d := 156) rfl (fun h156 => ?_) (fun h156 => ?_)
      · skip
        refine vyes rfl rfl rfl (vxq (vfa rfl) rfl rfl ?_)
        refine vyes rfl rfl rfl (vxq (vld1 rfl rfl) rfl rfl ?_)
        refine vyes rfl rfl rfl (vxq (vrem rfl rfl (by omega)) rfl rfl ?_)
        refine vyes rfl rfl rfl (vxq (veql rfl rfl) rfl rfl ?_)
        refine vone rfl (vxq (vpkt rfl rfl) rfl rfl ?_)
        refine vone rfl (vxq (vmv rfl) rfl rfl ?_)
        refine vsplitd (d := 162) rfl (fun h162 => ?_) (fun h162 => ?_)
        · skip
          refine vyes rfl rfl rfl (vxq (vfa rfl) rfl rfl ?_)
          refine vyes rfl rfl rfl (vxq (vld1 rfl rfl) rfl rfl ?_)
          refine vyes rfl rfl rfl (vxq (vrem rfl rfl (by omega)) rfl rfl ?_)
          refine vyes rfl rfl rfl (vxq (veql rfl rfl) rfl rfl ?_)
          refine vone rfl (vxq (vpkt rfl rfl) rfl rfl ?_)
          refine vnil ?_
          refine vcondd rfl (fun h167 => ?_) (fun h167 => ?_)
          · skip
            have hh := hx h156 h162 h167
            refine vseq ?_
            refine vregion ?_
            refine vone rfl (vxq (vmv rfl) rfl rfl ?_)
            refine vone rfl (vxq (vfa rfl) rfl rfl ?_)
            refine vone rfl (vxq (vld1 rfl rfl) rfl rfl ?_)
            refine vone rfl (vxq (vquo rfl rfl (by omega) (by unfold InR; omega)) rfl rfl ?_)
            refine vone rfl (vxq (vfa rfl) rfl rfl ?_)
            refine vone rfl (vxq (vld1 rfl rfl) rfl rfl ?_)
            refine vone rfl (vxq (vquo rfl rfl (by omega) (by unfold InR; omega)) rfl rfl ?_)
            refine vone rfl (vxq (vbd rfl rfl) rfl rfl ?_)
            refine vone rfl (vxq (vcq rfl rfl rfl ((q_Inside ⟨((choP t n0 n1).x + h.x).tdiv 2, ((choP t n0 n1).y + h.y).tdiv 2⟩ f oa n c hn hmax _).reT hh)) rfl rfl ?_)
            refine vone rfl (vxq (vmv rfl) rfl rfl ?_)
            refine vone rfl (vxq (vex rfl rfl) rfl rfl ?_)
            refine vknow (d := 178) (b' := true) rfl rfl ?_
            refine vone rfl (vxq (vex rfl rfl) rfl rfl ?_)
            refine vone rfl (vxq (vas rfl) rfl rfl ?_)
            refine vone rfl (vxq (vas rfl) rfl rfl ?_)
            refine vnil ?_
            refine vseq ?_
            refine vregion ?_
            refine vone rfl (vxq (vmv rfl) rfl rfl ?_)
            refine vone rfl (vxq (vmv rfl) rfl rfl ?_)
            refine vyes rfl rfl rfl (vxq (vmv rfl) rfl rfl ?_)
            refine vyes rfl rfl rfl (vxq (veql rfl rfl) rfl rfl ?_)
            refine vknow (d := 183) (b' := true) rfl (by decide) ?_
            refine vone rfl (vxq (vpkt rfl rfl) rfl rfl ?_)
            refine vone rfl (vxq (vmv rfl) rfl rfl ?_)
            refine vyes rfl rfl rfl (vxq (vcp rfl rfl rfl (c_works)) rfl rfl ?_)
            refine vone rfl (vxq (vpkt rfl rfl) rfl rfl ?_)
            refine vone rfl (vxq (vas rfl) rfl rfl ?_)
            refine vnil ?_
            refine vret (vr1 (H' := H) Try.func16 rfl (.tmp rfl) (by repeat first | exact .refl _ | refine .cons_cons _ ?_ | refine .cons _ ?_ | exact sl0 _ | refine slA ?_) ?_)
            exact ⟨rfl, rfl⟩
          · skip
            refine vskip ?_
            refine vseq ?_
            refine vregion ?_
            refine vone rfl (vxq (vcp rfl rfl rfl (c_works)) rfl rfl ?_)
            refine vone rfl (vxq (vas rfl) rfl rfl ?_)
            refine vnil ?_
            refine vret (vr1 (H' := H) Try.func16 rfl (.tmp rfl) (by repeat first | exact .refl _ | refine .cons_cons _ ?_ | refine .cons _ ?_ | exact sl0 _ | refine slA ?_) ?_)
            exact ⟨rfl, rfl⟩
        · skip
          refine vno rfl rfl rfl rfl rfl ?_
          refine vno rfl rfl rfl rfl rfl ?_
          refine vno rfl rfl rfl rfl rfl ?_
          refine vno rfl rfl rfl rfl rfl ?_
          refine vone rfl (vxq (vpkf rfl rfl) rfl rfl ?_)
          refine vnil ?_
          refine vcondf rfl ?_
          refine vskip ?_
          refine vseq ?_
          refine vregion ?_
          refine vone rfl (vxq (vcp rfl rfl rfl (c_works)) rfl rfl ?_)
          refine vone rfl (vxq (vas rfl) rfl rfl ?_)
          refine vnil ?_
          refine vret (vr1 (H' := H) Try.func16 rfl (.tmp rfl) (by repeat first | exact .refl _ | refine .cons_cons _ ?_ | refine .cons _ ?_ | exact sl0 _ | refine slA ?_) ?_)
          exact ⟨rfl, rfl⟩
      · skip
        refine vno rfl rfl rfl rfl rfl ?_
        refine vno rfl rfl rfl rfl rfl ?_
        refine vno rfl rfl rfl rfl rfl ?_
        refine vno rfl rfl rfl rfl rfl ?_
        refine vone rfl (vxq (vpkf rfl rfl) rfl rfl ?_)
        refine vone rfl (vxq (vmv rfl) rfl rfl ?_)
        refine vno rfl rfl rfl rfl rfl ?_
        refine vno rfl rfl rfl rfl rfl ?_
        refine vno rfl rfl rfl rfl rfl ?_
        refine vno rfl rfl rfl rfl rfl ?_
        refine vone rfl (vxq (vpkf rfl rfl) rfl rfl ?_)
        refine vnil ?_
        refine vcondf rfl ?_
        refine vskip ?_
        refine vseq ?_
        refine vregion ?_
        refine vone rfl (vxq (vcp rfl rfl rfl (c_works)) rfl rfl ?_)
        refine vone rfl (vxq (vas rfl) rfl rfl ?_)
        refine vnil ?_
        refine vret (vr1 (H' := H) Try.func16 rfl (.tmp rfl) (by repeat first | exact .refl _ | refine .cons_cons _ ?_ | refine .cons _ ?_ | exact sl0 _ | refine slA ?_) ?_)
        exact ⟨rfl, rfl⟩
  · skip
    refine vno rfl rfl rfl rfl rfl ?_
    refine vno rfl rfl rfl rfl rfl ?_
    refine vyes rfl rfl rfl (vxq (vpkf rfl rfl) rfl rfl ?_)
    refine vone rfl (vxq (vpkf rfl rfl) rfl rfl ?_)
    refine vnil ?_
    refine vcondf rfl ?_
    refine vskip ?_
    refine vseq ?_
    refine vregion ?_
    refine vone rfl (vxq (vmv rfl) rfl rfl ?_)
    refine vone rfl (vxq (vldn rfl rfl) rfl rfl ?_)
    refine vone rfl (vxq (vcq rfl rfl rfl ((q_Hits r f oa n c hn hmax _).reP h4)) rfl rfl ?_)
    refine vone rfl (vxq (vmv rfl) rfl rfl ?_)
    refine vone rfl (vxq (vex rfl rfl) rfl rfl ?_)
    refine vone rfl (vxq (vex rfl rfl) rfl rfl ?_)
    refine vone rfl (vxa valloc rfl rfl (fun b9 => ?_))
    refine vone rfl (vxs (vstn rfl rfl rfl rfl rfl) rfl ?_)
    refine vone rfl (vxq (vas rfl) rfl rfl ?_)
    refine vnil ?_
    refine vseq ?_
    refine vseq ?_
    refine vregion ?_
    refine vone rfl (vxq (vmv rfl) rfl rfl ?_)
    refine vone rfl (vxq (vneq rfl rfl) rfl rfl ?_)
    refine vknow (d := 79) (b' := false) rfl (by decide) ?_
    refine vnil ?_
    refine vcondf rfl ?_
    refine vskip ?_
    refine vseq ?_
    refine vregion ?_
    refine vone rfl (vxq (vldn rfl rfl) rfl rfl ?_)
    refine vone rfl (vxq (vldn rfl rfl) rfl rfl ?_)
    refine vone rfl (vxq (vcp rfl rfl rfl ((c_Has r h).reT h5)) rfl rfl ?_)
    refine vone rfl (vxq (vmv rfl) rfl rfl ?_)
    refine vone rfl (vxq (vex rfl rfl) rfl rfl ?_)
    refine vknow (d := 97) (b' := true) rfl rfl ?_
    refine vone rfl (vxq (vex rfl rfl) rfl rfl ?_)
    refine vone rfl (vxq (vas rfl) rfl rfl ?_)
    refine vone rfl (vxq (vas rfl) rfl rfl ?_)
    refine vnil ?_
    refine vseq ?_
    refine vregion ?_
    refine vone rfl (vxq (vmv rfl) rfl rfl ?_)
    refine vone rfl (vxq (vldn rfl rfl) rfl rfl ?_)
    refine vone rfl (vxq (vcq rfl rfl rfl ((q_Inside h f oa n c hn hmax _).reT h6)) rfl rfl ?_)
    refine vone rfl (vxq (vmv rfl) rfl rfl ?_)
    refine vone rfl (vxq (vex rfl rfl) rfl rfl ?_)
    refine vknow (d := 103) (b' := true) rfl rfl ?_
    refine vone rfl (vxq (vex rfl rfl) rfl rfl ?_)
    refine vone rfl (vxq (vas rfl) rfl rfl ?_)
    refine vone rfl (vxq (vas rfl) rfl rfl ?_)
    refine vnil ?_
    refine vseq ?_
    refine vseq ?_
    refine vregion ?_
    refine vone rfl (vxq (vmv rfl) rfl rfl ?_)
    refine vone rfl (vxq (vnot rfl) rfl rfl ?_)
    refine vone rfl (vxq (vmv rfl) rfl rfl ?_)
    refine vyes rfl rfl rfl (vxq (vmv rfl) rfl rfl ?_)
    refine vyes rfl rfl rfl (vxq (vnot rfl) rfl rfl ?_)
    refine vone rfl (vxq (vpkf rfl rfl) rfl rfl ?_)
    refine vone rfl (vxq (vmv rfl) rfl rfl ?_)
    refine vyes rfl rfl rfl (vxq (vmv rfl) rfl rfl ?_)
    refine vyes rfl rfl rfl (vxq (vneq rfl rfl) rfl rfl ?_)
    refine vknow (d := 113) (b' := false) rfl (by decide) ?_
    refine vone rfl (vxq (vpkf rfl rfl) rfl rfl ?_)
    refine vone rfl (vxq (vmv rfl) rfl rfl ?_)
    refine vyes rfl rfl rfl (vxq (vmv rfl) rfl rfl ?_)
    refine vyes rfl rfl rfl (vxq (vneq rfl rfl) rfl rfl ?_)
    refine vknow (d := 117) (b' := false) rfl (by decide) ?_
    refine vone rfl (vxq (vpkf rfl rfl) rfl rfl ?_)
    refine vone rfl (vxq (vmv rfl) rfl rfl ?_)
    refine vyes rfl rfl rfl (vxq (vmv rfl) rfl rfl ?_)
    refine vyes rfl rfl rfl (vxq (vmv rfl) rfl rfl ?_)
    refine vsplit (d := 121) rfl (fun h121 => ?_) (fun h121 => ?_)
    · skip
      refine vyes rfl rfl rfl (vxq (vfa rfl) rfl rfl ?_)
      refine vyes rfl rfl rfl (vxq (vld1 rfl rfl) rfl rfl ?_)
      refine vyes rfl rfl rfl (vxq (vfa rfl) rfl rfl ?_)
      refine vyes rfl rfl rfl (vxq (vld1 rfl rfl) rfl rfl ?_)
      refine vyes rfl rfl rfl (vxq (vgtr rfl rfl) rfl rfl ?_)
      refine vknow (d := 126) (b' := false) rfl (decide_eq_false (by have := hl h121; omega)) ?_
      refine vyes rfl rfl rfl (vxq (vmv rfl) rfl rfl ?_)
      refine vyes rfl rfl rfl (vxq (vfa rfl) rfl rfl ?_)
      refine vyes rfl rfl rfl (vxq (vld1 rfl rfl) rfl rfl ?_)
      refine vyes rfl rfl rfl (vxq (vfa rfl) rfl rfl ?_)
      refine vyes rfl rfl rfl (vxq (vld1 rfl rfl) rfl rfl ?_)
      refine vyes rfl rfl rfl (vxq (veql rfl rfl) rfl rfl ?_)
      refine vyes rfl rfl rfl (vxq (vmv rfl) rfl rfl ?_)
      refine vsplitd (d := 133) rfl (fun h133 => ?_) (fun h133 => ?_)
      · skip
        refine vyes rfl rfl rfl (vxq (vfa rfl) rfl rfl ?_)
        refine vyes rfl rfl rfl (vxq (vld1 rfl rfl) rfl rfl ?_)
        refine vyes rfl rfl rfl (vxq (vfa rfl) rfl rfl ?_)
        refine vyes rfl rfl rfl (vxq (vld1 rfl rfl) rfl rfl ?_)
        refine vyes rfl rfl rfl (vxq (vgtr rfl rfl) rfl rfl ?_)
        refine vknow (d := 138) (b' := false) rfl (decide_eq_false (by have := hl h121; omega)) ?_
        refine vyes rfl rfl rfl (vxq (vpkt rfl rfl) rfl rfl ?_)
        refine vyes rfl rfl rfl (vxq (vpkf rfl rfl) rfl rfl ?_)
        refine vyes rfl rfl rfl (vxq (vpkt rfl rfl) rfl rfl ?_)
        refine vone rfl (vxq (vpkf rfl rfl) rfl rfl ?_)
        refine vnil ?_
        refine vcondf rfl ?_
        refine vskip ?_
        refine vseq ?_
        refine vseq ?_
        refine vregion ?_
        refine vone rfl (vxq (vfa rfl) rfl rfl ?_)
        refine vone rfl (vxq (vld1 rfl rfl) rfl rfl ?_)
        refine vone rfl (vxq (vfa rfl) rfl rfl ?_)
        refine vone rfl (vxq (vld1 rfl rfl) rfl rfl ?_)
        refine vone rfl (vxq (vadd rfl rfl (by unfold InR; omega)) rfl rfl ?_)
        refine vone rfl (vxq (vfa rfl) rfl rfl ?_)
        refine vone rfl (vxq (vld1 rfl rfl) rfl rfl ?_)
        refine vone rfl (vxq (vfa rfl) rfl rfl ?_)
        refine vone rfl (vxq (vld1 rfl rfl) rfl rfl ?_)
        refine vone rfl (vxq (vadd rfl rfl (by unfold InR; omega)) rfl rfl ?_)
        refine vone rfl (vxq (vbd rfl rfl) rfl rfl ?_)
        refine vone rfl (vxq (vmv rfl) rfl rfl ?_)
        refine vone rfl (vxa valloc rfl rfl (fun b10 => ?_))
        refine vone rfl (vxs (vstn rfl rfl rfl rfl rfl) rfl ?_)
        refine vone rfl (vxq (vas rfl) rfl rfl ?_)
        refine vnil ?_
        refine vseq ?_
        refine vregion ?_
        refine vone rfl (vxq (vmv rfl) rfl rfl ?_)
        refine vone rfl (vxq (vmv rfl) rfl rfl ?_)
        refine vsplit (d := 156) rfl (fun h156 => ?_) (fun h156 => ?_)
        · skip
          refine vyes rfl rfl rfl (vxq (vfa rfl) rfl rfl ?_)
          refine vyes rfl rfl rfl (vxq (vld1 rfl rfl) rfl rfl ?_)
          refine vyes rfl rfl rfl (vxq (vrem rfl rfl (by omega)) rfl rfl ?_)
          refine vyes rfl rfl rfl (vxq (veql rfl rfl) rfl rfl ?_)
          refine vone rfl (vxq (vpkt rfl rfl) rfl rfl ?_)
          refine vone rfl (vxq (vmv rfl) rfl rfl ?_)
          refine vsplitd (d := 162) rfl (fun h162 => ?_) (fun h162 => ?_)
          · skip
            refine vyes rfl rfl rfl (vxq (vfa rfl) rfl rfl ?_)
            refine vyes rfl rfl rfl (vxq (vld1 rfl rfl) rfl rfl ?_)
            refine vyes rfl rfl rfl (vxq (vrem rfl rfl (by omega)) rfl rfl ?_)
            refine vyes rfl rfl rfl (vxq (veql rfl rfl) rfl rfl ?_)
            refine vone rfl (vxq (vpkt rfl rfl) rfl rfl ?_)
            refine vnil ?_
            refine vcondd rfl (fun h167 => ?_) (fun h167 => ?_)
            · skip
              have hh := hx h156 h162 h167
              refine vseq ?_
              refine vregion ?_
              refine vone rfl (vxq (vmv rfl) rfl rfl ?_)
              refine vone rfl (vxq (vfa rfl) rfl rfl ?_)
              refine vone rfl (vxq (vld1 rfl rfl) rfl rfl ?_)
              refine vone rfl (vxq (vquo rfl rfl (by omega) (by unfold InR; omega)) rfl rfl ?_)
              refine vone rfl (vxq (vfa rfl) rfl rfl ?_)
              refine vone rfl (vxq (vld1 rfl rfl) rfl rfl ?_)
              refine vone rfl (vxq (vquo rfl rfl (by omega) (by unfold InR; omega)) rfl rfl ?_)
              refine vone rfl (vxq (vbd rfl rfl) rfl rfl ?_)
              refine vone rfl (vxq (vcq rfl rfl rfl ((q_Inside ⟨((choP t n0 n1).x + h.x).tdiv 2, ((choP t n0 n1).y + h.y).tdiv 2⟩ f oa n c hn hmax _).reT hh)) rfl rfl ?_)
              refine vone rfl (vxq (vmv rfl) rfl rfl ?_)
              refine vone rfl (vxq (vex rfl rfl) rfl rfl ?_)
              refine vknow (d := 178) (b' := true) rfl rfl ?_
              refine vone rfl (vxq (vex rfl rfl) rfl rfl ?_)
              refine vone rfl (vxq (vas rfl) rfl rfl ?_)
              refine vone rfl (vxq (vas rfl) rfl rfl ?_)
              refine vnil ?_
              refine vseq ?_
              refine vregion ?_
              refine vone rfl (vxq (vmv rfl) rfl rfl ?_)
              refine vone rfl (vxq (vmv rfl) rfl rfl ?_)
              refine vyes rfl rfl rfl (vxq (vmv rfl) rfl rfl ?_)
              refine vyes rfl rfl rfl (vxq (veql rfl rfl) rfl rfl ?_)
              refine vknow (d := 183) (b' := true) rfl (by decide) ?_
              refine vone rfl (vxq (vpkt rfl rfl) rfl rfl ?_)
              refine vone rfl (vxq (vmv rfl) rfl rfl ?_)
              refine vyes rfl rfl rfl (vxq (vcp rfl rfl rfl (c_works)) rfl rfl ?_)
              refine vone rfl (vxq (vpkt rfl rfl) rfl rfl ?_)
              refine vone rfl (vxq (vas rfl) rfl rfl ?_)
              refine vnil ?_
              refine vret (vr1 (H' := H) Try.func16 rfl (.tmp rfl) (by repeat first | exact .refl _ | refine .cons_cons _ ?_ | refine .cons _ ?_ | exact sl0 _ | refine slA ?_) ?_)
              exact ⟨rfl, rfl⟩
            · skip
              refine vskip ?_
              refine vseq ?_
              refine vregion ?_
              refine vone rfl (vxq (vcp rfl rfl rfl (c_works)) rfl rfl ?_)
              refine vone rfl (vxq (vas rfl) rfl rfl ?_)
              refine vnil ?_
              refine vret (vr1 (H' := H) Try.func16 rfl (.tmp rfl) (by repeat first | exact .refl _ | refine .cons_cons _ ?_ | refine .cons _ ?_ | exact sl0 _ | refine slA ?_) ?_)
              exact ⟨rfl, rfl⟩
          · skip
            refine vno rfl rfl rfl rfl rfl ?_
            refine vno rfl rfl rfl rfl rfl ?_
            refine vno rfl rfl rfl rfl rfl ?_
            refine vno rfl rfl rfl rfl rfl ?_
            refine vone rfl (vxq (vpkf rfl rfl) rfl rfl ?_)
            refine vnil ?_
            refine vcondf rfl ?_
            refine vskip ?_
            refine vseq ?_
            refine vregion ?_
            refine vone rfl (vxq (vcp rfl rfl rfl (c_works)) rfl rfl ?_)
            refine vone rfl (vxq (vas rfl) rfl rfl ?_)
            refine vnil ?_
            refine vret (vr1 (H' := H) Try.func16 rfl (.tmp rfl) (by repeat first | exact .refl _ | refine .cons_cons _ ?_ | refine .cons _ ?_ | exact sl0 _ | refine slA ?_) ?_)
            exact ⟨rfl, rfl⟩
        · skip
          refine vno rfl rfl rfl rfl rfl ?_
          refine vno rfl rfl rfl rfl rfl ?_
          refine vno rfl rfl rfl rfl rfl ?_
          refine vno rfl rfl rfl rfl rfl ?_
          refine vone rfl (vxq (vpkf rfl rfl) rfl rfl ?_)
          refine vone rfl (vxq (vmv rfl) rfl rfl ?_)
          refine vno rfl rfl rfl rfl rfl ?_
          refine vno rfl rfl rfl rfl rfl ?_
          refine vno rfl rfl rfl rfl rfl ?_
          refine vno rfl rfl rfl rfl rfl ?_
          refine vone rfl (vxq (vpkf rfl rfl) rfl rfl ?_)
          refine vnil ?_
          refine vcondf rfl ?_
          refine vskip ?_
          refine vseq ?_
          refine vregion ?_
          refine vone rfl (vxq (vcp rfl rfl rfl (c_works)) rfl rfl ?_)
          refine vone rfl (vxq (vas rfl) rfl rfl ?_)
          refine vnil ?_
          refine vret (vr1 (H' := H) Try.func16 rfl (.tmp rfl) (by repeat first | exact .refl _ | refine .cons_cons _ ?_ | refine .cons _ ?_ | exact sl0 _ | refine slA ?_) ?_)
          exact ⟨rfl, rfl⟩
      · skip
        refine vno rfl rfl rfl rfl rfl ?_
        refine vno rfl rfl rfl rfl rfl ?_
        refine vno rfl rfl rfl rfl rfl ?_
        refine vno rfl rfl rfl rfl rfl ?_
        refine vno rfl rfl rfl rfl rfl ?_
        refine vyes rfl rfl rfl (vxq (vpkf rfl rfl) rfl rfl ?_)
        refine vyes rfl rfl rfl (vxq (vpkf rfl rfl) rfl rfl ?_)
        refine vyes rfl rfl rfl (vxq (vpkt rfl rfl) rfl rfl ?_)
        refine vone rfl (vxq (vpkf rfl rfl) rfl rfl ?_)
        refine vnil ?_
        refine vcondf rfl ?_
        refine vskip ?_
        refine vseq ?_
        refine vseq ?_
        refine vregion ?_
        refine vone rfl (vxq (vfa rfl) rfl rfl ?_)
        refine vone rfl (vxq (vld1 rfl rfl) rfl rfl ?_)
        refine vone rfl (vxq (vfa rfl) rfl rfl ?_)
        refine vone rfl (vxq (vld1 rfl rfl) rfl rfl ?_)
        refine vone rfl (vxq (vadd rfl rfl (by unfold InR; omega)) rfl rfl ?_)
        refine vone rfl (vxq (vfa rfl) rfl rfl ?_)
        refine vone rfl (vxq (vld1 rfl rfl) rfl rfl ?_)
        refine vone rfl (vxq (vfa rfl) rfl rfl ?_)
        refine vone rfl (vxq (vld1 rfl rfl) rfl rfl ?_)
        refine vone rfl (vxq (vadd rfl rfl (by unfold InR; omega)) rfl rfl ?_)
        refine vone rfl (vxq (vbd rfl rfl) rfl rfl ?_)
        refine vone rfl (vxq (vmv rfl) rfl rfl ?_)
        refine vone rfl (vxa valloc rfl rfl (fun b11 => ?_))
        refine vone rfl (vxs (vstn rfl rfl rfl rfl rfl) rfl ?_)
        refine vone rfl (vxq (vas rfl) rfl rfl ?_)
        refine vnil ?_
        refine vseq ?_
        refine vregion ?_
        refine vone rfl (vxq (vmv rfl) rfl rfl ?_)
        refine vone rfl (vxq (vmv rfl) rfl rfl ?_)
        refine vsplit (d := 156) rfl (fun h156 => ?_) (fun h156 => ?_)
        · skip
          refine vyes rfl rfl rfl (vxq (vfa rfl) rfl rfl ?_)
          refine vyes rfl rfl rfl (vxq (vld1 rfl rfl) rfl rfl ?_)
          refine vyes rfl rfl rfl (vxq (vrem rfl rfl (by omega)) rfl rfl ?_)
          refine vyes rfl rfl rfl (vxq (veql rfl rfl) rfl rfl ?_)
          refine vone rfl (vxq (vpkt rfl rfl) rfl rfl ?_)
          refine vone rfl (vxq (vmv rfl) rfl rfl ?_)
          refine vsplitd (d := 162) rfl (fun h162 => ?_) (fun h162 => ?_)
          · skip
            refine vyes rfl rfl rfl (vxq (vfa rfl) rfl rfl ?_)
            refine vyes rfl rfl rfl (vxq (vld1 rfl rfl) rfl rfl ?_)
            refine vyes rfl rfl rfl (vxq (vrem rfl rfl (by omega)) rfl rfl ?_)
            refine vyes rfl rfl rfl (vxq (veql rfl rfl) rfl rfl ?_)
            refine vone rfl (vxq (vpkt rfl rfl) rfl rfl ?_)
            refine vnil ?_
            refine vcondd rfl (fun h167 => ?_) (fun h167 => ?_)
            · skip
              have hh := hx h156 h162 h167
              refine vseq ?_
              refine vregion ?_
              refine vone rfl (vxq (vmv rfl) rfl rfl ?_)
              refine vone rfl (vxq (vfa rfl) rfl rfl ?_)
              refine vone rfl (vxq (vld1 rfl rfl) rfl rfl ?_)
              refine vone rfl (vxq (vquo rfl rfl (by omega) (by unfold InR; omega)) rfl rfl ?_)
              refine vone rfl (vxq (vfa rfl) rfl rfl ?_)
              refine vone rfl (vxq (vld1 rfl rfl) rfl rfl ?_)
              refine vone rfl (vxq (vquo rfl rfl (by omega) (by unfold InR; omega)) rfl rfl ?_)
              refine vone rfl (vxq (vbd rfl rfl) rfl rfl ?_)
              refine vone rfl (vxq (vcq rfl rfl rfl ((q_Inside ⟨((choP t n0 n1).x + h.x).tdiv 2, ((choP t n0 n1).y + h.y).tdiv 2⟩ f oa n c hn hmax _).reT hh)) rfl rfl ?_)
              refine vone rfl (vxq (vmv rfl) rfl rfl ?_)
              refine vone rfl (vxq (vex rfl rfl) rfl rfl ?_)
              refine vknow (d := 178) (b' := true) rfl rfl ?_
              refine vone rfl (vxq (vex rfl rfl) rfl rfl ?_)
              refine vone rfl (vxq (vas rfl) rfl rfl ?_)
              refine vone rfl (vxq (vas rfl) rfl rfl ?_)
              refine vnil ?_
              refine vseq ?_
              refine vregion ?_
              refine vone rfl (vxq (vmv rfl) rfl rfl ?_)
              refine vone rfl (vxq (vmv rfl) rfl rfl ?_)
              refine vyes rfl rfl rfl (vxq (vmv rfl) rfl rfl ?_)
              refine vyes rfl rfl rfl (vxq (veql rfl rfl) rfl rfl ?_)
              refine vknow (d := 183) (b' := true) rfl (by decide) ?_
              refine vone rfl (vxq (vpkt rfl rfl) rfl rfl ?_)
              refine vone rfl (vxq (vmv rfl) rfl rfl ?_)
              refine vyes rfl rfl rfl (vxq (vcp rfl rfl rfl (c_works)) rfl rfl ?_)
              refine vone rfl (vxq (vpkt rfl rfl) rfl rfl ?_)
              refine vone rfl (vxq (vas rfl) rfl rfl ?_)
              refine vnil ?_
              refine vret (vr1 (H' := H) Try.func16 rfl (.tmp rfl) (by repeat first | exact .refl _ | refine .cons_cons _ ?_ | refine .cons _ ?_ | exact sl0 _ | refine slA ?_) ?_)
              exact ⟨rfl, rfl⟩
            · skip
              refine vskip ?_
              refine vseq ?_
              refine vregion ?_
              refine vone rfl (vxq (vcp rfl rfl rfl (c_works)) rfl rfl ?_)
              refine vone rfl (vxq (vas rfl) rfl rfl ?_)
              refine vnil ?_
              refine vret (vr1 (H' := H) Try.func16 rfl (.tmp rfl) (by repeat first | exact .refl _ | refine .cons_cons _ ?_ | refine .cons _ ?_ | exact sl0 _ | refine slA ?_) ?_)
              exact ⟨rfl, rfl⟩
          · skip
            refine vno rfl rfl rfl rfl rfl ?_
            refine vno rfl rfl rfl rfl rfl ?_
            refine vno rfl rfl rfl rfl rfl ?_
            refine vno rfl rfl rfl rfl rfl ?_
            refine vone rfl (vxq (vpkf rfl rfl) rfl rfl ?_)
            refine vnil ?_
            refine vcondf rfl ?_
            refine vskip ?_
            refine vseq ?_
            refine vregion ?_
            refine vone rfl (vxq (vcp rfl rfl rfl (c_works)) rfl rfl ?_)
            refine vone rfl (vxq (vas rfl) rfl rfl ?_)
            refine vnil ?_
            refine vret (vr1 (H' := H) Try.func16 rfl (.tmp rfl) (by repeat first | exact .refl _ | refine .cons_cons _ ?_ | refine .cons _ ?_ | exact sl0 _ | refine slA ?_) ?_)
            exact ⟨rfl, rfl⟩
        · skip
          refine vno rfl rfl rfl rfl rfl ?_
          refine vno rfl rfl rfl rfl rfl ?_
          refine vno rfl rfl rfl rfl rfl ?_
          refine vno rfl rfl rfl rfl rfl ?_
          refine vone rfl (vxq (vpkf rfl rfl) rfl rfl ?_)
          refine vone rfl (vxq (vmv rfl) rfl rfl ?_)
          refine vno rfl rfl rfl rfl rfl ?_
          refine vno rfl rfl rfl rfl rfl ?_
          refine vno rfl rfl rfl rfl rfl ?_
          refine vno rfl rfl rfl rfl rfl ?_
          refine vone rfl (vxq (vpkf rfl rfl) rfl rfl ?_)
          refine vnil ?_
          refine vcondf rfl ?_
          refine vskip ?_
          refine vseq ?_
          refine vregion ?_
          refine vone rfl (vxq (vcp rfl rfl rfl (c_works)) rfl rfl ?_)
          refine vone rfl (vxq (vas rfl) rfl rfl ?_)
          refine vnil ?_
          refine vret (vr1 (H' := H) Try.func16 rfl (.tmp rfl) (by repeat first | exact .refl _ | refine .cons_cons _ ?_ | refine .cons _ ?_ | exact sl0 _ | refine slA ?_) ?_)
          exact ⟨rfl, rfl⟩
    · skip
      refine vno rfl rfl rfl rfl rfl ?_
      refine vno rfl rfl rfl rfl rfl ?_
      refine vno rfl rfl rfl rfl rfl ?_
      refine vno rfl rfl rfl rfl rfl ?_
      refine vno rfl rfl rfl rfl rfl ?_
      refine vno rfl rfl rfl rfl rfl ?_
      refine vnou rfl rfl rfl rfl rfl ?_
      refine vnou rfl rfl rfl rfl rfl ?_
      refine vnou rfl rfl rfl rfl rfl ?_
      refine vnou rfl rfl rfl rfl rfl ?_
      refine vnou rfl rfl rfl rfl rfl ?_
      refine vnou rfl rfl rfl rfl rfl ?_
      refine vnou rfl rfl rfl rfl rfl ?_
      refine vnou rfl rfl rfl rfl rfl ?_
      refine vnou rfl rfl rfl rfl rfl ?_
      refine vnou rfl rfl rfl rfl rfl ?_
      refine vnou rfl rfl rfl rfl rfl ?_
      refine vnou rfl rfl rfl rfl rfl ?_
      refine vno rfl rfl rfl rfl rfl ?_
      refine vyes rfl rfl rfl (vxq (vpkf rfl rfl) rfl rfl ?_)
      refine vone rfl (vxq (vpkf rfl rfl) rfl rfl ?_)
      refine vnil ?_
      refine vcondf rfl ?_
      refine vskip ?_
      refine vseq ?_
      refine vseq ?_
      refine vregion ?_
      refine vone rfl (vxq (vfa rfl) rfl rfl ?_)
      refine vone rfl (vxq (vld1 rfl rfl) rfl rfl ?_)
      refine vone rfl (vxq (vfa rfl) rfl rfl ?_)
      refine vone rfl (vxq (vld1 rfl rfl) rfl rfl ?_)
      refine vone rfl (vxq (vadd rfl rfl (by unfold InR; omega)) rfl rfl ?_)
      refine vone rfl (vxq (vfa rfl) rfl rfl ?_)
      refine vone rfl (vxq (vld1 rfl rfl) rfl rfl ?_)
      refine vone rfl (vxq (vfa rfl) rfl rfl ?_)
      refine vone rfl (vxq (vld1 rfl rfl) rfl rfl ?_)
      refine vone rfl (vxq (vadd rfl rfl (by unfold InR; omega)) rfl rfl ?_)
      refine vone rfl (vxq (vbd rfl rfl) rfl rfl ?_)
      refine vone rfl (vxq (vmv rfl) rfl rfl ?_)
      refine vone rfl (vxa valloc rfl rfl (fun b12 => ?_))
      refine vone rfl (vxs (vstn rfl rfl rfl rfl rfl) rfl ?_)
      refine vone rfl (vxq (vas rfl) rfl rfl ?_)
      refine vnil ?_
      refine vseq ?_
      refine vregion ?_
      refine vone rfl (vxq (vmv rfl) rfl rfl ?_)
      refine vone rfl (vxq (vmv rfl) rfl rfl ?_)
      refine vsplit (d := 156) rfl (fun h156 => ?_) (fun h156 => ?_)
      · skip
        refine vyes rfl rfl rfl (vxq (vfa rfl) rfl rfl ?_)
        refine vyes rfl rfl rfl (vxq (vld1 rfl rfl) rfl rfl ?_)
        refine vyes rfl rfl rfl (vxq (vrem rfl rfl (by omega)) rfl rfl ?_)
        refine vyes rfl rfl rfl (vxq (veql rfl rfl) rfl rfl ?_)
        refine vone rfl (vxq (vpkt rfl rfl) rfl rfl ?_)
        refine vone rfl (vxq (vmv rfl) rfl rfl ?_)
        refine vsplitd (d := 162) rfl (fun h162 => ?_) (fun h162 => ?_)
        · skip
          refine vyes rfl rfl rfl (vxq (vfa rfl) rfl rfl ?_)
          refine vyes rfl rfl rfl (vxq (vld1 rfl rfl) rfl rfl ?_)
          refine vyes rfl rfl rfl (vxq (vrem rfl rfl (by omega)) rfl rfl ?_)
          refine vyes rfl rfl rfl (vxq (veql rfl rfl) rfl rfl ?_)
          refine vone rfl (vxq (vpkt rfl rfl) rfl rfl ?_)
          refine vnil ?_
          refine vcondd rfl (fun h167 => ?_) (fun h167 => ?_)
          · skip
            have hh := hx h156 h162 h167
            refine vseq ?_
            refine vregion ?_
            refine vone rfl (vxq (vmv rfl) rfl rfl ?_)
            refine vone rfl (vxq (vfa rfl) rfl rfl ?_)
            refine vone rfl (vxq (vld1 rfl rfl) rfl rfl ?_)
            refine vone rfl (vxq (vquo rfl rfl (by omega) (by unfold InR; omega)) rfl rfl ?_)
            refine vone rfl (vxq (vfa rfl) rfl rfl ?_)
            refine vone rfl (vxq (vld1 rfl rfl) rfl rfl ?_)
            refine vone rfl (vxq (vquo rfl rfl (by omega) (by unfold InR; omega)) rfl rfl ?_)
            refine vone rfl (vxq (vbd rfl rfl) rfl rfl ?_)
            refine vone rfl (vxq (vcq rfl rfl rfl ((q_Inside ⟨((choP t n0 n1).x + h.x).tdiv 2, ((choP t n0 n1).y + h.y).tdiv 2⟩ f oa n c hn hmax _).reT hh)) rfl rfl ?_)
            refine vone rfl (vxq (vmv rfl) rfl rfl ?_)
            refine vone rfl (vxq (vex rfl rfl) rfl rfl ?_)
            refine vknow (d := 178) (b' := true) rfl rfl ?_
            refine vone rfl (vxq (vex rfl rfl) rfl rfl ?_)
            refine vone rfl (vxq (vas rfl) rfl rfl ?_)
            refine vone rfl (vxq (vas rfl) rfl rfl ?_)
            refine vnil ?_
            refine vseq ?_
            refine vregion ?_
            refine vone rfl (vxq (vmv rfl) rfl rfl ?_)
            refine vone rfl (vxq (vmv rfl) rfl rfl ?_)
            refine vyes rfl rfl rfl (vxq (vmv rfl) rfl rfl ?_)
            refine vyes rfl rfl rfl (vxq (veql rfl rfl) rfl rfl ?_)
            refine vknow (d := 183) (b' := true) rfl (by decide) ?_
            refine vone rfl (vxq (vpkt rfl rfl) rfl rfl ?_)
            refine vone rfl (vxq (vmv rfl) rfl rfl ?_)
            refine vyes rfl rfl rfl (vxq (vcp rfl rfl rfl (c_works)) rfl rfl ?_)
            refine vone rfl (vxq (vpkt rfl rfl) rfl rfl ?_)
            refine vone rfl (vxq (vas rfl) rfl rfl ?_)
            refine vnil ?_
            refine vret (vr1 (H' := H) Try.func16 rfl (.tmp rfl) (by repeat first | exact .refl _ | refine .cons_cons _ ?_ | refine .cons _ ?_ | exact sl0 _ | refine slA ?_) ?_)
            exact ⟨rfl, rfl⟩
          · skip
            refine vskip ?_
            refine vseq ?_
            refine vregion ?_
            refine vone rfl (vxq (vcp rfl rfl rfl (c_works)) rfl rfl ?_)
            refine vone rfl (vxq (vas rfl) rfl rfl ?_)
            refine vnil ?_
            refine vret (vr1 (H' := H) Try.func16 rfl (.tmp rfl) (by repeat first | exact .refl _ | refine .cons_cons _ ?_ | refine .cons _ ?_ | exact sl0 _ | refine slA ?_) ?_)
            exact ⟨rfl, rfl⟩
        · skip
          refine vno rfl rfl rfl rfl rfl ?_
          refine vno rfl rfl rfl rfl rfl ?_
          refine vno rfl rfl rfl rfl rfl ?_
          refine vno rfl rfl rfl rfl rfl ?_
          refine vone rfl (vxq (vpkf rfl rfl) rfl rfl ?_)
          refine vnil ?_
          refine vcondf rfl ?_
          refine vskip ?_
          refine vseq ?_
          refine vregion ?_
          refine vone rfl (vxq (vcp rfl rfl rfl (c_works)) rfl rfl ?_)
          refine vone rfl (vxq (vas rfl) rfl rfl ?_)
          refine vnil ?_
          refine vret (vr1 (H' := H) Try.func16 rfl (.tmp rfl) (by repeat first | exact .refl _ | refine .cons_cons _ ?_ | refine .cons _ ?_ | exact sl0 _ | refine slA ?_) ?_)
          exact ⟨rfl, rfl⟩
      · skip
        refine vno rfl rfl rfl rfl rfl ?_
        refine vno rfl rfl rfl rfl rfl ?_
        refine vno rfl rfl rfl rfl rfl ?_
        refine vno rfl rfl rfl rfl rfl ?_
        refine vone rfl (vxq (vpkf rfl rfl) rfl rfl ?_)
        refine vone rfl (vxq (vmv rfl) rfl rfl ?_)
        refine vno rfl rfl rfl rfl rfl ?_
        refine vno rfl rfl rfl rfl rfl ?_
        refine vno rfl rfl rfl rfl rfl ?_
        refine vno rfl rfl rfl rfl rfl ?_
        refine vone rfl (vxq (vpkf rfl rfl) rfl rfl ?_)
        refine vnil ?_
        refine vcondf rfl ?_
        refine vskip ?_
        refine vseq ?_
        refine vregion ?_
        refine vone rfl (vxq (vcp rfl rfl rfl (c_works)) rfl rfl ?_)
        refine vone rfl (vxq (vas rfl) rfl rfl ?_)
        refine vnil ?_
        refine vret (vr1 (H' := H) Try.func16 rfl (.tmp rfl) (by repeat first | exact .refl _ | refine .cons_cons _ ?_ | refine .cons _ ?_ | exact sl0 _ | refine slA ?_) ?_)
        exact ⟨rfl, rfl⟩

theorem l_RegionStraight (f : List Pt) (oa : Option Addr) (n c : Nat) (hn : f.length = n) (hmax : n ≤ 9223372036854775807) (r : Rg) (n0 n1 n2 n3 : Int) (i0 : InR n0) (i1 : InR n1) (H : Heap) [SlO H oa 2 encP f] : VHas Try.prog 16 [sli oa n c, vR r, .agg [I n0, I n1, I n2, I n3].toArray] (.bool true) H H := by
  rcases tight_cases r with ⟨t, hr, ht, h1⟩ | ⟨e, he, h1⟩
  · cases hf : fieldB f with
    | false => exact l_Straight0 f oa n c hn hmax r t n0 n1 n2 n3 0 h1 (.inr (by unfold chkF; rw [hf]; decide)) H
    | true =>
      have hs := totR_self ht
      have hto := tight_ok ht hr
      have hp := cho_in hs n0 n1
      have hpo := ok_inR hto hp
      have h2 := inE_ok hf hpo
      obtain ⟨cv, h3, hc⟩ := covers_cases hf hr ht
      rcases hit_cases hf hr ht with ⟨h, h4, h5, ho, h6, hl⟩ | ⟨h4, hno⟩
      · exact l_Straight2 f oa n c hn hmax r t n0 n1 n2 n3 i0 i1 h1 hf hs hto _ cv h ho h2 h3 (fun hcv => hc hcv _ hp) h4 h5 (by rw [inE_ok hf ho, h6]) (fun hx => hl _ hp hx) (fun hx e1 e2 => half_fin hf hpo ho hx h6 e1 e2) H
      · rw [hno _ hp] at h2
        cases cv with
        | true => have := hc rfl _ hp; rw [hno _ hp] at this; cases this
        | false => exact l_Straight1 f oa n c hn hmax r t n0 n1 n2 n3 i0 i1 h1 hf hs hto h2 h3 h4 H
  · exact l_Straight0 f oa n c hn hmax r zR n0 n1 n2 n3 e h1 (.inl he) H

end Go.Proofs.Ytffpfcomikcimaa
