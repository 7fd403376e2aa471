/-
  Walks of quotients and of rows cut by a side.
-/
import Derived.Test.YtffpfcomikcimaaWm
import Derived.Test.YtffpfcomikcimaaPlh
namespace Go.Proofs.Ytffpfcomikcimaa
open Go
set_option maxRecDepth 100000

theorem tdiv_bd {a b : Int} (hb : 0 < b) (ha : -2199023255552 ≤ a ∧ a ≤ 2199023255552) : -2199023255553 ≤ a.tdiv b ∧ a.tdiv b ≤ 2199023255553 := by
  have h := down_eq (a := a) hb
  have h2 := ediv_bd hb (by omega) ha
  split at h <;> omega
theorem tdiv_bdn {a b : Int} (hb : b < 0) (ha : -2199023255552 ≤ a ∧ a ≤ 2199023255552) : -2199023255553 ≤ a.tdiv b ∧ a.tdiv b ≤ 2199023255553 := by
  have h := tdiv_bd (a := -a) (b := -b) (by omega) (by omega)
  rw [Int.neg_tdiv, Int.tdiv_neg, Int.neg_neg] at h; exact h

/-- paravane/region.down -/
theorem c_down (a b : Int) (hb : 0 < b) (ha : -2199023255552 ≤ a ∧ a ≤ 2199023255552) : VPure Try.prog 127 [I a, I b] (I (a / b)) := by
  have hq := tdiv_bd hb ha
  intro H
  refine vcall_of_vrun Try.func127 rfl (N := 16) rfl rfl ?_
  refine vseq ?_
  refine vregion ?_
  refine vone rfl (vxq (vas rfl) rfl rfl ?_)
  refine vnil ?_
  refine vseq ?_
  refine vregion ?_
  refine vone rfl (vxq (vmv rfl) rfl rfl ?_)
  refine vone rfl (vxq (vmv rfl) rfl rfl ?_)
  refine vone rfl (vxq (vquo rfl rfl (by omega) (by unfold InR; omega)) rfl rfl ?_)
  refine vone rfl (vxq (vas rfl) rfl rfl ?_)
  refine vnil ?_
  refine vseq ?_
  refine vseq ?_
  refine vregion ?_
  refine vone rfl (vxq (vmv rfl) rfl rfl ?_)
  refine vone rfl (vxq (vmv rfl) rfl rfl ?_)
  refine vone rfl (vxq (vrem rfl rfl (by omega)) rfl rfl ?_)
  refine vone rfl (vxq (vlss rfl rfl) rfl rfl ?_)
  refine vnil ?_
  refine vcondd rfl (fun h12 => ?_) (fun h12 => ?_)
  · skip
    refine vregion ?_
    refine vone rfl (vxq (vmv rfl) rfl rfl ?_)
    refine vone rfl (vxq (vsub rfl rfl (by unfold InR; omega)) rfl rfl ?_)
    refine vone rfl (vxq (vas rfl) rfl rfl ?_)
    refine vnil ?_
    refine vseq ?_
    refine vregion ?_
    refine vone rfl (vxq (vmv rfl) rfl rfl ?_)
    refine vone rfl (vxq (vas rfl) rfl rfl ?_)
    refine vnil ?_
    refine vret (vr1 (H' := H) Try.func127 rfl (.tmp rfl) (by repeat first | exact .refl _ | refine .cons_cons _ ?_ | refine .cons _ ?_ | exact sl0 _ | refine slA ?_) ?_)
    first | exact ⟨oI (by rw [← down_eq hb, if_pos h12]), rfl⟩ | exact ⟨oI (by rw [← down_eq hb, if_neg h12]), rfl⟩
  · skip
    refine vskip ?_
    refine vseq ?_
    refine vregion ?_
    refine vone rfl (vxq (vmv rfl) rfl rfl ?_)
    refine vone rfl (vxq (vas rfl) rfl rfl ?_)
    refine vnil ?_
    refine vret (vr1 (H' := H) Try.func127 rfl (.tmp rfl) (by repeat first | exact .refl _ | refine .cons_cons _ ?_ | refine .cons _ ?_ | exact sl0 _ | refine slA ?_) ?_)
    first | exact ⟨oI (by rw [← down_eq hb, if_pos h12]), rfl⟩ | exact ⟨oI (by rw [← down_eq hb, if_neg h12]), rfl⟩
/-- paravane/region.up -/
theorem c_up (a b : Int) (hb : 0 < b) (ha : -2199023255552 ≤ a ∧ a ≤ 2199023255552) : VPure Try.prog 126 [I a, I b] (I (-((-a) / b))) := by
  have he := ediv_bd (n := -a) hb (m := 2199023255552) (by omega) (by omega)
  intro H
  refine vcall_of_vrun Try.func126 rfl (N := 10) rfl rfl ?_
  refine vseq ?_
  refine vregion ?_
  refine vone rfl (vxq (vas rfl) rfl rfl ?_)
  refine vnil ?_
  refine vseq ?_
  refine vregion ?_
  refine vone rfl (vxq (vmv rfl) rfl rfl ?_)
  refine vone rfl (vxq (vneg rfl (by unfold InR; omega)) rfl rfl ?_)
  refine vone rfl (vxq (vmv rfl) rfl rfl ?_)
  refine vone rfl (vxq (vcp rfl rfl rfl (c_down _ _ (by omega) (by omega))) rfl rfl ?_)
  refine vone rfl (vxq (vneg rfl (by unfold InR; omega)) rfl rfl ?_)
  refine vone rfl (vxq (vas rfl) rfl rfl ?_)
  refine vnil ?_
  refine vret (vr1 (H' := H) Try.func126 rfl (.tmp rfl) (by repeat first | exact .refl _ | refine .cons_cons _ ?_ | refine .cons _ ?_ | exact sl0 _ | refine slA ?_) ?_)
  exact ⟨rfl, rfl⟩
/-- paravane/paravaneref00.Down -/
theorem c_DownP (a b : Int) (hb : 0 < b) (ha : -2199023255552 ≤ a ∧ a ≤ 2199023255552) : VPure Try.prog 153 [I a, I b] (I (a / b)) := by
  have hq := tdiv_bd hb ha
  intro H
  refine vcall_of_vrun Try.func153 rfl (N := 23) rfl rfl ?_
  refine vseq ?_
  refine vregion ?_
  refine vone rfl (vxq (vas rfl) rfl rfl ?_)
  refine vnil ?_
  refine vseq ?_
  refine vregion ?_
  refine vone rfl (vxq (vmv rfl) rfl rfl ?_)
  refine vone rfl (vxq (vmv rfl) rfl rfl ?_)
  refine vone rfl (vxq (vquo rfl rfl (by omega) (by unfold InR; omega)) rfl rfl ?_)
  refine vone rfl (vxq (vas rfl) rfl rfl ?_)
  refine vnil ?_
  refine vseq ?_
  refine vseq ?_
  refine vregion ?_
  refine vone rfl (vxq (vmv rfl) rfl rfl ?_)
  refine vone rfl (vxq (vmv rfl) rfl rfl ?_)
  refine vone rfl (vxq (vrem rfl rfl (by omega)) rfl rfl ?_)
  refine vone rfl (vxq (vneq rfl rfl) rfl rfl ?_)
  refine vone rfl (vxq (vmv rfl) rfl rfl ?_)
  refine vsplitd (d := 13) rfl (fun h13 => ?_) (fun h13 => ?_)
  · skip
    refine vyes rfl rfl rfl (vxq (vmv rfl) rfl rfl ?_)
    refine vyes rfl rfl rfl (vxq (vlss rfl rfl) rfl rfl ?_)
    refine vyes rfl rfl rfl (vxq (vmv rfl) rfl rfl ?_)
    refine vyes rfl rfl rfl (vxq (vlss rfl rfl) rfl rfl ?_)
    refine vyes rfl rfl rfl (vxq (vneqb (by kernel_rfl) rfl rfl) rfl rfl ?_)
    refine vone rfl (vxq (vpkt rfl rfl) rfl rfl ?_)
    refine vnil ?_
    refine vcond rfl (fun h19 => ?_) (fun h19 => ?_)
    · skip
      refine vregion ?_
      refine vone rfl (vxq (vmv rfl) rfl rfl ?_)
      refine vone rfl (vxq (vsub rfl rfl (by unfold InR; omega)) rfl rfl ?_)
      refine vone rfl (vxq (vas rfl) rfl rfl ?_)
      refine vnil ?_
      refine vseq ?_
      refine vregion ?_
      refine vone rfl (vxq (vmv rfl) rfl rfl ?_)
      refine vone rfl (vxq (vas rfl) rfl rfl ?_)
      refine vnil ?_
      refine vret (vr1 (H' := H) Try.func153 rfl (.tmp rfl) (by repeat first | exact .refl _ | refine .cons_cons _ ?_ | refine .cons _ ?_ | exact sl0 _ | refine slA ?_) ?_)
      first | exact ⟨oI (by rw [← down_eqp hb, if_pos (by simp at h19; omega)]), rfl⟩ | exact ⟨oI (by rw [← down_eqp hb, if_neg (by simp at h19; omega)]), rfl⟩ | exact ⟨oI (by rw [← down_eqp hb, if_neg (by omega)]), rfl⟩
    · skip
      refine vskip ?_
      refine vseq ?_
      refine vregion ?_
      refine vone rfl (vxq (vmv rfl) rfl rfl ?_)
      refine vone rfl (vxq (vas rfl) rfl rfl ?_)
      refine vnil ?_
      refine vret (vr1 (H' := H) Try.func153 rfl (.tmp rfl) (by repeat first | exact .refl _ | refine .cons_cons _ ?_ | refine .cons _ ?_ | exact sl0 _ | refine slA ?_) ?_)
      first | exact ⟨oI (by rw [← down_eqp hb, if_pos (by simp at h19; omega)]), rfl⟩ | exact ⟨oI (by rw [← down_eqp hb, if_neg (by simp at h19; omega)]), rfl⟩ | exact ⟨oI (by rw [← down_eqp hb, if_neg (by omega)]), rfl⟩
  · skip
    refine vno rfl rfl rfl rfl rfl ?_
    refine vno rfl rfl rfl rfl rfl ?_
    refine vno rfl rfl rfl rfl rfl ?_
    refine vno rfl rfl rfl rfl rfl ?_
    refine vno rfl rfl rfl rfl rfl ?_
    refine vone rfl (vxq (vpkf rfl rfl) rfl rfl ?_)
    refine vnil ?_
    refine vcondf rfl ?_
    refine vskip ?_
    refine vseq ?_
    refine vregion ?_
    refine vone rfl (vxq (vmv rfl) rfl rfl ?_)
    refine vone rfl (vxq (vas rfl) rfl rfl ?_)
    refine vnil ?_
    refine vret (vr1 (H' := H) Try.func153 rfl (.tmp rfl) (by repeat first | exact .refl _ | refine .cons_cons _ ?_ | refine .cons _ ?_ | exact sl0 _ | refine slA ?_) ?_)
    first | exact ⟨oI (by rw [← down_eqp hb, if_pos (by simp at h19; omega)]), rfl⟩ | exact ⟨oI (by rw [← down_eqp hb, if_neg (by simp at h19; omega)]), rfl⟩ | exact ⟨oI (by rw [← down_eqp hb, if_neg (by omega)]), rfl⟩
/-- paravane/paravaneref00.Down -/
theorem c_DownN (a b : Int) (hb : b < 0) (ha : -2199023255552 ≤ a ∧ a ≤ 2199023255552) : VPure Try.prog 153 [I a, I b] (I ((-a) / (-b))) := by
  have hq := tdiv_bdn hb ha
  intro H
  refine vcall_of_vrun Try.func153 rfl (N := 23) rfl rfl ?_
  refine vseq ?_
  refine vregion ?_
  refine vone rfl (vxq (vas rfl) rfl rfl ?_)
  refine vnil ?_
  refine vseq ?_
  refine vregion ?_
  refine vone rfl (vxq (vmv rfl) rfl rfl ?_)
  refine vone rfl (vxq (vmv rfl) rfl rfl ?_)
  refine vone rfl (vxq (vquo rfl rfl (by omega) (by unfold InR; omega)) rfl rfl ?_)
  refine vone rfl (vxq (vas rfl) rfl rfl ?_)
  refine vnil ?_
  refine vseq ?_
  refine vseq ?_
  refine vregion ?_
  refine vone rfl (vxq (vmv rfl) rfl rfl ?_)
  refine vone rfl (vxq (vmv rfl) rfl rfl ?_)
  refine vone rfl (vxq (vrem rfl rfl (by omega)) rfl rfl ?_)
  refine vone rfl (vxq (vneq rfl rfl) rfl rfl ?_)
  refine vone rfl (vxq (vmv rfl) rfl rfl ?_)
  refine vsplitd (d := 13) rfl (fun h13 => ?_) (fun h13 => ?_)
  · skip
    refine vyes rfl rfl rfl (vxq (vmv rfl) rfl rfl ?_)
    refine vyes rfl rfl rfl (vxq (vlss rfl rfl) rfl rfl ?_)
    refine vyes rfl rfl rfl (vxq (vmv rfl) rfl rfl ?_)
    refine vyes rfl rfl rfl (vxq (vlss rfl rfl) rfl rfl ?_)
    refine vyes rfl rfl rfl (vxq (vneqb (by kernel_rfl) rfl rfl) rfl rfl ?_)
    refine vone rfl (vxq (vpkt rfl rfl) rfl rfl ?_)
    refine vnil ?_
    refine vcond rfl (fun h19 => ?_) (fun h19 => ?_)
    · skip
      refine vregion ?_
      refine vone rfl (vxq (vmv rfl) rfl rfl ?_)
      refine vone rfl (vxq (vsub rfl rfl (by unfold InR; omega)) rfl rfl ?_)
      refine vone rfl (vxq (vas rfl) rfl rfl ?_)
      refine vnil ?_
      refine vseq ?_
      refine vregion ?_
      refine vone rfl (vxq (vmv rfl) rfl rfl ?_)
      refine vone rfl (vxq (vas rfl) rfl rfl ?_)
      refine vnil ?_
      refine vret (vr1 (H' := H) Try.func153 rfl (.tmp rfl) (by repeat first | exact .refl _ | refine .cons_cons _ ?_ | refine .cons _ ?_ | exact sl0 _ | refine slA ?_) ?_)
      first | exact ⟨oI (by rw [← down_eqn hb, if_pos (by simp at h19; omega)]), rfl⟩ | exact ⟨oI (by rw [← down_eqn hb, if_neg (by simp at h19; omega)]), rfl⟩ | exact ⟨oI (by rw [← down_eqn hb, if_neg (by omega)]), rfl⟩
    · skip
      refine vskip ?_
      refine vseq ?_
      refine vregion ?_
      refine vone rfl (vxq (vmv rfl) rfl rfl ?_)
      refine vone rfl (vxq (vas rfl) rfl rfl ?_)
      refine vnil ?_
      refine vret (vr1 (H' := H) Try.func153 rfl (.tmp rfl) (by repeat first | exact .refl _ | refine .cons_cons _ ?_ | refine .cons _ ?_ | exact sl0 _ | refine slA ?_) ?_)
      first | exact ⟨oI (by rw [← down_eqn hb, if_pos (by simp at h19; omega)]), rfl⟩ | exact ⟨oI (by rw [← down_eqn hb, if_neg (by simp at h19; omega)]), rfl⟩ | exact ⟨oI (by rw [← down_eqn hb, if_neg (by omega)]), rfl⟩
  · skip
    refine vno rfl rfl rfl rfl rfl ?_
    refine vno rfl rfl rfl rfl rfl ?_
    refine vno rfl rfl rfl rfl rfl ?_
    refine vno rfl rfl rfl rfl rfl ?_
    refine vno rfl rfl rfl rfl rfl ?_
    refine vone rfl (vxq (vpkf rfl rfl) rfl rfl ?_)
    refine vnil ?_
    refine vcondf rfl ?_
    refine vskip ?_
    refine vseq ?_
    refine vregion ?_
    refine vone rfl (vxq (vmv rfl) rfl rfl ?_)
    refine vone rfl (vxq (vas rfl) rfl rfl ?_)
    refine vnil ?_
    refine vret (vr1 (H' := H) Try.func153 rfl (.tmp rfl) (by repeat first | exact .refl _ | refine .cons_cons _ ?_ | refine .cons _ ?_ | exact sl0 _ | refine slA ?_) ?_)
    first | exact ⟨oI (by rw [← down_eqn hb, if_pos (by simp at h19; omega)]), rfl⟩ | exact ⟨oI (by rw [← down_eqn hb, if_neg (by simp at h19; omega)]), rfl⟩ | exact ⟨oI (by rw [← down_eqn hb, if_neg (by omega)]), rfl⟩
/-- paravane/paravaneref00.Up -/
theorem c_Up (a b : Int) (hb : 0 < b) (ha : -2199023255552 ≤ a ∧ a ≤ 2199023255552) : VPure Try.prog 152 [I a, I b] (I (-((-a) / b))) := by
  have he := ediv_bd (n := -a) hb (m := 2199023255552) (by omega) (by omega)
  intro H
  refine vcall_of_vrun Try.func152 rfl (N := 10) rfl rfl ?_
  refine vseq ?_
  refine vregion ?_
  refine vone rfl (vxq (vas rfl) rfl rfl ?_)
  refine vnil ?_
  refine vseq ?_
  refine vregion ?_
  refine vone rfl (vxq (vmv rfl) rfl rfl ?_)
  refine vone rfl (vxq (vneg rfl (by unfold InR; omega)) rfl rfl ?_)
  refine vone rfl (vxq (vmv rfl) rfl rfl ?_)
  refine vone rfl (vxq (vcp rfl rfl rfl (c_DownP _ _ hb (by omega))) rfl rfl ?_)
  refine vone rfl (vxq (vneg rfl (by unfold InR; omega)) rfl rfl ?_)
  refine vone rfl (vxq (vas rfl) rfl rfl ?_)
  refine vnil ?_
  refine vret (vr1 (H' := H) Try.func152 rfl (.tmp rfl) (by repeat first | exact .refl _ | refine .cons_cons _ ?_ | refine .cons _ ?_ | exact sl0 _ | refine slA ?_) ?_)
  exact ⟨rfl, rfl⟩

theorem cutN_bd {a b : Pt} {x : Int} (ha : a.ok) (hb : b.ok) (hx : -2097152 ≤ x ∧ x ≤ 2097152) : (-65536 ≤ cutK a b ∧ cutK a b ≤ 65536) ∧ ((-8589934592 ≤ cutK a b * a.y ∧ cutK a b * a.y ≤ 8589934592) ∧ (-274877906944 ≤ (b.y - a.y) * (x - a.x) ∧ (b.y - a.y) * (x - a.x) ≤ 274877906944)) ∧ -549755813888 ≤ cutN a b x ∧ cutN a b x ≤ 549755813888 := by
  unfold Pt.ok at *
  have hk : -65536 ≤ cutK a b ∧ cutK a b ≤ 65536 := by unfold cutK; omega
  have h1 := abs_mul_bd (b := a.y) (k := 131072) hk (by omega)
  have h2 := abs_mul_bd (a := b.y - a.y) (b := x - a.x) (m := 65536) (k := 4194304) (by omega) (by omega)
  refine ⟨hk, ⟨by omega, by omega⟩, ?_⟩
  unfold cutN; omega
theorem cut_bd {a b : Pt} {w : Rw} (ha : a.ok) (hb : b.ok) (hw : w.bd) : (cutW a b w).bd := by
  obtain ⟨hk, _, hn⟩ := cutN_bd ha hb hw.1
  unfold Rw.bd at *
  unfold cutW
  split
  · have := ediv_bd (n := -cutN a b w.x) (k := cutK a b) (m := 549755813888) (by omega) (by omega) (by omega)
    simp only; omega
  · split
    · have := ediv_bd (n := -cutN a b w.x) (k := -cutK a b) (m := 549755813888) (by omega) (by omega) (by omega)
      simp only; omega
    · split
      · simp only; omega
      · exact hw


theorem cut_p {a b : Pt} {w : Rw} (h : b.x - a.x > 0) : cutW a b w = ⟨w.x, max w.a (-((-((b.x - a.x) * a.y + (b.y - a.y) * (w.x - a.x))) / (b.x - a.x))), w.b⟩ := if_pos h
theorem cut_n {a b : Pt} {w : Rw} (h : ¬ b.x - a.x > 0) (h2 : b.x - a.x < 0) : cutW a b w = ⟨w.x, w.a, min w.b ((-((b.x - a.x) * a.y + (b.y - a.y) * (w.x - a.x))) / (-(b.x - a.x)))⟩ := by
  have h' : ¬ 0 < cutK a b := h
  have h2' : cutK a b < 0 := h2
  rw [cutW, if_neg h', if_pos h2']; rfl
theorem cut_e {a b : Pt} {w : Rw} (h : ¬ b.x - a.x > 0) (h2 : ¬ b.x - a.x < 0) (h3 : (b.x - a.x) * a.y + (b.y - a.y) * (w.x - a.x) > 0) : cutW a b w = ⟨w.x, w.a, w.a - 1⟩ := by
  have h' : ¬ 0 < cutK a b := h
  have h2' : ¬ cutK a b < 0 := h2
  have h3' : 0 < cutN a b w.x := h3
  rw [cutW, if_neg h', if_neg h2', if_pos h3']
theorem cut_s {a b : Pt} {w : Rw} (h : ¬ b.x - a.x > 0) (h2 : ¬ b.x - a.x < 0) (h3 : ¬ (b.x - a.x) * a.y + (b.y - a.y) * (w.x - a.x) > 0) : cutW a b w = w := by
  have h' : ¬ 0 < cutK a b := h
  have h2' : ¬ cutK a b < 0 := h2
  have h3' : ¬ 0 < cutN a b w.x := h3
  rw [cutW, if_neg h', if_neg h2', if_neg h3']

/-- paravane/paravaneref01.left -/
theorem c_ref_left (w : Rw) (a b : Pt) (ha : a.ok) (hb : b.ok) (hw : w.bd) : VPure Try.prog 128 [vW w, vP a, vP b] (vW (cutW a b w)) := by
  have hbd := cutN_bd ha hb hw.1
  unfold Pt.ok at ha hb
  unfold Rw.bd at hw
  unfold cutN cutK at hbd
  intro H
  refine vcall_of_vrun Try.func128 rfl (N := 62) rfl rfl ?_
  refine vseq ?_
  refine vregion ?_
  refine vone rfl (vxa (vbox rfl rfl) rfl rfl (fun b1 => ?_))
  refine vone rfl (vxa (vbox rfl rfl) rfl rfl (fun b2 => ?_))
  refine vone rfl (vxa (vbox rfl rfl) rfl rfl (fun b3 => ?_))
  refine vone rfl (vxa valloc rfl rfl (fun b4 => ?_))
  refine vnil ?_
  refine vseq ?_
  refine vregion ?_
  refine vone rfl (vxq (vfa rfl) rfl rfl ?_)
  refine vone rfl (vxq (vld1 rfl rfl) rfl rfl ?_)
  refine vone rfl (vxq (vfa rfl) rfl rfl ?_)
  refine vone rfl (vxq (vld1 rfl rfl) rfl rfl ?_)
  refine vone rfl (vxq (vsub rfl rfl (by unfold InR; omega)) rfl rfl ?_)
  refine vone rfl (vxq (vfa rfl) rfl rfl ?_)
  refine vone rfl (vxq (vld1 rfl rfl) rfl rfl ?_)
  refine vone rfl (vxq (vmul rfl rfl (by unfold InR; omega)) rfl rfl ?_)
  refine vone rfl (vxq (vfa rfl) rfl rfl ?_)
  refine vone rfl (vxq (vld1 rfl rfl) rfl rfl ?_)
  refine vone rfl (vxq (vfa rfl) rfl rfl ?_)
  refine vone rfl (vxq (vld1 rfl rfl) rfl rfl ?_)
  refine vone rfl (vxq (vsub rfl rfl (by unfold InR; omega)) rfl rfl ?_)
  refine vone rfl (vxq (vfa rfl) rfl rfl ?_)
  refine vone rfl (vxq (vld1 rfl rfl) rfl rfl ?_)
  refine vone rfl (vxq (vfa rfl) rfl rfl ?_)
  refine vone rfl (vxq (vld1 rfl rfl) rfl rfl ?_)
  refine vone rfl (vxq (vsub rfl rfl (by unfold InR; omega)) rfl rfl ?_)
  refine vone rfl (vxq (vmul rfl rfl (by unfold InR; omega)) rfl rfl ?_)
  refine vone rfl (vxq (vadd rfl rfl (by unfold InR; omega)) rfl rfl ?_)
  refine vone rfl (vxq (vas rfl) rfl rfl ?_)
  refine vnil ?_
  refine vseq ?_
  refine vregion ?_
  refine vone rfl (vxq (vfa rfl) rfl rfl ?_)
  refine vone rfl (vxq (vld1 rfl rfl) rfl rfl ?_)
  refine vone rfl (vxq (vfa rfl) rfl rfl ?_)
  refine vone rfl (vxq (vld1 rfl rfl) rfl rfl ?_)
  refine vone rfl (vxq (vsub rfl rfl (by unfold InR; omega)) rfl rfl ?_)
  refine vone rfl (vxq (vas rfl) rfl rfl ?_)
  refine vnil ?_
  refine vseq ?_
  refine vblock ?_
  refine vseq ?_
  refine vregion ?_
  refine vone rfl (vxq (vmv rfl) rfl rfl ?_)
  refine vone rfl (vxq (vgtr rfl rfl) rfl rfl ?_)
  refine vone rfl (vxq (vas rfl) rfl rfl ?_)
  refine vnil ?_
  refine vcondd rfl (fun h34 => ?_) (fun h34 => ?_)
  · skip
    refine vdraw0 [(.q, 0), (.q, 1), (.q, 2), (.q, 3), (.q, 4), (.q, 5), (.q, 6), (.c, 7)] Try.mixed (by kernel_rfl) (by kernel_rfl) ?_
    refine vdq (mone rfl) (vfa rfl) rfl rfl ?_
    refine vdq (mone rfl) (vld1 rfl rfl) rfl rfl ?_
    refine vdq (mone rfl) (vmv rfl) rfl rfl ?_
    refine vdq (mone rfl) (vmv rfl) rfl rfl ?_
    refine vdq (mone rfl) (vcp rfl rfl rfl (c_Up _ _ (by omega) (by omega))) rfl rfl ?_
    refine vdq (mone rfl) (vmax2 rfl rfl) rfl rfl ?_
    refine vdq (mone rfl) (vfa rfl) rfl rfl ?_
    refine vdcs (mone rfl) (vst1 rfl rfl rfl rfl) rfl ?_
    refine vdend rfl ?_
    refine vinblock ?_
    refine vseq ?_
    refine vregion ?_
    refine vone rfl (vxq (vldn rfl rfl) rfl rfl ?_)
    refine vone rfl (vxs (vstn rfl rfl rfl rfl rfl) rfl ?_)
    refine vnil ?_
    refine vret (vr1 (H' := H) Try.func128 rfl (.celln rfl rfl) (by repeat first | exact .refl _ | refine .cons_cons _ ?_ | refine .cons _ ?_ | exact sl0 _ | refine slA ?_) ?_)
    first | (rw [cut_p h34]; exact ⟨rfl, rfl⟩) | (rw [cut_n h34 h44]; exact ⟨rfl, rfl⟩) | (rw [cut_e h34 h44 h54]; exact ⟨rfl, rfl⟩) | (rw [cut_s h34 h44 h54]; exact ⟨rfl, rfl⟩)
  · skip
    refine vseq ?_
    refine vregion ?_
    refine vone rfl (vxq (vmv rfl) rfl rfl ?_)
    refine vone rfl (vxq (vlss rfl rfl) rfl rfl ?_)
    refine vone rfl (vxq (vas rfl) rfl rfl ?_)
    refine vnil ?_
    refine vcondd rfl (fun h44 => ?_) (fun h44 => ?_)
    · skip
      refine vdraw0 [(.q, 0), (.q, 1), (.q, 2), (.q, 3), (.q, 4), (.q, 5), (.q, 6), (.c, 7)] Try.mixed (by kernel_rfl) (by kernel_rfl) ?_
      refine vdq (mone rfl) (vfa rfl) rfl rfl ?_
      refine vdq (mone rfl) (vld1 rfl rfl) rfl rfl ?_
      refine vdq (mone rfl) (vmv rfl) rfl rfl ?_
      refine vdq (mone rfl) (vmv rfl) rfl rfl ?_
      refine vdq (mone rfl) (vcp rfl rfl rfl (c_DownN _ _ (by omega) (by omega))) rfl rfl ?_
      refine vdq (mone rfl) (vmin2 rfl rfl) rfl rfl ?_
      refine vdq (mone rfl) (vfa rfl) rfl rfl ?_
      refine vdcs (mone rfl) (vst1 rfl rfl rfl rfl) rfl ?_
      refine vdend rfl ?_
      refine vinblock ?_
      refine vseq ?_
      refine vregion ?_
      refine vone rfl (vxq (vldn rfl rfl) rfl rfl ?_)
      refine vone rfl (vxs (vstn rfl rfl rfl rfl rfl) rfl ?_)
      refine vnil ?_
      refine vret (vr1 (H' := H) Try.func128 rfl (.celln rfl rfl) (by repeat first | exact .refl _ | refine .cons_cons _ ?_ | refine .cons _ ?_ | exact sl0 _ | refine slA ?_) ?_)
      first | (rw [cut_p h34]; exact ⟨rfl, rfl⟩) | (rw [cut_n h34 h44]; exact ⟨rfl, rfl⟩) | (rw [cut_e h34 h44 h54]; exact ⟨rfl, rfl⟩) | (rw [cut_s h34 h44 h54]; exact ⟨rfl, rfl⟩)
    · skip
      refine vseq ?_
      refine vregion ?_
      refine vone rfl (vxq (vmv rfl) rfl rfl ?_)
      refine vone rfl (vxq (vgtr rfl rfl) rfl rfl ?_)
      refine vone rfl (vxq (vas rfl) rfl rfl ?_)
      refine vnil ?_
      refine vcondd rfl (fun h54 => ?_) (fun h54 => ?_)
      · skip
        refine vregion ?_
        refine vone rfl (vxq (vfa rfl) rfl rfl ?_)
        refine vone rfl (vxq (vld1 rfl rfl) rfl rfl ?_)
        refine vone rfl (vxq (vsub rfl rfl (by unfold InR; omega)) rfl rfl ?_)
        refine vone rfl (vxq (vfa rfl) rfl rfl ?_)
        refine vone rfl (vxs (vst1 rfl rfl rfl rfl) rfl ?_)
        refine vnil ?_
        refine vinblock ?_
        refine vseq ?_
        refine vregion ?_
        refine vone rfl (vxq (vldn rfl rfl) rfl rfl ?_)
        refine vone rfl (vxs (vstn rfl rfl rfl rfl rfl) rfl ?_)
        refine vnil ?_
        refine vret (vr1 (H' := H) Try.func128 rfl (.celln rfl rfl) (by repeat first | exact .refl _ | refine .cons_cons _ ?_ | refine .cons _ ?_ | exact sl0 _ | refine slA ?_) ?_)
        first | (rw [cut_p h34]; exact ⟨rfl, rfl⟩) | (rw [cut_n h34 h44]; exact ⟨rfl, rfl⟩) | (rw [cut_e h34 h44 h54]; exact ⟨rfl, rfl⟩) | (rw [cut_s h34 h44 h54]; exact ⟨rfl, rfl⟩)
      · skip
        refine vskip ?_
        refine vinblock ?_
        refine vseq ?_
        refine vregion ?_
        refine vone rfl (vxq (vldn rfl rfl) rfl rfl ?_)
        refine vone rfl (vxs (vstn rfl rfl rfl rfl rfl) rfl ?_)
        refine vnil ?_
        refine vret (vr1 (H' := H) Try.func128 rfl (.celln rfl rfl) (by repeat first | exact .refl _ | refine .cons_cons _ ?_ | refine .cons _ ?_ | exact sl0 _ | refine slA ?_) ?_)
        first | (rw [cut_p h34]; exact ⟨rfl, rfl⟩) | (rw [cut_n h34 h44]; exact ⟨rfl, rfl⟩) | (rw [cut_e h34 h44 h54]; exact ⟨rfl, rfl⟩) | (rw [cut_s h34 h44 h54]; exact ⟨rfl, rfl⟩)

theorem hitE_nz {f : List Pt} {r : Rg} (h : fst2 (chkF f) (chkR r) ≠ 0) : hitE f r = (zP, fst2 (chkF f) (chkR r)) := by
  unfold fst2 at *
  by_cases hf : FieldOk f
  · rw [chkF_ok hf] at *; simp only [ne_eq, not_true_eq_false, if_false] at *
    rw [hitE, if_pos (fieldB_iff.2 hf), if_neg (chkR_nz.1 h), chkR_no (chkR_nz.1 h)]
  · rw [chkF_no hf, hitE, if_neg (fun e => hf (fieldB_iff.1 e))]; rfl
theorem hitE_0 {f : List Pt} {r : Rg} {p : Pt} (hf : FieldOk f) (hr : r.ok) (h : hitP f (rows r) = some p) : hitE f r = (p, 0) := by rw [hitE, if_pos (fieldB_iff.2 hf), if_pos hr, h]
theorem hitE_4 {f : List Pt} {r : Rg} (hf : FieldOk f) (hr : r.ok) (h : hitP f (rows r) = none) : hitE f r = (zP, 4) := by rw [hitE, if_pos (fieldB_iff.2 hf), if_pos hr, h]
theorem hit_ne {f : List Pt} {w : Rw} (h : (cutsW (sidesL f) w).a ≤ (cutsW (sidesL f) w).b) : w.a ≤ w.b := by
  rcases Int.lt_or_le w.b w.a with h1 | h1
  · have := cuts_empty (sidesL f) h1; omega
  · exact h1
theorem row_bd {r : Rg} (hr : r.ok) {x : Int} (hx : r.x.lo ≤ x ∧ x ≤ r.x.hi) : (rowOf r x).bd := by
  unfold Rg.ok Bd.fits at hr; unfold Rw.bd rowOf; simp only; omega
theorem cuts_bd {f : List Pt} (hf : ∀ q ∈ f, q.ok) : ∀ (l : List (Pt × Pt)) (w : Rw), (∀ s ∈ l, s.1.ok ∧ s.2.ok) → w.bd → (cutsW l w).bd
  | [], _, _, h => h
  | s :: l, w, hl, h => cuts_bd hf l _ (fun t ht => hl t (by simp [ht])) (cut_bd (hl s (by simp)).1 (hl s (by simp)).2 h)
theorem sides_ok {f : List Pt} (hf : ∀ q ∈ f, q.ok) {s : Pt × Pt} (hs : s ∈ sidesL f) : s.1.ok ∧ s.2.ok := by
  unfold sidesL at hs
  obtain ⟨i, hi, rfl⟩ := List.mem_map.1 hs
  have hi := List.mem_range.1 hi
  have at_mem : ∀ j, j < f.length → atP f j ∈ f := fun j hj => by
    obtain ⟨z, hz⟩ := get_of_lt f hj
    rw [atP_of hz]; exact List.mem_of_getElem? hz
  exact ⟨hf _ (at_mem i hi), hf _ (at_mem _ (nxt_lt hi))⟩
theorem no_next {f : List Pt} {r : Rg} {x : Int} (h1 : r.x.lo ≤ x) (h : ∀ u ∈ rowsN r (x - r.x.lo).toNat, hitW f u = false) (hx : ¬ (cutsW (sidesL f) (rowOf r x)).a ≤ (cutsW (sidesL f) (rowOf r x)).b) : ∀ u ∈ rowsN r (x + 1 - r.x.lo).toNat, hitW f u = false := by
  intro u hu
  rw [rowsN_next h1] at hu
  rcases List.mem_append.1 hu with hu | hu
  · exact h u hu
  · unfold rowL at hu
    split at hu
    · rw [List.mem_singleton.1 hu]; exact decide_eq_false hx
    · cases hu

/-- paravane/paravaneref01.Hits -/
theorem q_ref_Hits (r : Rg) (f : List Pt) (oa : Option Addr) (n c : Nat) (hn : f.length = n) (hmax : n ≤ 9223372036854775807) (H : Heap) [SlO H oa 2 encP f] : VHas Try.prog 49 [sli oa n c, vR r] (tup [vP (hitE f r).1, I (hitE f r).2]) H H := by
  refine vcall_of_vrun Try.func49 rfl (N := 60) rfl rfl ?_
  refine vseq ?_
  refine vregion ?_
  refine vone rfl (vxa (vbox rfl rfl) rfl rfl (fun b1 => ?_))
  refine vone rfl (vxa valloc rfl rfl (fun b2 => ?_))
  refine vone rfl (vxq (vas rfl) rfl rfl ?_)
  refine vnil ?_
  refine vseq ?_
  refine vseq ?_
  refine vregion ?_
  refine vone rfl (vxq (vmv rfl) rfl rfl ?_)
  refine vone rfl (vxq (vldn rfl rfl) rfl rfl ?_)
  refine vone rfl (vxq (vcq rfl rfl rfl (q_both r f oa n c hn hmax _)) rfl rfl ?_)
  refine vone rfl (vxq (vas rfl) rfl rfl ?_)
  refine vnil ?_
  refine vseq ?_
  refine vregion ?_
  refine vone rfl (vxq (vmv rfl) rfl rfl ?_)
  refine vone rfl (vxq (vneq rfl rfl) rfl rfl ?_)
  refine vnil ?_
  refine vcondd rfl (fun h14 => ?_) (fun h14 => ?_)
  · skip
    refine vseq ?_
    refine vregion ?_
    refine vone rfl (vxq (vbd rfl rfl) rfl rfl ?_)
    refine vone rfl (vxq (vmv rfl) rfl rfl ?_)
    refine vone rfl (vxs (vstn rfl rfl rfl rfl rfl) rfl ?_)
    refine vone rfl (vxq (vas rfl) rfl rfl ?_)
    refine vnil ?_
    refine vret (vr2 (H' := H) Try.func49 rfl (.celln rfl rfl) (.tmp rfl) (by repeat first | exact .refl _ | refine .cons_cons _ ?_ | refine .cons _ ?_ | exact sl0 _ | refine slA ?_) ?_)
    first
      | (rw [hitE_nz h14]; exact ⟨rfl, rfl⟩)
      | (rw [List.take_of_length_le (show (sidesL f).length ≤ i.toNat by rw [sides_len]; omega)] at *
         obtain ⟨post, hps⟩ := rows_at hx1 h24 (hit_ne h54)
         rw [hitE_0 (fz1 h14) (fz2 h14) (hitP_some hps hno (decide_eq_true h54))]; exact ⟨rfl, rfl⟩)
      | (rw [hitE_4 (fz1 h14) (fz2 h14) (hitP_none (by rw [rowsN_end hx1 hx2 h24] at hno; exact hno))]; exact ⟨rfl, rfl⟩)
  · skip
    refine vskip ?_
    refine vseq ?_
    refine vseq ?_
    refine vregion ?_
    refine vone rfl (vxq (vfa rfl) rfl rfl ?_)
    refine vone rfl (vxq (vfa rfl) rfl rfl ?_)
    refine vone rfl (vxq (vld1 rfl rfl) rfl rfl ?_)
    refine vone rfl (vxq (vas rfl) rfl rfl ?_)
    refine vnil ?_
    refine vblock ?_
    refine vwhile (σ := Int) (fun x => (r.x.hi + 1 - x).toNat) (fun x => [(0, sli oa n c), (3, ptr b1), (4, ptr b2), (5, I 0), (7, I x)]) (fun x => (b2, blk [I 0, I 0] 36) :: (b1, blk (clR r) 25) :: H) (fun x => (r.x.lo ≤ x ∧ (x = r.x.lo ∨ x ≤ r.x.hi + 1)) ∧ ∀ u ∈ rowsN r (x - r.x.lo).toNat, hitW f u = false) r.x.lo ⟨⟨by omega, .inl rfl⟩, by rw [Int.sub_self]; intro u hu; cases hu⟩ ⟨rfl, rfl, rfl, rfl, rfl, True.intro⟩ (by repeat first | exact .refl _ | refine .cons_cons _ ?_ | refine .cons _ ?_ | exact sl0 _ | refine slA ?_) ?_
    rintro x ⟨⟨hx1, hx2⟩, hno⟩ IH
    change VRun _ _ _ _ _ [(0, sli oa n c), (3, ptr b1), (4, ptr b2), (5, I 0), (7, I x)] _ ((b2, blk [I 0, I 0] 36) :: (b1, blk (clR r) 25) :: H) _
    have hokb := (fz2 h14).sm
    unfold Rg.sm Bd.sm at hokb
    refine vseq ?_
    refine vseq ?_
    refine vregion ?_
    refine vone rfl (vxq (vmv rfl) rfl rfl ?_)
    refine vone rfl (vxq (vfa rfl) rfl rfl ?_)
    refine vone rfl (vxq (vfa rfl) rfl rfl ?_)
    refine vone rfl (vxq (vld1 rfl rfl) rfl rfl ?_)
    refine vone rfl (vxq (vleq rfl rfl) rfl rfl ?_)
    refine vnil ?_
    refine vcondd rfl (fun h24 => ?_) (fun h24 => ?_)
    · skip
      refine vskip ?_
      refine vseq ?_
      refine vblock ?_
      refine vseq ?_
      refine vregion ?_
      refine vone rfl (vxq (vldn rfl rfl) rfl rfl ?_)
      refine vone rfl (vxq (vmv rfl) rfl rfl ?_)
      refine vone rfl (vxq (vcp rfl rfl rfl (c_row r x ((fz2 h14).sm.mono (by decide)) (by have := (fz2 h14).sm; unfold Rg.sm Bd.sm at this; omega))) rfl rfl ?_)
      refine vone rfl (vxa valloc rfl rfl (fun b3 => ?_))
      refine vone rfl (vxs (vstn rfl rfl rfl rfl rfl) rfl ?_)
      refine vnil ?_
      refine vseq ?_
      refine vseq ?_
      refine vregion ?_
      refine vone rfl (vxq (vas rfl) rfl rfl ?_)
      refine vnil ?_
      refine vblock ?_
      refine vwhile (σ := Int) (fun i => (n - i).toNat) (fun i => [(0, sli oa n c), (3, ptr b1), (4, ptr b2), (5, I 0), (7, I x), (8, ptr b3), (9, I i)]) (fun i => (b3, blk [I (cutsW ((sidesL f).take i.toNat) (rowOf r x)).x, I (cutsW ((sidesL f).take i.toNat) (rowOf r x)).a, I (cutsW ((sidesL f).take i.toNat) (rowOf r x)).b] 106) :: (b2, blk [I 0, I 0] 36) :: (b1, blk (clR r) 25) :: H) (fun i => 0 ≤ i ∧ i ≤ n) 0 ⟨by omega, by omega⟩ ⟨rfl, rfl, rfl, rfl, rfl, rfl, rfl, True.intro⟩ (by repeat first | exact .refl _ | refine .cons_cons _ ?_ | refine .cons _ ?_ | exact sl0 _ | refine slA ?_) ?_
      rintro i ⟨hi0, hin⟩ IH2
      change VRun _ _ _ _ _ [(0, sli oa n c), (3, ptr b1), (4, ptr b2), (5, I 0), (7, I x), (8, ptr b3), (9, I i)] _ ((b3, blk [I (cutsW ((sidesL f).take i.toNat) (rowOf r x)).x, I (cutsW ((sidesL f).take i.toNat) (rowOf r x)).a, I (cutsW ((sidesL f).take i.toNat) (rowOf r x)).b] 106) :: (b2, blk [I 0, I 0] 36) :: (b1, blk (clR r) 25) :: H) _
      have hwb : (cutsW ((sidesL f).take i.toNat) (rowOf r x)).bd := cuts_bd (fz1 h14).2.1 _ _ (fun s hs => sides_ok (fz1 h14).2.1 (List.mem_of_mem_take hs)) (row_bd (fz2 h14) ⟨hx1, h24⟩)
      refine vseq ?_
      refine vseq ?_
      refine vregion ?_
      refine vone rfl (vxq (vmv rfl) rfl rfl ?_)
      refine vone rfl (vxq (vmv rfl) rfl rfl ?_)
      refine vone rfl (vxq (vlen rfl) rfl rfl ?_)
      refine vone rfl (vxq (vlss rfl rfl) rfl rfl ?_)
      refine vnil ?_
      refine vcondd rfl (fun h33 => ?_) (fun h33 => ?_)
      · skip
        obtain ⟨z, hz⟩ := get_of_lt f (i := i.toNat) (by omega)
        have hmb := mod_bd (i := i + 1) (n := n) (by omega)
        obtain ⟨zk, hzk⟩ := get_of_lt f (i := ((i + 1) % (n : Int)).toNat) (by omega)
        have hs : (sidesL f)[i.toNat]? = some (z, zk) := by rw [sides_get (by omega), atP_of hz, ← nxt_int hn hi0, atP_of hzk]
        have hsk := sides_ok (fz1 h14).2.1 (List.mem_of_getElem? hs)
        refine vskip ?_
        refine vseq ?_
        refine vblock ?_
        refine vdraw0 [(.q, 0), (.q, 1), (.q, 2), (.q, 3), (.q, 4), (.q, 5), (.q, 6), (.q, 7), (.q, 8), (.q, 9), (.q, 10), (.q, 11), (.q, 12), (.q, 13), (.c, 14)] Try.mixed (by kernel_rfl) (by kernel_rfl) ?_
        refine vdq (mone rfl) (vldn rfl rfl) rfl rfl ?_
        refine vdq (mone rfl) (vmv rfl) rfl rfl ?_
        refine vdq (mone rfl) (vmv rfl) rfl rfl ?_
        refine vdq (mone rfl) (visg (enc := encP) rfl rfl (by omega) hz) rfl rfl ?_
        refine vdq (mone rfl) (vldS (enc := encP) rfl hz) rfl rfl ?_
        refine vdq (mone rfl) (vmv rfl) rfl rfl ?_
        refine vdq (mone rfl) (vmv rfl) rfl rfl ?_
        refine vdq (mone rfl) (vadd rfl rfl (by unfold InR; omega)) rfl rfl ?_
        refine vdq (mone rfl) (vmv rfl) rfl rfl ?_
        refine vdq (mone rfl) (vlen rfl) rfl rfl ?_
        refine vdq (mone rfl) (vremp rfl rfl (by omega) (by omega)) rfl rfl ?_
        refine vdq (mone rfl) (visg (enc := encP) rfl rfl hmb hzk) rfl rfl ?_
        refine vdq (mone rfl) (vldS (enc := encP) rfl hzk) rfl rfl ?_
        refine vdq (mone rfl) (vcp rfl rfl rfl (c_ref_left (cutsW ((sidesL f).take i.toNat) (rowOf r x)) z zk hsk.1 hsk.2 hwb)) rfl rfl ?_
        refine vdcs (mone rfl) (vstn rfl rfl rfl rfl rfl) rfl ?_
        refine vdend rfl ?_
        refine vinblock ?_
        refine vregion ?_
        refine vone rfl (vxq (vmv rfl) rfl rfl ?_)
        refine vone rfl (vxq (vadd rfl rfl (by unfold InR; omega)) rfl rfl ?_)
        refine vone rfl (vxq (vas rfl) rfl rfl ?_)
        refine vnil ?_
        exact vback (IH2 (i + 1) ⟨by omega, by omega⟩ (by show (_ : Int).toNat < (_ : Int).toNat; omega)) ⟨rfl, rfl, rfl, rfl, rfl, rfl, rfl, True.intro⟩ (by rw [show (i + 1).toNat = i.toNat + 1 by omega, take_succ_of hs, cutsW_snoc]; exact (by repeat first | exact .refl _ | refine .cons_cons _ ?_ | refine .cons _ ?_ | exact sl0 _ | refine slA ?_))
      · skip
        refine vexit (k' := _) rfl ?_
        refine vseq ?_
        refine vregion ?_
        refine vone rfl (vxq (vfa rfl) rfl rfl ?_)
        refine vone rfl (vxq (vld1 rfl rfl) rfl rfl ?_)
        refine vone rfl (vxq (vfa rfl) rfl rfl ?_)
        refine vone rfl (vxq (vld1 rfl rfl) rfl rfl ?_)
        refine vone rfl (vxq (vleq rfl rfl) rfl rfl ?_)
        refine vnil ?_
        refine vcondd rfl (fun h54 => ?_) (fun h54 => ?_)
        · skip
          refine vseq ?_
          refine vregion ?_
          refine vone rfl (vxq (vmv rfl) rfl rfl ?_)
          refine vone rfl (vxq (vfa rfl) rfl rfl ?_)
          refine vone rfl (vxq (vld1 rfl rfl) rfl rfl ?_)
          refine vone rfl (vxq (vbd rfl rfl) rfl rfl ?_)
          refine vone rfl (vxs (vstn rfl rfl rfl rfl rfl) rfl ?_)
          refine vone rfl (vxq (vas rfl) rfl rfl ?_)
          refine vnil ?_
          refine vret (vr2 (H' := H) Try.func49 rfl (.celln rfl rfl) (.tmp rfl) (by repeat first | exact .refl _ | refine .cons_cons _ ?_ | refine .cons _ ?_ | exact sl0 _ | refine slA ?_) ?_)
          first
            | (rw [hitE_nz h14]; exact ⟨rfl, rfl⟩)
            | (rw [List.take_of_length_le (show (sidesL f).length ≤ i.toNat by rw [sides_len]; omega)] at *
               obtain ⟨post, hps⟩ := rows_at hx1 h24 (hit_ne h54)
               rw [hitE_0 (fz1 h14) (fz2 h14) (hitP_some hps hno (decide_eq_true h54))]; exact ⟨rfl, rfl⟩)
            | (rw [hitE_4 (fz1 h14) (fz2 h14) (hitP_none (by rw [rowsN_end hx1 hx2 h24] at hno; exact hno))]; exact ⟨rfl, rfl⟩)
        · skip
          refine vskip ?_
          refine vinblock ?_
          refine vregion ?_
          refine vone rfl (vxq (vmv rfl) rfl rfl ?_)
          refine vone rfl (vxq (vadd rfl rfl (by unfold InR; omega)) rfl rfl ?_)
          refine vone rfl (vxq (vas rfl) rfl rfl ?_)
          refine vnil ?_
          exact vback (IH (x + 1) ⟨⟨by omega, by omega⟩, no_next hx1 hno (by rw [List.take_of_length_le (by rw [sides_len]; omega)] at h54; exact h54)⟩ (by show (_ : Int).toNat < (_ : Int).toNat; omega)) ⟨rfl, rfl, rfl, rfl, rfl, True.intro⟩ (by repeat first | exact .refl _ | refine .cons_cons _ ?_ | refine .cons _ ?_ | exact sl0 _ | refine slA ?_)
    · skip
      refine vexit (k' := _) rfl ?_
      refine vseq ?_
      refine vregion ?_
      refine vone rfl (vxq (vbd rfl rfl) rfl rfl ?_)
      refine vone rfl (vxs (vstn rfl rfl rfl rfl rfl) rfl ?_)
      refine vone rfl (vxq (vas rfl) rfl rfl ?_)
      refine vnil ?_
      refine vret (vr2 (H' := H) Try.func49 rfl (.celln rfl rfl) (.tmp rfl) (by repeat first | exact .refl _ | refine .cons_cons _ ?_ | refine .cons _ ?_ | exact sl0 _ | refine slA ?_) ?_)
      first
        | (rw [hitE_nz h14]; exact ⟨rfl, rfl⟩)
        | (rw [List.take_of_length_le (show (sidesL f).length ≤ i.toNat by rw [sides_len]; omega)] at *
           obtain ⟨post, hps⟩ := rows_at hx1 h24 (hit_ne h54)
           rw [hitE_0 (fz1 h14) (fz2 h14) (hitP_some hps hno (decide_eq_true h54))]; exact ⟨rfl, rfl⟩)
        | (rw [hitE_4 (fz1 h14) (fz2 h14) (hitP_none (by rw [rowsN_end hx1 hx2 h24] at hno; exact hno))]; exact ⟨rfl, rfl⟩)
end Go.Proofs.Ytffpfcomikcimaa
