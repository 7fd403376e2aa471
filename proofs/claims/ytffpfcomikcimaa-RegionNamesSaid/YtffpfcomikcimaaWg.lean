/-
  Walks of the roots and of Reach, of both.
-/
import Derived.Test.YtffpfcomikcimaaWf
import Derived.Test.YtffpfcomikcimaaPlr
namespace Go.Proofs.Ytffpfcomikcimaa
open Go
set_option maxRecDepth 100000

theorem inR_mul {a b : Int} (ha : 0 ≤ a ∧ a ≤ 4194304) (hb : 0 ≤ b ∧ b ≤ 4194304) : InR (a * b) := by
  have := mul_bd ha hb; unfold InR; omega
theorem IsRt.bd {n r : Int} (h : IsRt n r) (hn : n ≤ 2199023255552) : r ≤ 2097152 := by
  obtain ⟨h1, h2, _⟩ := h
  rcases Int.lt_or_le 2097152 r with h3 | h3
  · have := sq_lt (by omega) h3; omega
  · exact h3

/-- paravane/region.root -/
theorem c_root (n : Int) (hn : 0 ≤ n ∧ n ≤ 2199023255552) : VPure Try.prog 135 [I n] (I (rootP n)) := by
  intro H
  refine vcall_of_vrun Try.func135 rfl (N := 22) rfl rfl ?_
  refine vseq ?_
  refine vregion ?_
  refine vone rfl (vxq (vas rfl) rfl rfl ?_)
  refine vnil ?_
  refine vseq ?_
  refine vregion ?_
  refine vone rfl (vxq (vas rfl) rfl rfl ?_)
  refine vnil ?_
  refine vseq ?_
  refine vseq ?_
  refine vregion ?_
  refine vone rfl (vxq (vas rfl) rfl rfl ?_)
  refine vnil ?_
  refine vblock ?_
  refine vwhile (σ := Int × Int) (fun ⟨r, bit⟩ => bit.toNat) (fun ⟨r, bit⟩ => [(0, I n), (3, I r), (4, I bit)]) (fun ⟨r, bit⟩ => H) (fun ⟨r, bit⟩ => RtInv n r bit) (0, 1048576) (RtInv.start (by omega)) ⟨rfl, rfl, rfl, True.intro⟩ (by repeat first | exact .refl _ | refine .cons_cons _ ?_ | refine .cons _ ?_ | exact sl0 _ | refine slA ?_) ?_
  rintro ⟨r, bit⟩ hI IH
  change VRun _ _ _ _ _ [(0, I n), (3, I r), (4, I bit)] _ (H) _
  refine vseq ?_
  refine vseq ?_
  refine vregion ?_
  refine vone rfl (vxq (vmv rfl) rfl rfl ?_)
  refine vone rfl (vxq (vgtr rfl rfl) rfl rfl ?_)
  refine vnil ?_
  refine vcondd rfl (fun h6 => ?_) (fun h6 => ?_)
  · skip
    have hbd := hI.bd
    refine vskip ?_
    refine vseq ?_
    refine vblock ?_
    refine vseq ?_
    refine vregion ?_
    refine vone rfl (vxq (vmv rfl) rfl rfl ?_)
    refine vone rfl (vxq (vmv rfl) rfl rfl ?_)
    refine vone rfl (vxq (vadd rfl rfl (by unfold InR; omega)) rfl rfl ?_)
    refine vone rfl (vxq (vmv rfl) rfl rfl ?_)
    refine vone rfl (vxq (vmv rfl) rfl rfl ?_)
    refine vone rfl (vxq (vadd rfl rfl (by unfold InR; omega)) rfl rfl ?_)
    refine vone rfl (vxq (vmul rfl rfl (inR_mul (by omega) (by omega))) rfl rfl ?_)
    refine vone rfl (vxq (vmv rfl) rfl rfl ?_)
    refine vone rfl (vxq (vleq rfl rfl) rfl rfl ?_)
    refine vnil ?_
    refine vcondd rfl (fun h17 => ?_) (fun h17 => ?_)
    · skip
      refine vregion ?_
      refine vone rfl (vxq (vmv rfl) rfl rfl ?_)
      refine vone rfl (vxq (vmv rfl) rfl rfl ?_)
      refine vone rfl (vxq (vadd rfl rfl (by unfold InR; omega)) rfl rfl ?_)
      refine vone rfl (vxq (vas rfl) rfl rfl ?_)
      refine vnil ?_
      refine vinblock ?_
      refine vregion ?_
      refine vone rfl (vxq (vmv rfl) rfl rfl ?_)
      refine vone rfl (vxq (vquop rfl rfl (by omega) (by omega) (by unfold InR; omega)) rfl rfl ?_)
      refine vone rfl (vxq (vas rfl) rfl rfl ?_)
      refine vnil ?_
      first | exact vback (IH (r + bit, bit / 2) (hI.yes h6 h17) (by show (_ : Int).toNat < (_ : Int).toNat; omega)) ⟨rfl, rfl, rfl, True.intro⟩ (by repeat first | exact .refl _ | refine .cons_cons _ ?_ | refine .cons _ ?_ | exact sl0 _ | refine slA ?_) | exact vback (IH (r, bit / 2) (hI.no h6 h17) (by show (_ : Int).toNat < (_ : Int).toNat; omega)) ⟨rfl, rfl, rfl, True.intro⟩ (by repeat first | exact .refl _ | refine .cons_cons _ ?_ | refine .cons _ ?_ | exact sl0 _ | refine slA ?_)
    · skip
      refine vskip ?_
      refine vinblock ?_
      refine vregion ?_
      refine vone rfl (vxq (vmv rfl) rfl rfl ?_)
      refine vone rfl (vxq (vquop rfl rfl (by omega) (by omega) (by unfold InR; omega)) rfl rfl ?_)
      refine vone rfl (vxq (vas rfl) rfl rfl ?_)
      refine vnil ?_
      first | exact vback (IH (r + bit, bit / 2) (hI.yes h6 h17) (by show (_ : Int).toNat < (_ : Int).toNat; omega)) ⟨rfl, rfl, rfl, True.intro⟩ (by repeat first | exact .refl _ | refine .cons_cons _ ?_ | refine .cons _ ?_ | exact sl0 _ | refine slA ?_) | exact vback (IH (r, bit / 2) (hI.no h6 h17) (by show (_ : Int).toNat < (_ : Int).toNat; omega)) ⟨rfl, rfl, rfl, True.intro⟩ (by repeat first | exact .refl _ | refine .cons_cons _ ?_ | refine .cons _ ?_ | exact sl0 _ | refine slA ?_)
  · skip
    refine vexit (k' := _) rfl ?_
    refine vseq ?_
    refine vregion ?_
    refine vone rfl (vxq (vmv rfl) rfl rfl ?_)
    refine vone rfl (vxq (vas rfl) rfl rfl ?_)
    refine vnil ?_
    refine vret (vr1 (H' := H) Try.func135 rfl (.tmp rfl) (by repeat first | exact .refl _ | refine .cons_cons _ ?_ | refine .cons _ ?_ | exact sl0 _ | refine slA ?_) ?_)
    exact ⟨oI (rootP_eq (hI.done h6)).symm, rfl⟩
/-- paravane/region.Root -/
theorem c_Root (n : Int) : VPure Try.prog 75 [I n] (tup [I (rootE n).1, I (rootE n).2]) := by
  intro H
  refine vcall_of_vrun Try.func75 rfl (N := 9) rfl rfl ?_
  refine vseq ?_
  refine vregion ?_
  refine vone rfl (vxq (vas rfl) rfl rfl ?_)
  refine vone rfl (vxq (vas rfl) rfl rfl ?_)
  refine vnil ?_
  refine vseq ?_
  refine vseq ?_
  refine vregion ?_
  refine vone rfl (vxq (vmv rfl) rfl rfl ?_)
  refine vone rfl (vxq (vcp rfl rfl rfl (c_region_within _ _ _)) rfl rfl ?_)
  refine vone rfl (vxq (vnotd rfl) rfl rfl ?_)
  refine vnil ?_
  refine vcondd rfl (fun h6 => ?_) (fun h6 => ?_)
  · skip
    refine vseq ?_
    refine vregion ?_
    refine vone rfl (vxq (vas rfl) rfl rfl ?_)
    refine vone rfl (vxq (vas rfl) rfl rfl ?_)
    refine vnil ?_
    refine vret (vr2 (H' := H) Try.func75 rfl (.tmp rfl) (.tmp rfl) (by repeat first | exact .refl _ | refine .cons_cons _ ?_ | refine .cons _ ?_ | exact sl0 _ | refine slA ?_) ?_)
    first | (rw [show rootE n = (0, 7) from if_neg (by omega)]; exact ⟨rfl, rfl⟩) | (rw [show rootE n = (rootP n, 0) from if_pos (by omega)]; exact ⟨rfl, rfl⟩)
  · skip
    refine vskip ?_
    refine vseq ?_
    refine vregion ?_
    refine vone rfl (vxq (vmv rfl) rfl rfl ?_)
    refine vone rfl (vxq (vcp rfl rfl rfl (c_root n (by omega))) rfl rfl ?_)
    refine vone rfl (vxq (vas rfl) rfl rfl ?_)
    refine vone rfl (vxq (vas rfl) rfl rfl ?_)
    refine vnil ?_
    refine vret (vr2 (H' := H) Try.func75 rfl (.tmp rfl) (.tmp rfl) (by repeat first | exact .refl _ | refine .cons_cons _ ?_ | refine .cons _ ?_ | exact sl0 _ | refine slA ?_) ?_)
    first | (rw [show rootE n = (0, 7) from if_neg (by omega)]; exact ⟨rfl, rfl⟩) | (rw [show rootE n = (rootP n, 0) from if_pos (by omega)]; exact ⟨rfl, rfl⟩)
/-- paravane/paravaneref01.Root -/
theorem c_ref_Root (n : Int) : VPure Try.prog 76 [I n] (tup [I (rootE n).1, I (rootE n).2]) := by
  intro H
  refine vcall_of_vrun Try.func76 rfl (N := 26) rfl rfl ?_
  refine vseq ?_
  refine vregion ?_
  refine vone rfl (vxq (vas rfl) rfl rfl ?_)
  refine vone rfl (vxq (vas rfl) rfl rfl ?_)
  refine vnil ?_
  refine vseq ?_
  refine vseq ?_
  refine vregion ?_
  refine vone rfl (vxq (vmv rfl) rfl rfl ?_)
  refine vone rfl (vxq (vcp rfl rfl rfl (c_ref00_Between _ _ _)) rfl rfl ?_)
  refine vone rfl (vxq (vnotd rfl) rfl rfl ?_)
  refine vnil ?_
  refine vcondd rfl (fun h9 => ?_) (fun h9 => ?_)
  · skip
    refine vseq ?_
    refine vregion ?_
    refine vone rfl (vxq (vas rfl) rfl rfl ?_)
    refine vone rfl (vxq (vas rfl) rfl rfl ?_)
    refine vnil ?_
    refine vret (vr2 (H' := H) Try.func76 rfl (.tmp rfl) (.tmp rfl) (by repeat first | exact .refl _ | refine .cons_cons _ ?_ | refine .cons _ ?_ | exact sl0 _ | refine slA ?_) ?_)
    first | (rw [show rootE n = (0, 7) from if_neg (by omega)]; exact ⟨rfl, rfl⟩) | (rw [show rootE n = (rootP n, 0) from if_pos (by omega), rootP_eq (r := lo) ⟨h0, hl, by rw [show lo + 1 = hi by omega]; exact hu⟩]; exact ⟨rfl, rfl⟩)
  · skip
    refine vskip ?_
    refine vseq ?_
    refine vregion ?_
    refine vone rfl (vxq (vas rfl) rfl rfl ?_)
    refine vone rfl (vxq (vas rfl) rfl rfl ?_)
    refine vnil ?_
    refine vseq ?_
    refine vblock ?_
    refine vwhile (σ := Int × Int) (fun ⟨lo, hi⟩ => (hi - lo).toNat) (fun ⟨lo, hi⟩ => [(0, I n), (4, I lo), (5, I hi)]) (fun ⟨lo, hi⟩ => H) (fun ⟨lo, hi⟩ => (0 ≤ lo ∧ lo < hi ∧ hi ≤ 2097152) ∧ lo * lo ≤ n ∧ n < hi * hi) (0, 2097152) ⟨by omega, by omega, by omega⟩ ⟨rfl, rfl, rfl, True.intro⟩ (by repeat first | exact .refl _ | refine .cons_cons _ ?_ | refine .cons _ ?_ | exact sl0 _ | refine slA ?_) ?_
    rintro ⟨lo, hi⟩ ⟨⟨h0, hlh, hh⟩, hl, hu⟩ IH
    change VRun _ _ _ _ _ [(0, I n), (4, I lo), (5, I hi)] _ (H) _
    refine vseq ?_
    refine vseq ?_
    refine vregion ?_
    refine vone rfl (vxq (vmv rfl) rfl rfl ?_)
    refine vone rfl (vxq (vmv rfl) rfl rfl ?_)
    refine vone rfl (vxq (vsub rfl rfl (by unfold InR; omega)) rfl rfl ?_)
    refine vone rfl (vxq (vgtr rfl rfl) rfl rfl ?_)
    refine vnil ?_
    refine vcondd rfl (fun h13 => ?_) (fun h13 => ?_)
    · skip
      refine vskip ?_
      refine vblock ?_
      refine vseq ?_
      refine vregion ?_
      refine vone rfl (vxq (vmv rfl) rfl rfl ?_)
      refine vone rfl (vxq (vmv rfl) rfl rfl ?_)
      refine vone rfl (vxq (vadd rfl rfl (by unfold InR; omega)) rfl rfl ?_)
      refine vone rfl (vxq (vquop rfl rfl (by omega) (by omega) (by unfold InR; omega)) rfl rfl ?_)
      refine vone rfl (vxq (vas rfl) rfl rfl ?_)
      refine vnil ?_
      refine vseq ?_
      refine vregion ?_
      refine vone rfl (vxq (vmv rfl) rfl rfl ?_)
      refine vone rfl (vxq (vmv rfl) rfl rfl ?_)
      refine vone rfl (vxq (vmul rfl rfl (inR_mul (by omega) (by omega))) rfl rfl ?_)
      refine vone rfl (vxq (vmv rfl) rfl rfl ?_)
      refine vone rfl (vxq (vleq rfl rfl) rfl rfl ?_)
      refine vnil ?_
      refine vcondd rfl (fun h22 => ?_) (fun h22 => ?_)
      · skip
        refine vregion ?_
        refine vone rfl (vxq (vmv rfl) rfl rfl ?_)
        refine vone rfl (vxq (vas rfl) rfl rfl ?_)
        refine vnil ?_
        refine vinblock ?_
        first | exact vback (IH ((lo + hi) / 2, hi) ⟨by omega, h22, hu⟩ (by show (_ : Int).toNat < (_ : Int).toNat; omega)) ⟨rfl, rfl, rfl, True.intro⟩ (by repeat first | exact .refl _ | refine .cons_cons _ ?_ | refine .cons _ ?_ | exact sl0 _ | refine slA ?_) | exact vback (IH (lo, (lo + hi) / 2) ⟨by omega, hl, by omega⟩ (by show (_ : Int).toNat < (_ : Int).toNat; omega)) ⟨rfl, rfl, rfl, True.intro⟩ (by repeat first | exact .refl _ | refine .cons_cons _ ?_ | refine .cons _ ?_ | exact sl0 _ | refine slA ?_)
      · skip
        refine vregion ?_
        refine vone rfl (vxq (vmv rfl) rfl rfl ?_)
        refine vone rfl (vxq (vas rfl) rfl rfl ?_)
        refine vnil ?_
        refine vinblock ?_
        first | exact vback (IH ((lo + hi) / 2, hi) ⟨by omega, h22, hu⟩ (by show (_ : Int).toNat < (_ : Int).toNat; omega)) ⟨rfl, rfl, rfl, True.intro⟩ (by repeat first | exact .refl _ | refine .cons_cons _ ?_ | refine .cons _ ?_ | exact sl0 _ | refine slA ?_) | exact vback (IH (lo, (lo + hi) / 2) ⟨by omega, hl, by omega⟩ (by show (_ : Int).toNat < (_ : Int).toNat; omega)) ⟨rfl, rfl, rfl, True.intro⟩ (by repeat first | exact .refl _ | refine .cons_cons _ ?_ | refine .cons _ ?_ | exact sl0 _ | refine slA ?_)
    · skip
      refine vexit (k' := _) rfl ?_
      refine vseq ?_
      refine vregion ?_
      refine vone rfl (vxq (vmv rfl) rfl rfl ?_)
      refine vone rfl (vxq (vas rfl) rfl rfl ?_)
      refine vone rfl (vxq (vas rfl) rfl rfl ?_)
      refine vnil ?_
      refine vret (vr2 (H' := H) Try.func76 rfl (.tmp rfl) (.tmp rfl) (by repeat first | exact .refl _ | refine .cons_cons _ ?_ | refine .cons _ ?_ | exact sl0 _ | refine slA ?_) ?_)
      first | (rw [show rootE n = (0, 7) from if_neg (by omega)]; exact ⟨rfl, rfl⟩) | (rw [show rootE n = (rootP n, 0) from if_pos (by omega), rootP_eq (r := lo) ⟨h0, hl, by rw [show lo + 1 = hi by omega]; exact hu⟩]; exact ⟨rfl, rfl⟩)
/-- paravane/region.farthest -/
theorem c_farthest (n : Int) (hn : 0 ≤ n ∧ n ≤ 32768) : VPure Try.prog 102 [I n] (I (farP n)) := by
  have h2n : 0 ≤ 2 * n * n ∧ 2 * n * n ≤ 2147483648 := by have := mul_bd (a := 2 * n) (b := n) (m := 65536) (by omega) (by omega); have h3 := mul_bd (a := n) (b := n) (m := 32768) (by omega) (by omega); rw [Int.mul_assoc]; omega
  have hnn := mul_bd (a := n) (b := n) (m := 32768) (by omega) (by omega)
  have hrt := rootP_is h2n.1
  intro H
  refine vcall_of_vrun Try.func102 rfl (N := 31) rfl rfl ?_
  refine vseq ?_
  refine vregion ?_
  refine vone rfl (vxq (vas rfl) rfl rfl ?_)
  refine vnil ?_
  refine vseq ?_
  refine vregion ?_
  refine vone rfl (vxq (vmv rfl) rfl rfl ?_)
  refine vone rfl (vxq (vmul rfl rfl (by unfold InR; omega)) rfl rfl ?_)
  refine vone rfl (vxq (vmv rfl) rfl rfl ?_)
  refine vone rfl (vxq (vmul rfl rfl (by unfold InR; omega)) rfl rfl ?_)
  refine vone rfl (vxq (vcp rfl rfl rfl (c_root (2 * n * n) (by omega))) rfl rfl ?_)
  refine vone rfl (vxq (vas rfl) rfl rfl ?_)
  refine vnil ?_
  refine vseq ?_
  refine vblock ?_
  refine vwhile (σ := Int) (fun s => s.toNat) (fun s => [(0, I n), (3, I s)]) (fun s => H) (fun s => (0 ≤ s ∧ s ≤ 2097152) ∧ ∀ s', s < s' → n * n < half2 s') (rootP (2 * n * n)) ⟨⟨hrt.1, hrt.bd (by omega)⟩, far_start hrt⟩ ⟨rfl, rfl, True.intro⟩ (by repeat first | exact .refl _ | refine .cons_cons _ ?_ | refine .cons _ ?_ | exact sl0 _ | refine slA ?_) ?_
  rintro s ⟨⟨hs0, hs1⟩, hfar⟩ IH
  change VRun _ _ _ _ _ [(0, I n), (3, I s)] _ (H) _
  refine vseq ?_
  refine vseq ?_
  refine vregion ?_
  refine vone rfl (vxq (vmv rfl) rfl rfl ?_)
  refine vone rfl (vxq (vquop rfl rfl (by omega) (by omega) (by unfold InR; omega)) rfl rfl ?_)
  refine vone rfl (vxq (vmv rfl) rfl rfl ?_)
  refine vone rfl (vxq (vquop rfl rfl (by omega) (by omega) (by unfold InR; omega)) rfl rfl ?_)
  refine vone rfl (vxq (vmul rfl rfl (inR_mul (by omega) (by omega))) rfl rfl ?_)
  refine vone rfl (vxq (vmv rfl) rfl rfl ?_)
  refine vone rfl (vxq (vmv rfl) rfl rfl ?_)
  refine vone rfl (vxq (vquop rfl rfl (by omega) (by omega) (by unfold InR; omega)) rfl rfl ?_)
  refine vone rfl (vxq (vsub rfl rfl (by unfold InR; omega)) rfl rfl ?_)
  refine vone rfl (vxq (vmv rfl) rfl rfl ?_)
  refine vone rfl (vxq (vmv rfl) rfl rfl ?_)
  refine vone rfl (vxq (vquop rfl rfl (by omega) (by omega) (by unfold InR; omega)) rfl rfl ?_)
  refine vone rfl (vxq (vsub rfl rfl (by unfold InR; omega)) rfl rfl ?_)
  refine vone rfl (vxq (vmul rfl rfl (inR_mul (by omega) (by omega))) rfl rfl ?_)
  refine vone rfl (vxq (vadd rfl rfl (by have h1 := mul_bd (a := s / 2) (b := s / 2) (m := 4194304) (by omega) (by omega); have h2 := mul_bd (a := s - s / 2) (b := s - s / 2) (m := 4194304) (by omega) (by omega); unfold InR; omega)) rfl rfl ?_)
  refine vone rfl (vxq (vmv rfl) rfl rfl ?_)
  refine vone rfl (vxq (vmv rfl) rfl rfl ?_)
  refine vone rfl (vxq (vmul rfl rfl (inR_mul (by omega) (by omega))) rfl rfl ?_)
  refine vone rfl (vxq (vgtr rfl rfl) rfl rfl ?_)
  refine vnil ?_
  refine vcondd rfl (fun h27 => ?_) (fun h27 => ?_)
  · skip
    refine vskip ?_
    refine vblock ?_
    refine vregion ?_
    refine vone rfl (vxq (vmv rfl) rfl rfl ?_)
    refine vone rfl (vxq (vsub rfl rfl (by unfold InR; omega)) rfl rfl ?_)
    refine vone rfl (vxq (vas rfl) rfl rfl ?_)
    refine vnil ?_
    refine vinblock ?_
    have hpos : 0 < s := by
      rcases Int.lt_or_le 0 s with h | h
      · exact h
      · have : s = 0 := by omega
        subst this; exact absurd h27 (by simp; omega)
    exact vback (IH (s - 1) ⟨by omega, fun s' hs' => by
        by_cases e : s' = s
        · subst e; exact h27
        · exact hfar s' (by omega)⟩ (by show (_ : Int).toNat < (_ : Int).toNat; omega)) ⟨rfl, rfl, True.intro⟩ (by repeat first | exact .refl _ | refine .cons_cons _ ?_ | refine .cons _ ?_ | exact sl0 _ | refine slA ?_)
  · skip
    refine vexit (k' := _) rfl ?_
    refine vseq ?_
    refine vregion ?_
    refine vone rfl (vxq (vmv rfl) rfl rfl ?_)
    refine vone rfl (vxq (vas rfl) rfl rfl ?_)
    refine vnil ?_
    refine vret (vr1 (H' := H) Try.func102 rfl (.tmp rfl) (by repeat first | exact .refl _ | refine .cons_cons _ ?_ | refine .cons _ ?_ | exact sl0 _ | refine slA ?_) ?_)
    exact ⟨oI (farP_eq hn.1 ⟨hs0, Int.not_lt.1 h27, hfar⟩).symm, rfl⟩

structure WInv (n best x y : Int) : Prop where
  bd : (0 ≤ x ∧ x ≤ n + 1) ∧ (0 ≤ y ∧ y ≤ n) ∧ 0 ≤ best ∧ best ≤ 70000
  over : ∀ a b, x ≤ a → y < b → n * n < a * a + b * b
  all : ∀ a b, 0 ≤ a → a < x → 0 ≤ b → a * a + b * b ≤ n * n → a + b ≤ best
  some : ∃ a b, 0 ≤ a ∧ 0 ≤ b ∧ a * a + b * b ≤ n * n ∧ a + b = best
theorem WInv.start {n : Int} (hn : 0 ≤ n ∧ n ≤ 32768) : WInv n 0 0 n := by
  refine ⟨by omega, fun a b ha hb => ?_, fun a b ha hx => by omega, 0, 0, by omega, by omega, by have := sq_nn n; omega, by omega⟩
  have h1 := sq_lt hn.1 hb
  have h2 := sq_nn a
  omega
theorem WInv.less {n best x y : Int} (h : WInv n best x y) (hx : x ≤ n) (hg : x * x + y * y > n * n) : 0 < y ∧ WInv n best x (y - 1) := by
  have hb := h.bd
  have hpos : 0 < y := by
    rcases Int.lt_or_le 0 y with h0 | h0
    · exact h0
    · have e : y = 0 := by omega
      subst e
      have := sq_mono hb.1.1 hx
      omega
  refine ⟨hpos, by omega, fun a b ha hb' => ?_, h.all, h.some⟩
  by_cases e : b = y
  · subst e
    have := sq_mono hb.1.1 ha
    omega
  · exact h.over a b ha (by omega)
theorem WInv.next {n best x y : Int} (hn : n ≤ 32768) (h : WInv n best x y) (hx : x ≤ n) (hg : ¬ x * x + y * y > n * n) : WInv n (max best (x + y)) (x + 1) y := by
  have hb := h.bd
  refine ⟨by omega, fun a b ha hb' => h.over a b (by omega) hb', fun a b ha hax hb' hab => ?_, ?_⟩
  · by_cases e : a = x
    · subst e
      rcases Int.lt_or_le y b with h1 | h1
      · have := h.over a b (by omega) h1; omega
      · omega
    · have := h.all a b ha (by omega) hb' hab; omega
  · rcases Int.le_total best (x + y) with h1 | h1
    · exact ⟨x, y, hb.1.1, hb.2.1.1, by omega, by omega⟩
    · obtain ⟨a, b, h2, h3, h4, h5⟩ := h.some
      exact ⟨a, b, h2, h3, h4, by omega⟩
theorem WInv.done {n best x y : Int} (h : WInv n best x y) (hx : ¬ x ≤ n) (hn : 0 ≤ n) : farP n = best := by
  refine farP_eq hn (far_of_widest hn h.some fun a b ha hb hab => h.all a b ha ?_ hb hab)
  rcases Int.lt_or_le a x with h1 | h1
  · exact h1
  · have h2 := sq_lt hn (show n < a by omega)
    have h3 := sq_nn b
    omega

/-- paravane/paravaneref01.widest -/
theorem c_widest (n : Int) (hn : 0 ≤ n ∧ n ≤ 32768) : VPure Try.prog 103 [I n] (I (farP n)) := by
  intro H
  refine vcall_of_vrun Try.func103 rfl (N := 31) rfl rfl ?_
  refine vseq ?_
  refine vregion ?_
  refine vone rfl (vxq (vas rfl) rfl rfl ?_)
  refine vnil ?_
  refine vseq ?_
  refine vregion ?_
  refine vone rfl (vxq (vmv rfl) rfl rfl ?_)
  refine vone rfl (vxq (vas rfl) rfl rfl ?_)
  refine vone rfl (vxq (vas rfl) rfl rfl ?_)
  refine vnil ?_
  refine vseq ?_
  refine vseq ?_
  refine vregion ?_
  refine vone rfl (vxq (vas rfl) rfl rfl ?_)
  refine vnil ?_
  refine vblock ?_
  refine vwhile (σ := Int × Int × Int) (fun ⟨best, x, y⟩ => (n + 1 - x).toNat) (fun ⟨best, x, y⟩ => [(0, I n), (3, I best), (4, I y), (5, I x)]) (fun ⟨best, x, y⟩ => H) (fun ⟨best, x, y⟩ => WInv n best x y) (0, 0, n) (WInv.start hn) ⟨rfl, rfl, rfl, rfl, True.intro⟩ (by repeat first | exact .refl _ | refine .cons_cons _ ?_ | refine .cons _ ?_ | exact sl0 _ | refine slA ?_) ?_
  rintro ⟨best, x, y⟩ hI IH
  change VRun _ _ _ _ _ [(0, I n), (3, I best), (4, I y), (5, I x)] _ (H) _
  refine vseq ?_
  refine vseq ?_
  refine vregion ?_
  refine vone rfl (vxq (vmv rfl) rfl rfl ?_)
  refine vone rfl (vxq (vmv rfl) rfl rfl ?_)
  refine vone rfl (vxq (vleq rfl rfl) rfl rfl ?_)
  refine vnil ?_
  refine vcondd rfl (fun h9 => ?_) (fun h9 => ?_)
  · skip
    have hbd := hI.bd
    refine vskip ?_
    refine vseq ?_
    refine vblock ?_
    refine vseq ?_
    refine vblock ?_
    refine vwhile (σ := Int) (fun y => y.toNat) (fun y => [(0, I n), (3, I best), (4, I y), (5, I x)]) (fun y => H) (fun y => WInv n best x y) y hI ⟨rfl, rfl, rfl, rfl, True.intro⟩ (by repeat first | exact .refl _ | refine .cons_cons _ ?_ | refine .cons _ ?_ | exact sl0 _ | refine slA ?_) ?_
    rintro y hI IH2
    change VRun _ _ _ _ _ [(0, I n), (3, I best), (4, I y), (5, I x)] _ (H) _
    have hbd := hI.bd
    refine vseq ?_
    refine vseq ?_
    refine vregion ?_
    refine vone rfl (vxq (vmv rfl) rfl rfl ?_)
    refine vone rfl (vxq (vmv rfl) rfl rfl ?_)
    refine vone rfl (vxq (vmul rfl rfl (inR_mul (by omega) (by omega))) rfl rfl ?_)
    refine vone rfl (vxq (vmv rfl) rfl rfl ?_)
    refine vone rfl (vxq (vmv rfl) rfl rfl ?_)
    refine vone rfl (vxq (vmul rfl rfl (inR_mul (by omega) (by omega))) rfl rfl ?_)
    refine vone rfl (vxq (vadd rfl rfl (by have h1 := mul_bd (a := x) (b := x) (m := 4194304) (by omega) (by omega); have h2 := mul_bd (a := y) (b := y) (m := 4194304) (by omega) (by omega); unfold InR; omega)) rfl rfl ?_)
    refine vone rfl (vxq (vmv rfl) rfl rfl ?_)
    refine vone rfl (vxq (vmv rfl) rfl rfl ?_)
    refine vone rfl (vxq (vmul rfl rfl (inR_mul (by omega) (by omega))) rfl rfl ?_)
    refine vone rfl (vxq (vgtr rfl rfl) rfl rfl ?_)
    refine vnil ?_
    refine vcondd rfl (fun h22 => ?_) (fun h22 => ?_)
    · skip
      refine vskip ?_
      refine vblock ?_
      refine vregion ?_
      refine vone rfl (vxq (vmv rfl) rfl rfl ?_)
      refine vone rfl (vxq (vsub rfl rfl (by unfold InR; omega)) rfl rfl ?_)
      refine vone rfl (vxq (vas rfl) rfl rfl ?_)
      refine vnil ?_
      refine vinblock ?_
      exact vback (IH2 (y - 1) (hI.less h9 h22).2 (by have := (hI.less h9 h22).1; show (_ : Int).toNat < (_ : Int).toNat; omega)) ⟨rfl, rfl, rfl, rfl, True.intro⟩ (by repeat first | exact .refl _ | refine .cons_cons _ ?_ | refine .cons _ ?_ | exact sl0 _ | refine slA ?_)
    · skip
      refine vexit (k' := _) rfl ?_
      refine vregion ?_
      refine vone rfl (vxq (vmv rfl) rfl rfl ?_)
      refine vone rfl (vxq (vmv rfl) rfl rfl ?_)
      refine vone rfl (vxq (vmv rfl) rfl rfl ?_)
      refine vone rfl (vxq (vadd rfl rfl (by unfold InR; omega)) rfl rfl ?_)
      refine vone rfl (vxq (vmax2 rfl rfl) rfl rfl ?_)
      refine vone rfl (vxq (vas rfl) rfl rfl ?_)
      refine vnil ?_
      refine vinblock ?_
      refine vregion ?_
      refine vone rfl (vxq (vmv rfl) rfl rfl ?_)
      refine vone rfl (vxq (vadd rfl rfl (by unfold InR; omega)) rfl rfl ?_)
      refine vone rfl (vxq (vas rfl) rfl rfl ?_)
      refine vnil ?_
      exact vback (IH (max best (x + y), x + 1, y) (hI.next hn.2 h9 h22) (by show (_ : Int).toNat < (_ : Int).toNat; omega)) ⟨rfl, rfl, rfl, rfl, True.intro⟩ (by repeat first | exact .refl _ | refine .cons_cons _ ?_ | refine .cons _ ?_ | exact sl0 _ | refine slA ?_)
  · skip
    refine vexit (k' := _) rfl ?_
    refine vseq ?_
    refine vregion ?_
    refine vone rfl (vxq (vmv rfl) rfl rfl ?_)
    refine vone rfl (vxq (vas rfl) rfl rfl ?_)
    refine vnil ?_
    refine vret (vr1 (H' := H) Try.func103 rfl (.tmp rfl) (by repeat first | exact .refl _ | refine .cons_cons _ ?_ | refine .cons _ ?_ | exact sl0 _ | refine slA ?_) ?_)
    exact ⟨oI (hI.done h9 hn.1).symm, rfl⟩
/-- paravane/paravaneref01.wider -/
theorem c_wider (b : Bd) (n l : Int) (hb : b.sm 65536) (hn : 0 ≤ n ∧ n ≤ 70000) (hl : 0 ≤ l ∧ l ≤ 65536) : VPure Try.prog 104 [vB b, I n, I l] (vB (b.wide n l)) := by
  unfold Bd.sm at hb
  intro H
  refine vcall_of_vrun Try.func104 rfl (N := 24) rfl rfl ?_
  refine vseq ?_
  refine vregion ?_
  refine vone rfl (vxa (vbox rfl rfl) rfl rfl (fun b1 => ?_))
  refine vone rfl (vxa valloc rfl rfl (fun b2 => ?_))
  refine vnil ?_
  refine vseq ?_
  refine vdraw0 [(.q, 0), (.q, 1), (.q, 2), (.q, 3), (.q, 4), (.q, 5), (.q, 6), (.q, 7), (.q, 8), (.q, 9), (.q, 10), (.q, 11), (.q, 12), (.q, 13), (.q, 14), (.q, 15), (.q, 16), (.c, 17)] Try.mixed (by kernel_rfl) (by kernel_rfl) ?_
  refine vdq (mone rfl) (vfa rfl) rfl rfl ?_
  refine vdq (mone rfl) (vld1 rfl rfl) rfl rfl ?_
  refine vdq (mone rfl) (vmv rfl) rfl rfl ?_
  refine vdq (mone rfl) (vsub rfl rfl (by unfold InR; omega)) rfl rfl ?_
  refine vdq (mone rfl) (vmv rfl) rfl rfl ?_
  refine vdq (mone rfl) (vneg rfl (by unfold InR; omega)) rfl rfl ?_
  refine vdq (mone rfl) (vmv rfl) rfl rfl ?_
  refine vdq (mone rfl) (vcp rfl rfl rfl (c_ref00_Into _ _ _)) rfl rfl ?_
  refine vdq (mone rfl) (vfa rfl) rfl rfl ?_
  refine vdq (mone rfl) (vld1 rfl rfl) rfl rfl ?_
  refine vdq (mone rfl) (vmv rfl) rfl rfl ?_
  refine vdq (mone rfl) (vadd rfl rfl (by unfold InR; omega)) rfl rfl ?_
  refine vdq (mone rfl) (vmv rfl) rfl rfl ?_
  refine vdq (mone rfl) (vneg rfl (by unfold InR; omega)) rfl rfl ?_
  refine vdq (mone rfl) (vmv rfl) rfl rfl ?_
  refine vdq (mone rfl) (vcp rfl rfl rfl (c_ref00_Into _ _ _)) rfl rfl ?_
  refine vdq (mone rfl) (vbd rfl rfl) rfl rfl ?_
  refine vdcs (mone rfl) (vstn rfl rfl rfl rfl rfl) rfl ?_
  refine vdend rfl ?_
  refine vret (vr1 (H' := H) Try.func104 rfl (.celln rfl rfl) (by repeat first | exact .refl _ | refine .cons_cons _ ?_ | refine .cons _ ?_ | exact sl0 _ | refine slA ?_) ?_)
  exact ⟨oV (by simp only [Bd.wide, intoI]), rfl⟩

theorem reachE_11 {r : Rg} {n : Int} (h : chkR r ≠ 0) : reachE r n = (zR, chkR r) := by rw [reachE, if_neg (chkR_nz.1 h), chkR_no (chkR_nz.1 h)]
theorem reachE_7 {r : Rg} {n : Int} (h : ¬ chkR r ≠ 0) (hv : ¬ (0 ≤ n ∧ n ≤ 32768)) : reachE r n = (zR, 7) := by rw [reachE, if_pos (ok_c h), if_neg hv]
theorem reachE_4 {r : Rg} {n : Int} (h : ¬ chkR r ≠ 0) (hv : 0 ≤ n ∧ n ≤ 32768) (e : tightP r = none) : reachE r n = (zR, 4) := by rw [reachE, if_pos (ok_c h), if_pos hv, e]
theorem reachE_0 {r x : Rg} {n : Int} (h : ¬ chkR r ≠ 0) (hv : 0 ≤ n ∧ n ≤ 32768) (e : tightP r = some x) : reachE r n = optE (tightP (wideR x n (farP n))) := by rw [reachE, if_pos (ok_c h), if_pos hv, e]
theorem farP_bd {n : Int} (hn : 0 ≤ n ∧ n ≤ 32768) : 0 ≤ farP n ∧ farP n ≤ 65536 := by
  have h := farP_is hn.1
  have := far_bd h hn.1
  have := h.1
  omega

/-- paravane/paravaneref01.Reach -/
theorem c_ref_Reach (r : Rg) (n : Int) : VPure Try.prog 32 [vR r, I n] (tup [vR (reachE r n).1, I (reachE r n).2]) := by
  intro H
  refine vcall_of_vrun Try.func32 rfl (N := 53) rfl rfl ?_
  refine vseq ?_
  refine vregion ?_
  refine vone rfl (vxa (vbox rfl rfl) rfl rfl (fun b1 => ?_))
  refine vone rfl (vxa valloc rfl rfl (fun b2 => ?_))
  refine vone rfl (vxq (vas rfl) rfl rfl ?_)
  refine vnil ?_
  refine vseq ?_
  refine vseq ?_
  refine vregion ?_
  refine vone rfl (vxq (vldn rfl rfl) rfl rfl ?_)
  refine vone rfl (vxq (vcp rfl rfl rfl (c_ref_Check r)) rfl rfl ?_)
  refine vone rfl (vxq (vas rfl) rfl rfl ?_)
  refine vnil ?_
  refine vseq ?_
  refine vregion ?_
  refine vone rfl (vxq (vmv rfl) rfl rfl ?_)
  refine vone rfl (vxq (vneq rfl rfl) rfl rfl ?_)
  refine vnil ?_
  refine vcondd rfl (fun h13 => ?_) (fun h13 => ?_)
  · skip
    refine vseq ?_
    refine vregion ?_
    refine vone rfl (vxq (vbd rfl rfl) rfl rfl ?_)
    refine vone rfl (vxq (vmv rfl) rfl rfl ?_)
    refine vone rfl (vxs (vstn rfl rfl rfl rfl rfl) rfl ?_)
    refine vone rfl (vxq (vas rfl) rfl rfl ?_)
    refine vnil ?_
    refine vret (vr2 (H' := H) Try.func32 rfl (.celln rfl rfl) (.tmp rfl) (by repeat first | exact .refl _ | refine .cons_cons _ ?_ | refine .cons _ ?_ | exact sl0 _ | refine slA ?_) ?_)
    first | (rw [reachE_11 h13]; exact ⟨rfl, rfl⟩) | (rw [reachE_7 h13 (by omega)]; exact ⟨rfl, rfl⟩) | (rw [reachE_4 h13 (by omega) (errO_nz h27), show (optE (tightP r)).2 = 4 from errO_none (errO_nz h27)]; exact ⟨rfl, rfl⟩) | (obtain ⟨gx, ex⟩ := errO_z (nn h27); rw [reachE_0 h13 (by omega) ex]; exact ⟨by rw [ex]; rfl, rfl⟩)
  · skip
    refine vskip ?_
    refine vseq ?_
    refine vseq ?_
    refine vregion ?_
    refine vone rfl (vxq (vmv rfl) rfl rfl ?_)
    refine vone rfl (vxq (vcp rfl rfl rfl (c_ref00_Between _ _ _)) rfl rfl ?_)
    refine vone rfl (vxq (vnotd rfl) rfl rfl ?_)
    refine vnil ?_
    refine vcondd rfl (fun h18 => ?_) (fun h18 => ?_)
    · skip
      refine vseq ?_
      refine vregion ?_
      refine vone rfl (vxq (vbd rfl rfl) rfl rfl ?_)
      refine vone rfl (vxs (vstn rfl rfl rfl rfl rfl) rfl ?_)
      refine vone rfl (vxq (vas rfl) rfl rfl ?_)
      refine vnil ?_
      refine vret (vr2 (H' := H) Try.func32 rfl (.celln rfl rfl) (.tmp rfl) (by repeat first | exact .refl _ | refine .cons_cons _ ?_ | refine .cons _ ?_ | exact sl0 _ | refine slA ?_) ?_)
      first | (rw [reachE_11 h13]; exact ⟨rfl, rfl⟩) | (rw [reachE_7 h13 (by omega)]; exact ⟨rfl, rfl⟩) | (rw [reachE_4 h13 (by omega) (errO_nz h27), show (optE (tightP r)).2 = 4 from errO_none (errO_nz h27)]; exact ⟨rfl, rfl⟩) | (obtain ⟨gx, ex⟩ := errO_z (nn h27); rw [reachE_0 h13 (by omega) ex]; exact ⟨by rw [ex]; rfl, rfl⟩)
    · skip
      refine vskip ?_
      refine vseq ?_
      refine vregion ?_
      refine vone rfl (vxq (vldn rfl rfl) rfl rfl ?_)
      refine vone rfl (vxg (vbs rfl rfl rfl rfl rfl rfl) rfl rfl ?_)
      rintro _ _ ⟨b3, rfl, rfl⟩
      refine vone rfl (vxq (vcq rfl rfl rfl ((h_hulls1 r ((ok_c h13).sm.mono (by decide)) b3).fr1)) rfl rfl ?_)
      refine vone rfl (vxq (vmv rfl) rfl rfl ?_)
      refine vone rfl (vxq (vex rfl rfl) rfl rfl ?_)
      refine vone rfl (vxq (vex rfl rfl) rfl rfl ?_)
      refine vone rfl (vxa valloc rfl rfl (fun b4 => ?_))
      refine vone rfl (vxs (vstn rfl rfl rfl rfl rfl) rfl ?_)
      refine vone rfl (vxq (vas rfl) rfl rfl ?_)
      refine vnil ?_
      refine vseq ?_
      refine vseq ?_
      refine vregion ?_
      refine vone rfl (vxq (vmv rfl) rfl rfl ?_)
      refine vone rfl (vxq (vneq rfl rfl) rfl rfl ?_)
      refine vnil ?_
      refine vcondd rfl (fun h27 => ?_) (fun h27 => ?_)
      · skip
        refine vseq ?_
        refine vregion ?_
        refine vone rfl (vxq (vbd rfl rfl) rfl rfl ?_)
        refine vone rfl (vxq (vmv rfl) rfl rfl ?_)
        refine vone rfl (vxs (vstn rfl rfl rfl rfl rfl) rfl ?_)
        refine vone rfl (vxq (vas rfl) rfl rfl ?_)
        refine vnil ?_
        refine vret (vr2 (H' := H) Try.func32 rfl (.celln rfl rfl) (.tmp rfl) (by repeat first | exact .refl _ | refine .cons_cons _ ?_ | refine .cons _ ?_ | exact sl0 _ | refine slA ?_) ?_)
        first | (rw [reachE_11 h13]; exact ⟨rfl, rfl⟩) | (rw [reachE_7 h13 (by omega)]; exact ⟨rfl, rfl⟩) | (rw [reachE_4 h13 (by omega) (errO_nz h27), show (optE (tightP r)).2 = 4 from errO_none (errO_nz h27)]; exact ⟨rfl, rfl⟩) | (obtain ⟨gx, ex⟩ := errO_z (nn h27); rw [reachE_0 h13 (by omega) ex]; exact ⟨by rw [ex]; rfl, rfl⟩)
      · skip
        refine vskip ?_
        refine vseq ?_
        refine vregion ?_
        refine vone rfl (vxq (vmv rfl) rfl rfl ?_)
        refine vone rfl (vxq (vcp rfl rfl rfl (c_widest n (by omega))) rfl rfl ?_)
        refine vone rfl (vxq (vas rfl) rfl rfl ?_)
        refine vnil ?_
        refine vseq ?_
        refine vdraw0 [(.q, 0), (.q, 1), (.q, 2), (.q, 3), (.q, 4), (.q, 5), (.q, 6), (.q, 7), (.q, 8), (.q, 9), (.q, 10), (.q, 11), (.q, 12), (.q, 13), (.q, 14), (.q, 15), (.q, 16), (.m, 17), (.n, 18), (.q, 19), (.q, 20), (.c, 21), (.q, 22)] Try.mixed (by kernel_rfl) (by kernel_rfl) ?_
        refine vdq (mone rfl) (vfa rfl) rfl rfl ?_
        refine vdq (mone rfl) (vldn rfl rfl) rfl rfl ?_
        refine vdq (mone rfl) (vmv rfl) rfl rfl ?_
        refine vdq (mone rfl) (vcp rfl rfl rfl (c_wider (optE (tightP r)).1.x n 32768 (optE_sm (ok_c h13)).1 (by omega) (by omega))) rfl rfl ?_
        refine vdq (mone rfl) (vfa rfl) rfl rfl ?_
        refine vdq (mone rfl) (vldn rfl rfl) rfl rfl ?_
        refine vdq (mone rfl) (vmv rfl) rfl rfl ?_
        refine vdq (mone rfl) (vcp rfl rfl rfl (c_wider (optE (tightP r)).1.y n 32768 (optE_sm (ok_c h13)).2.1 (by omega) (by omega))) rfl rfl ?_
        refine vdq (mone rfl) (vfa rfl) rfl rfl ?_
        refine vdq (mone rfl) (vldn rfl rfl) rfl rfl ?_
        refine vdq (mone rfl) (vmv rfl) rfl rfl ?_
        refine vdq (mone rfl) (vcp rfl rfl rfl (c_wider (optE (tightP r)).1.s (farP n) 65536 (optE_sm (ok_c h13)).2.2.1 (by have := farP_bd (n := n) (by omega); omega) (by omega))) rfl rfl ?_
        refine vdq (mone rfl) (vfa rfl) rfl rfl ?_
        refine vdq (mone rfl) (vldn rfl rfl) rfl rfl ?_
        refine vdq (mone rfl) (vmv rfl) rfl rfl ?_
        refine vdq (mone rfl) (vcp rfl rfl rfl (c_wider (optE (tightP r)).1.d (farP n) 65536 (optE_sm (ok_c h13)).2.2.2 (by have := farP_bd (n := n) (by omega); omega) (by omega))) rfl rfl ?_
        refine vdq (mone rfl) (vbd rfl rfl) rfl rfl ?_
        refine vdm (mone rfl) (vbsP rfl rfl rfl rfl rfl rfl) rfl rfl (fun b5 => ?_)
        refine vdn rfl (mone rfl) (vcq rfl rfl rfl ((h_hulls1 (wideR (optE (tightP r)).1 n (farP n)) ((wideR_sm _ _ _).mono (by decide)) b5).fr1)) rfl rfl ?_
        refine vdq (mone rfl) (vex rfl rfl) rfl rfl ?_
        refine vdq (mone rfl) (vex rfl rfl) rfl rfl ?_
        refine vdcs (mone rfl) (vstn rfl rfl rfl rfl rfl) rfl ?_
        refine vdq (mone rfl) (vas rfl) rfl rfl ?_
        refine vdend rfl ?_
        refine vret (vr2 (H' := H) Try.func32 rfl (.celln rfl rfl) (.tmp rfl) (by repeat first | exact .refl _ | refine .cons_cons _ ?_ | refine .cons _ ?_ | exact sl0 _ | refine slA ?_) ?_)
        first | (rw [reachE_11 h13]; exact ⟨rfl, rfl⟩) | (rw [reachE_7 h13 (by omega)]; exact ⟨rfl, rfl⟩) | (rw [reachE_4 h13 (by omega) (errO_nz h27), show (optE (tightP r)).2 = 4 from errO_none (errO_nz h27)]; exact ⟨rfl, rfl⟩) | (obtain ⟨gx, ex⟩ := errO_z (nn h27); rw [reachE_0 h13 (by omega) ex]; exact ⟨by rw [ex]; rfl, rfl⟩)
end Go.Proofs.Ytffpfcomikcimaa
