/-
  Walks of what reads slices of points: Of, of both.
-/
import Derived.Test.YtffpfcomikcimaaWd
import Derived.Test.YtffpfcomikcimaaSlc
namespace Go.Proofs.Ytffpfcomikcimaa
open Go
set_option maxRecDepth 100000

abbrev encP (p : Pt) : List Value := [I p.x, I p.y]
abbrev sli (oa : Option Addr) (n c : Nat) : Value := .slice oa n c
def fst2 (a b : Int) : Int := if a ≠ 0 then a else b

/-- paravane/region.first -/
theorem h_first2 (a b : Int) (bs : Nat) : VHas Try.prog 110 [.slice (some ⟨bs, 0, Option.none⟩) 2 2] (I (fst2 a b)) ([(bs, blk [I a, I b] 27)]) ([(bs, blk [I a, I b] 27)]) := by
  refine vcall_of_vrun Try.func110 rfl (N := 15) rfl rfl ?_
  refine vseq ?_
  refine vregion ?_
  refine vone rfl (vxq (vas rfl) rfl rfl ?_)
  refine vnil ?_
  refine vseq ?_
  refine vseq ?_
  refine vregion ?_
  refine vone rfl (vxq (vmv rfl) rfl rfl ?_)
  refine vone rfl (vxq (vlen rfl) rfl rfl ?_)
  refine vone rfl (vxq (vmv rfl) rfl rfl ?_)
  refine vnil ?_
  refine vblock ?_
  refine vloop1 ?_
  refine vseq ?_
  refine vregion ?_
  refine vone rfl (vxq (vlss rfl rfl) rfl rfl ?_)
  refine vnil ?_
  refine vseq ?_
  refine vcondt rfl ?_
  refine vskip ?_
  refine vseq ?_
  refine vblock ?_
  refine vseq ?_
  refine vregion ?_
  refine vone rfl (vxq (vis rfl rfl (by omega)) rfl rfl ?_)
  refine vone rfl (vxq (vld1 rfl rfl) rfl rfl ?_)
  refine vone rfl (vxq (vas rfl) rfl rfl ?_)
  refine vnil ?_
  refine vseq ?_
  refine vregion ?_
  refine vone rfl (vxq (vmv rfl) rfl rfl ?_)
  refine vone rfl (vxq (vneq rfl rfl) rfl rfl ?_)
  refine vnil ?_
  refine vcondd rfl (fun h12 => ?_) (fun h12 => ?_)
  · skip
    refine vseq ?_
    refine vregion ?_
    refine vone rfl (vxq (vmv rfl) rfl rfl ?_)
    refine vone rfl (vxq (vas rfl) rfl rfl ?_)
    refine vnil ?_
    refine vret (vr1 (H' := [(bs, blk [I a, I b] 27)]) Try.func110 rfl (.tmp rfl) (by repeat first | exact .refl _ | refine .cons_cons _ ?_ | refine .cons _ ?_ | exact sl0 _ | refine slA ?_) ?_)
    exact ⟨oI (by unfold fst2; split <;> omega), rfl⟩
  · skip
    refine vskip ?_
    refine vinblock ?_
    refine vregion ?_
    refine vone rfl (vxq (vadd rfl rfl (by unfold InR; omega)) rfl rfl ?_)
    refine vone rfl (vxq (vmv rfl) rfl rfl ?_)
    refine vnil ?_
    refine vinloop1 ?_
    refine vseq ?_
    refine vregion ?_
    refine vone rfl (vxq (vlss rfl rfl) rfl rfl ?_)
    refine vnil ?_
    refine vseq ?_
    refine vcondt rfl ?_
    refine vskip ?_
    refine vseq ?_
    refine vblock ?_
    refine vseq ?_
    refine vregion ?_
    refine vone rfl (vxq (vis rfl rfl (by omega)) rfl rfl ?_)
    refine vone rfl (vxq (vld1 rfl rfl) rfl rfl ?_)
    refine vone rfl (vxq (vas rfl) rfl rfl ?_)
    refine vnil ?_
    refine vseq ?_
    refine vregion ?_
    refine vone rfl (vxq (vmv rfl) rfl rfl ?_)
    refine vone rfl (vxq (vneq rfl rfl) rfl rfl ?_)
    refine vnil ?_
    refine vcondd rfl (fun h12 => ?_) (fun h12 => ?_)
    · skip
      refine vseq ?_
      refine vregion ?_
      refine vone rfl (vxq (vmv rfl) rfl rfl ?_)
      refine vone rfl (vxq (vas rfl) rfl rfl ?_)
      refine vnil ?_
      refine vret (vr1 (H' := [(bs, blk [I a, I b] 27)]) Try.func110 rfl (.tmp rfl) (by repeat first | exact .refl _ | refine .cons_cons _ ?_ | refine .cons _ ?_ | exact sl0 _ | refine slA ?_) ?_)
      exact ⟨oI (by unfold fst2; split <;> omega), rfl⟩
    · skip
      refine vskip ?_
      refine vinblock ?_
      refine vregion ?_
      refine vone rfl (vxq (vadd rfl rfl (by unfold InR; omega)) rfl rfl ?_)
      refine vone rfl (vxq (vmv rfl) rfl rfl ?_)
      refine vnil ?_
      refine vinloop1 ?_
      refine vseq ?_
      refine vregion ?_
      refine vone rfl (vxq (vlss rfl rfl) rfl rfl ?_)
      refine vnil ?_
      refine vseq ?_
      refine vcondf rfl ?_
      refine vexit (k' := _) rfl ?_
      refine vseq ?_
      refine vregion ?_
      refine vone rfl (vxq (vas rfl) rfl rfl ?_)
      refine vnil ?_
      refine vret (vr1 (H' := [(bs, blk [I a, I b] 27)]) Try.func110 rfl (.tmp rfl) (by repeat first | exact .refl _ | refine .cons_cons _ ?_ | refine .cons _ ?_ | exact sl0 _ | refine slA ?_) ?_)
      exact ⟨oI (by unfold fst2; split <;> omega), rfl⟩
/-- slices.IndexFunc[[]paravane/api.Point,paravane/api.Point] -/
theorem g_IndexFunc (g : Nat) [TFn Try.prog g] (p : Pt → Bool) (hg : ∀ z, VPure Try.prog g [vP z] (.bool (p z))) (l : List Pt) (oa : Option Addr) (n c : Nat) (hn : l.length = n) (hmax : n ≤ 9223372036854775807) (H : Heap) [SlO H oa 2 encP l] : VCall Try.prog 138 [sli oa n c, fnv g].toArray H (fun o H' => ∃ r, o = .val (I r) ∧ (0 ≤ r ↔ l.any p = true) ∧ H' = H) := by
  refine vcall_of_vrun Try.func138 rfl (N := 19) rfl rfl ?_
  refine vseq ?_
  refine vregion ?_
  refine vone rfl (vxq (vas rfl) rfl rfl ?_)
  refine vnil ?_
  refine vseq ?_
  refine vseq ?_
  refine vregion ?_
  refine vone rfl (vxq (vmv rfl) rfl rfl ?_)
  refine vone rfl (vxq (vlen rfl) rfl rfl ?_)
  refine vone rfl (vxq (vmv rfl) rfl rfl ?_)
  refine vnil ?_
  refine vblock ?_
  refine vwhile (σ := Int) (fun i => (n - i).toNat) (fun i => [(0, sli oa n c), (1, fnv g), (7, I n), (8, I i)]) (fun i => H) (fun i => (0 ≤ i ∧ i ≤ n) ∧ ∀ (j : Nat) (z : Pt), l[j]? = some z → (j : Int) < i → p z = false) 0 ⟨⟨by omega, by omega⟩, fun j z _ h => absurd h (by omega)⟩ ⟨rfl, rfl, rfl, rfl, True.intro⟩ (by repeat first | exact .refl _ | refine .cons_cons _ ?_ | refine .cons _ ?_ | exact sl0 _ | refine slA ?_) ?_
  rintro i ⟨⟨hi0, hin⟩, hno⟩ IH
  change VRun _ _ _ _ _ [(0, sli oa n c), (1, fnv g), (7, I n), (8, I i)] _ (H) _
  refine vseq ?_
  refine vregion ?_
  refine vone rfl (vxq (vlss rfl rfl) rfl rfl ?_)
  refine vnil ?_
  refine vseq ?_
  refine vcondd rfl (fun h9 => ?_) (fun h9 => ?_)
  · skip
    refine vskip ?_
    refine vseq ?_
    refine vblock ?_
    refine vseq ?_
    refine vregion ?_
    refine vone rfl (vxq (vmv rfl) rfl rfl ?_)
    obtain ⟨z, hz⟩ := get_of_lt l (i := i.toNat) (by omega)
    refine vone rfl (vxq (vas rfl) rfl rfl ?_)
    refine vnil ?_
    refine vseq ?_
    refine vregion ?_
    refine vone rfl (vxq (vmv rfl) rfl rfl ?_)
    refine vone rfl (vxq (vmv rfl) rfl rfl ?_)
    refine vone rfl (vxq (vmv rfl) rfl rfl ?_)
    refine vone rfl (vxq (visg (enc := encP) rfl rfl (by omega) hz) rfl rfl ?_)
    refine vone rfl (vxq (vldS (enc := encP) rfl hz) rfl rfl ?_)
    refine vone rfl (vxq (vcp rfl rfl rfl (hg z)) rfl rfl ?_)
    refine vnil ?_
    refine vcond rfl (fun h16 => ?_) (fun h16 => ?_)
    · skip
      refine vseq ?_
      refine vregion ?_
      refine vone rfl (vxq (vmv rfl) rfl rfl ?_)
      refine vone rfl (vxq (vas rfl) rfl rfl ?_)
      refine vnil ?_
      refine vret (vr1 (H' := H) Try.func138 rfl (.tmp rfl) (by repeat first | exact .refl _ | refine .cons_cons _ ?_ | refine .cons _ ?_ | exact sl0 _ | refine slA ?_) ?_)
      first | exact ⟨_, rfl, ⟨fun _ => List.any_eq_true.2 ⟨z, List.mem_of_getElem? hz, h16⟩, fun _ => hi0⟩, rfl⟩ | exact ⟨-1, rfl, ⟨fun h => absurd h (by omega), fun h => by
            obtain ⟨z, hz, hp⟩ := List.any_eq_true.1 h
            obtain ⟨j, hj⟩ := List.getElem?_of_mem hz
            have hlt := (List.getElem?_eq_some_iff.1 hj).1
            rw [hno j z hj (by omega)] at hp; cases hp⟩, rfl⟩
    · skip
      refine vskip ?_
      refine vinblock ?_
      refine vregion ?_
      refine vone rfl (vxq (vadd rfl rfl (by unfold InR; omega)) rfl rfl ?_)
      refine vone rfl (vxq (vmv rfl) rfl rfl ?_)
      refine vnil ?_
      exact vback (IH (i + 1) ⟨⟨by omega, by omega⟩, fun j z' hj hlt => by
                by_cases e : (j : Int) = i
                · have : j = i.toNat := by omega
                  subst this; rw [hz] at hj; cases hj; exact h16
                · exact hno j z' hj (by omega)⟩ (by show (_ : Int).toNat < (_ : Int).toNat; omega)) ⟨rfl, rfl, rfl, rfl, True.intro⟩ (by repeat first | exact .refl _ | refine .cons_cons _ ?_ | refine .cons _ ?_ | exact sl0 _ | refine slA ?_)
  · skip
    refine vexit (k' := _) rfl ?_
    refine vseq ?_
    refine vregion ?_
    refine vone rfl (vxq (vas rfl) rfl rfl ?_)
    refine vnil ?_
    refine vret (vr1 (H' := H) Try.func138 rfl (.tmp rfl) (by repeat first | exact .refl _ | refine .cons_cons _ ?_ | refine .cons _ ?_ | exact sl0 _ | refine slA ?_) ?_)
    first | exact ⟨_, rfl, ⟨fun _ => List.any_eq_true.2 ⟨z, List.mem_of_getElem? hz, h16⟩, fun _ => hi0⟩, rfl⟩ | exact ⟨-1, rfl, ⟨fun h => absurd h (by omega), fun h => by
          obtain ⟨z, hz, hp⟩ := List.any_eq_true.1 h
          obtain ⟨j, hj⟩ := List.getElem?_of_mem hz
          have hlt := (List.getElem?_eq_some_iff.1 hj).1
          rw [hno j z hj (by omega)] at hp; cases hp⟩, rfl⟩
/-- slices.ContainsFunc[[]paravane/api.Point,paravane/api.Point] -/
theorem q_ContainsFunc (g : Nat) [TFn Try.prog g] (p : Pt → Bool) (hg : ∀ z, VPure Try.prog g [vP z] (.bool (p z))) (l : List Pt) (oa : Option Addr) (n c : Nat) (hn : l.length = n) (hmax : n ≤ 9223372036854775807) (H : Heap) [SlO H oa 2 encP l] : VHas Try.prog 85 [sli oa n c, fnv g] (.bool (l.any p)) H H := by
  refine vcall_of_vrun Try.func85 rfl (N := 9) rfl rfl ?_
  refine vseq ?_
  refine vregion ?_
  refine vone rfl (vxq (vas rfl) rfl rfl ?_)
  refine vnil ?_
  refine vseq ?_
  refine vregion ?_
  refine vone rfl (vxq (vmv rfl) rfl rfl ?_)
  refine vone rfl (vxq (vmv rfl) rfl rfl ?_)
  refine vone rfl (vxg (vcg (R := fun v H' => ∃ r, v = I r ∧ (0 ≤ r ↔ l.any p = true) ∧ H' = H) rfl rfl rfl (g_IndexFunc g p hg l oa n c hn hmax _) (fun _ _ ⟨r, h1, h2, h3⟩ => ⟨_, h1, r, rfl, h2, h3⟩)) rfl rfl ?_)
  rintro _ _ ⟨r, rfl, hr, rfl⟩
  refine vone rfl (vxq (vgeq rfl rfl) rfl rfl ?_)
  refine vone rfl (vxq (vas rfl) rfl rfl ?_)
  refine vnil ?_
  refine vret (vr1 (H' := _) Try.func85 rfl (.tmp rfl) (by repeat first | exact .refl _ | refine .cons_cons _ ?_ | refine .cons _ ?_ | exact sl0 _ | refine slA ?_) ?_)
  exact ⟨oV (by congr 1; rw [Bool.eq_iff_iff, decide_eq_true_iff]; exact hr), rfl⟩
/-- paravane/region.Of$1 -/
theorem c_Of1 (p : Pt) : VPure Try.prog 86 [vP p] (.bool (!decide p.ok)) := by
  intro H
  refine vcall_of_vrun Try.func86 rfl (N := 6) rfl rfl ?_
  refine vseq ?_
  refine vregion ?_
  refine vone rfl (vxa (vbox rfl rfl) rfl rfl (fun b1 => ?_))
  refine vone rfl (vxq (vas rfl) rfl rfl ?_)
  refine vnil ?_
  refine vseq ?_
  refine vregion ?_
  refine vone rfl (vxq (vldn rfl rfl) rfl rfl ?_)
  refine vone rfl (vxq (vcp rfl rfl rfl (c_region_CheckPoint ⟨_, _⟩)) rfl rfl ?_)
  refine vone rfl (vxq (vneq rfl rfl) rfl rfl ?_)
  refine vone rfl (vxq (vas rfl) rfl rfl ?_)
  refine vnil ?_
  refine vret (vr1 (H' := H) Try.func86 rfl (.tmp rfl) (by repeat first | exact .refl _ | refine .cons_cons _ ?_ | refine .cons _ ?_ | exact sl0 _ | refine slA ?_) ?_)
  exact ⟨oV (by congr 1; rw [← decide_not]; exact decide_eq_decide.2 (by show chkP p ≠ 0 ↔ _; exact chkP_nz)), rfl⟩
/-- paravane/region.Of$2 -/
theorem it_Of2 (l : List Pt) (oa : Option Addr) (n c : Nat) (hn : l.length = n) (hmax : n ≤ 9223372036854775807) (H : Heap) [SlO H oa 2 encP l] (b : Nat) : VIt Try.prog 88 [ptr b] (fun p => [vP p]) l ((b, blk [sli oa n c] 26) :: H) := by
  intro yf ya yc J Jx Hc0 hJ0 hy
  change VCall _ _ _ ((b, blk [sli oa n c] 26) :: (H ++ Hc0)) _
  refine vcall_of_vrun Try.func88 rfl (N := 16) rfl rfl ?_
  refine vseq ?_
  refine vregion ?_
  refine vone rfl (vxq (vld1 rfl rfl) rfl rfl ?_)
  refine vone rfl (vxq (vlen rfl) rfl rfl ?_)
  refine vone rfl (vxq (vmv rfl) rfl rfl ?_)
  refine vnil ?_
  refine vblock ?_
  refine vwhile (σ := Int × Heap) (fun ⟨i, Hc⟩ => (n - i).toNat) (fun ⟨i, Hc⟩ => [(0, .func yf ya yc), (5, sli oa n c), (6, I n), (7, I i)]) (fun ⟨i, Hc⟩ => (b, blk [sli oa n c] 26) :: (H ++ Hc)) (fun ⟨i, Hc⟩ => (0 ≤ i ∧ i ≤ n) ∧ J (l.take i.toNat) Hc) (0, Hc0) ⟨⟨by omega, by omega⟩, hJ0⟩ ⟨rfl, rfl, rfl, rfl, True.intro⟩ (by repeat first | exact .refl _ | refine .cons_cons _ ?_ | refine .cons _ ?_ | exact sl0 _ | refine slA ?_) ?_
  rintro ⟨i, Hc⟩ ⟨⟨hi0, hin⟩, hJ⟩ IH
  change VRun _ _ _ _ _ [(0, .func yf ya yc), (5, sli oa n c), (6, I n), (7, I i)] _ ((b, blk [sli oa n c] 26) :: (H ++ Hc)) _
  refine vseq ?_
  refine vregion ?_
  refine vone rfl (vxq (vlss rfl rfl) rfl rfl ?_)
  skip
  refine vnil ?_
  refine vseq ?_
  refine vcondd rfl (fun h8 => ?_) (fun h8 => ?_)
  · skip
    obtain ⟨z, hz⟩ := get_of_lt l (i := i.toNat) (by omega)
    obtain ⟨post, hps⟩ := split_at hz
    refine vskip ?_
    refine vseq ?_
    refine vblock ?_
    refine vseq ?_
    refine vregion ?_
    refine vone rfl (vxq (visg (enc := encP) rfl rfl (by omega) hz) rfl rfl ?_)
    refine vone rfl (vxq (vldS (enc := encP) rfl hz) rfl rfl ?_)
    refine vone rfl (vxa valloc rfl rfl (fun b1 => ?_))
    refine vone rfl (vxs (vstn rfl rfl rfl rfl rfl) rfl ?_)
    refine vnil ?_
    refine vseq ?_
    refine vregion ?_
    refine vone rfl (vxq (vmv rfl) rfl rfl ?_)
    refine vone rfl (vxq (vldn rfl rfl) rfl rfl ?_)
    refine vone rfl (vxg (vcy rfl rfl (VY.l2 (hy _ z _ hps _ hJ))) rfl rfl ?_)
    rintro _ _ ⟨bb, rfl, Hc, rfl, hJ⟩
    rcases bb with _ | _
    · skip
      refine vone rfl (vxq (vnot rfl) rfl rfl ?_)
      refine vnil ?_
      refine vcondt rfl ?_
      refine vret (vr0 (H' := (b, blk [sli oa n c] 26) :: (H ++ Hc)) Try.func88 rfl  (by repeat first | exact .refl _ | refine .cons_cons _ ?_ | refine .cons _ ?_ | exact sl0 _ | refine slA ?_) ?_)
      first | exact ⟨rfl, Hc, rfl, .inl (by rw [show i.toNat = l.length by omega, List.take_length] at hJ; exact hJ)⟩ | exact ⟨rfl, Hc, rfl, .inr hJ⟩
    · skip
      refine vone rfl (vxq (vnot rfl) rfl rfl ?_)
      refine vnil ?_
      refine vcondf rfl ?_
      refine vskip ?_
      refine vinblock ?_
      refine vregion ?_
      refine vone rfl (vxq (vadd rfl rfl (by unfold InR; omega)) rfl rfl ?_)
      refine vone rfl (vxq (vmv rfl) rfl rfl ?_)
      refine vnil ?_
      exact vback (IH (i + 1, Hc) ⟨⟨by omega, by omega⟩, by rw [show (i + 1).toNat = i.toNat + 1 by omega, take_succ_of hz]; exact hJ⟩ (by show (_ : Int).toNat < (_ : Int).toNat; omega)) ⟨rfl, rfl, rfl, rfl, True.intro⟩ (by repeat first | exact .refl _ | refine .cons_cons _ ?_ | refine .cons _ ?_ | exact sl0 _ | refine slA ?_)
  · skip
    refine vexit (k' := _) rfl ?_
    refine vend (vr0 (H' := (b, blk [sli oa n c] 26) :: (H ++ Hc)) Try.func88 rfl  (by repeat first | exact .refl _ | refine .cons_cons _ ?_ | refine .cons _ ?_ | exact sl0 _ | refine slA ?_) ?_)
    first | exact ⟨rfl, Hc, rfl, .inl (by rw [show i.toNat = l.length by omega, List.take_length] at hJ; exact hJ)⟩ | exact ⟨rfl, Hc, rfl, .inr hJ⟩

def ofE (l : List Pt) : RE := if l = [] then (zR, 4) else if 256 < l.length then (zR, 3) else if l.any (fun p => !decide p.ok) = true then (zR, 10) else ((hullP l).getD zR, 0)
theorem hullP_some {l : List Pt} (h : l ≠ []) : (hullP l).isSome = true := by
  obtain ⟨l', p, rfl⟩ : ∃ l' p, l = l' ++ [p] := ⟨l.dropLast, l.getLast h, (List.dropLast_concat_getLast h).symm⟩
  rw [hullP_snoc]; rfl
theorem ok_all {l : List Pt} (h : ¬ l.any (fun p => !decide p.ok) = true) : ∀ p ∈ l, p.ok := by
  intro p hp
  simp only [List.any_eq_true, not_exists, not_and, Bool.not_eq_true', Bool.not_eq_true, decide_eq_false_iff_not, Classical.not_not] at h
  exact h p hp

/-- paravane/region.Of -/
theorem q_Of (l : List Pt) (oa : Option Addr) (n c : Nat) (hn : l.length = n) (hmax : n ≤ 9223372036854775807) (H : Heap) [SlO H oa 2 encP l] : VHas Try.prog 24 [sli oa n c] (tup [vR (ofE l).1, I (ofE l).2]) H H := by
  refine vcall_of_vrun Try.func24 rfl (N := 28) rfl rfl ?_
  refine vseq ?_
  refine vregion ?_
  refine vone rfl (vxa (vbox rfl rfl) rfl rfl (fun b1 => ?_))
  refine vone rfl (vxa valloc rfl rfl (fun b2 => ?_))
  refine vone rfl (vxq (vas rfl) rfl rfl ?_)
  refine vnil ?_
  refine vseq ?_
  refine vblock ?_
  refine vseq ?_
  refine vregion ?_
  refine vone rfl (vxq (vld1 rfl rfl) rfl rfl ?_)
  refine vone rfl (vxq (vlen rfl) rfl rfl ?_)
  refine vone rfl (vxq (veql rfl rfl) rfl rfl ?_)
  refine vone rfl (vxq (vas rfl) rfl rfl ?_)
  refine vnil ?_
  refine vcondd rfl (fun h6 => ?_) (fun h6 => ?_)
  · skip
    refine vseq ?_
    refine vregion ?_
    refine vone rfl (vxq (vbd rfl rfl) rfl rfl ?_)
    refine vone rfl (vxs (vstn rfl rfl rfl rfl rfl) rfl ?_)
    refine vone rfl (vxq (vas rfl) rfl rfl ?_)
    refine vnil ?_
    refine vret (vr2 (H' := H) Try.func24 rfl (.celln rfl rfl) (.tmp rfl) (by repeat first | exact .refl _ | refine .cons_cons _ ?_ | refine .cons _ ?_ | exact sl0 _ | refine slA ?_) ?_)
    first | (rw [show ofE l = (zR, 4) from if_pos (List.eq_nil_of_length_eq_zero (by omega))]; exact ⟨rfl, rfl⟩) | (have hne : l ≠ [] := fun e => h6 (by subst e; simp at hn; omega); first | (rw [show ofE l = (zR, 3) by unfold ofE; rw [if_neg hne, if_pos (by omega)]]; exact ⟨rfl, rfl⟩) | (rw [show ofE l = (zR, 10) by unfold ofE; rw [if_neg hne, if_neg (by omega), if_pos h16]]; exact ⟨rfl, rfl⟩) | (rw [show ofE l = ((hullP l).getD zR, 0) by unfold ofE; rw [if_neg hne, if_neg (by omega), if_neg (by rw [h16]; decide)]]; exact ⟨rfl, rfl⟩))
  · skip
    refine vseq ?_
    refine vregion ?_
    refine vone rfl (vxq (vld1 rfl rfl) rfl rfl ?_)
    refine vone rfl (vxq (vlen rfl) rfl rfl ?_)
    refine vone rfl (vxq (vgtr rfl rfl) rfl rfl ?_)
    refine vone rfl (vxq (vas rfl) rfl rfl ?_)
    refine vnil ?_
    refine vcondd rfl (fun h11 => ?_) (fun h11 => ?_)
    · skip
      refine vseq ?_
      refine vregion ?_
      refine vone rfl (vxq (vbd rfl rfl) rfl rfl ?_)
      refine vone rfl (vxs (vstn rfl rfl rfl rfl rfl) rfl ?_)
      refine vone rfl (vxq (vas rfl) rfl rfl ?_)
      refine vnil ?_
      refine vret (vr2 (H' := H) Try.func24 rfl (.celln rfl rfl) (.tmp rfl) (by repeat first | exact .refl _ | refine .cons_cons _ ?_ | refine .cons _ ?_ | exact sl0 _ | refine slA ?_) ?_)
      first | (rw [show ofE l = (zR, 4) from if_pos (List.eq_nil_of_length_eq_zero (by omega))]; exact ⟨rfl, rfl⟩) | (have hne : l ≠ [] := fun e => h6 (by subst e; simp at hn; omega); first | (rw [show ofE l = (zR, 3) by unfold ofE; rw [if_neg hne, if_pos (by omega)]]; exact ⟨rfl, rfl⟩) | (rw [show ofE l = (zR, 10) by unfold ofE; rw [if_neg hne, if_neg (by omega), if_pos h16]]; exact ⟨rfl, rfl⟩) | (rw [show ofE l = ((hullP l).getD zR, 0) by unfold ofE; rw [if_neg hne, if_neg (by omega), if_neg (by rw [h16]; decide)]]; exact ⟨rfl, rfl⟩))
    · skip
      refine vseq ?_
      refine vregion ?_
      refine vone rfl (vxq (vld1 rfl rfl) rfl rfl ?_)
      refine vone rfl (vxq (vcq rfl rfl rfl (q_ContainsFunc 86 (fun p => !decide p.ok) c_Of1 l oa n c hn hmax _)) rfl rfl ?_)
      refine vone rfl (vxq (vas rfl) rfl rfl ?_)
      refine vnil ?_
      refine vcond rfl (fun h16 => ?_) (fun h16 => ?_)
      · skip
        refine vseq ?_
        refine vregion ?_
        refine vone rfl (vxq (vbd rfl rfl) rfl rfl ?_)
        refine vone rfl (vxs (vstn rfl rfl rfl rfl rfl) rfl ?_)
        refine vone rfl (vxq (vas rfl) rfl rfl ?_)
        refine vnil ?_
        refine vret (vr2 (H' := H) Try.func24 rfl (.celln rfl rfl) (.tmp rfl) (by repeat first | exact .refl _ | refine .cons_cons _ ?_ | refine .cons _ ?_ | exact sl0 _ | refine slA ?_) ?_)
        first | (rw [show ofE l = (zR, 4) from if_pos (List.eq_nil_of_length_eq_zero (by omega))]; exact ⟨rfl, rfl⟩) | (have hne : l ≠ [] := fun e => h6 (by subst e; simp at hn; omega); first | (rw [show ofE l = (zR, 3) by unfold ofE; rw [if_neg hne, if_pos (by omega)]]; exact ⟨rfl, rfl⟩) | (rw [show ofE l = (zR, 10) by unfold ofE; rw [if_neg hne, if_neg (by omega), if_pos h16]]; exact ⟨rfl, rfl⟩) | (rw [show ofE l = ((hullP l).getD zR, 0) by unfold ofE; rw [if_neg hne, if_neg (by omega), if_neg (by rw [h16]; decide)]]; exact ⟨rfl, rfl⟩))
      · skip
        refine vskip ?_
        refine vinblock ?_
        refine vseq ?_
        refine vregion ?_
        refine vone rfl (vxq (vmf rfl) rfl rfl ?_)
        refine vone rfl (vxg (vbs rfl rfl rfl rfl rfl rfl) rfl rfl ?_)
        rintro _ _ ⟨b3, rfl, rfl⟩
        refine vone rfl (vxq (vcq rfl rfl rfl ((h_hull1 (it_Of2 l oa n c hn hmax H b1) (fun p hp => (ok_all (by rw [h16]; decide) p hp).sm.mono (by decide)) b3).keepSub (by repeat first | exact .refl _ | refine .cons_cons _ ?_ | refine .cons _ ?_ | exact sl0 _ | refine slA ?_))) rfl rfl ?_)
        refine vone rfl (vxq (vmv rfl) rfl rfl ?_)
        refine vone rfl (vxq (vex rfl rfl) rfl rfl ?_)
        refine vone rfl (vxq (vex rfl rfl) rfl rfl ?_)
        refine vone rfl (vxa valloc rfl rfl (fun b4 => ?_))
        refine vone rfl (vxs (vstn rfl rfl rfl rfl rfl) rfl ?_)
        refine vone rfl (vxq (vas rfl) rfl rfl ?_)
        refine vnil ?_
        refine vseq ?_
        refine vregion ?_
        refine vone rfl (vxq (vldn rfl rfl) rfl rfl ?_)
        refine vone rfl (vxq (vcp rfl rfl rfl (c_region_four_region _ _ _ _ _ _ _ _)) rfl rfl ?_)
        refine vone rfl (vxs (vstn rfl rfl rfl rfl rfl) rfl ?_)
        refine vone rfl (vxq (vas rfl) rfl rfl ?_)
        refine vnil ?_
        refine vret (vr2 (H' := H) Try.func24 rfl (.celln rfl rfl) (.tmp rfl) (by repeat first | exact .refl _ | refine .cons_cons _ ?_ | refine .cons _ ?_ | exact sl0 _ | refine slA ?_) ?_)
        first | (rw [show ofE l = (zR, 4) from if_pos (List.eq_nil_of_length_eq_zero (by omega))]; exact ⟨rfl, rfl⟩) | (have hne : l ≠ [] := fun e => h6 (by subst e; simp at hn; omega); first | (rw [show ofE l = (zR, 3) by unfold ofE; rw [if_neg hne, if_pos (by omega)]]; exact ⟨rfl, rfl⟩) | (rw [show ofE l = (zR, 10) by unfold ofE; rw [if_neg hne, if_neg (by omega), if_pos h16]]; exact ⟨rfl, rfl⟩) | (rw [show ofE l = ((hullP l).getD zR, 0) by unfold ofE; rw [if_neg hne, if_neg (by omega), if_neg (by rw [h16]; decide)]]; exact ⟨rfl, rfl⟩))
/-- paravane/paravaneref01.Of -/
theorem q_ref_Of (l : List Pt) (oa : Option Addr) (n c : Nat) (hn : l.length = n) (hmax : n ≤ 9223372036854775807) (H : Heap) [SlO H oa 2 encP l] : VHas Try.prog 25 [sli oa n c] (tup [vR (ofE l).1, I (ofE l).2]) H H := by
  refine vcall_of_vrun Try.func25 rfl (N := 39) rfl rfl ?_
  refine vseq ?_
  refine vregion ?_
  refine vone rfl (vxa valloc rfl rfl (fun b1 => ?_))
  refine vone rfl (vxq (vas rfl) rfl rfl ?_)
  refine vnil ?_
  refine vseq ?_
  refine vseq ?_
  refine vregion ?_
  refine vone rfl (vxq (vmv rfl) rfl rfl ?_)
  refine vone rfl (vxq (vlen rfl) rfl rfl ?_)
  refine vone rfl (vxq (veql rfl rfl) rfl rfl ?_)
  refine vnil ?_
  refine vcondd rfl (fun h8 => ?_) (fun h8 => ?_)
  · skip
    refine vseq ?_
    refine vregion ?_
    refine vone rfl (vxq (vbd rfl rfl) rfl rfl ?_)
    refine vone rfl (vxs (vstn rfl rfl rfl rfl rfl) rfl ?_)
    refine vone rfl (vxq (vas rfl) rfl rfl ?_)
    refine vnil ?_
    refine vret (vr2 (H' := H) Try.func25 rfl (.celln rfl rfl) (.tmp rfl) (by repeat first | exact .refl _ | refine .cons_cons _ ?_ | refine .cons _ ?_ | exact sl0 _ | refine slA ?_) ?_)
    first | (rw [show ofE l = (zR, 4) from if_pos (List.eq_nil_of_length_eq_zero (by omega))]; exact ⟨rfl, rfl⟩) | (have hne : l ≠ [] := fun e => h8 (by subst e; simp at hn; omega); first | (rw [show ofE l = (zR, 3) by unfold ofE; rw [if_neg hne, if_pos (by omega)]]; exact ⟨rfl, rfl⟩) | (rw [show ofE l = (zR, 10) by unfold ofE; rw [if_neg hne, if_neg (by omega), if_pos (List.any_eq_true.2 ⟨z, List.mem_of_getElem? hz, by simp only [Bool.not_eq_true', decide_eq_false_iff_not]; exact h27⟩)]]; exact ⟨rfl, rfl⟩) | (rw [show i.toNat = l.length by omega, List.take_length] at hok; rw [show ofE l = ((hullP l).getD zR, 0) by unfold ofE; rw [if_neg hne, if_neg (by omega), if_neg (by simp only [List.any_eq_true, not_exists, not_and, Bool.not_eq_true', Bool.not_eq_true, decide_eq_false_iff_not, Classical.not_not]; exact hok)], show i.toNat = l.length by omega, List.take_length]; exact ⟨rfl, rfl⟩))
  · skip
    refine vskip ?_
    refine vseq ?_
    refine vseq ?_
    refine vregion ?_
    refine vone rfl (vxq (vmv rfl) rfl rfl ?_)
    refine vone rfl (vxq (vlen rfl) rfl rfl ?_)
    refine vone rfl (vxq (vgtr rfl rfl) rfl rfl ?_)
    refine vnil ?_
    refine vcondd rfl (fun h12 => ?_) (fun h12 => ?_)
    · skip
      refine vseq ?_
      refine vregion ?_
      refine vone rfl (vxq (vbd rfl rfl) rfl rfl ?_)
      refine vone rfl (vxs (vstn rfl rfl rfl rfl rfl) rfl ?_)
      refine vone rfl (vxq (vas rfl) rfl rfl ?_)
      refine vnil ?_
      refine vret (vr2 (H' := H) Try.func25 rfl (.celln rfl rfl) (.tmp rfl) (by repeat first | exact .refl _ | refine .cons_cons _ ?_ | refine .cons _ ?_ | exact sl0 _ | refine slA ?_) ?_)
      first | (rw [show ofE l = (zR, 4) from if_pos (List.eq_nil_of_length_eq_zero (by omega))]; exact ⟨rfl, rfl⟩) | (have hne : l ≠ [] := fun e => h8 (by subst e; simp at hn; omega); first | (rw [show ofE l = (zR, 3) by unfold ofE; rw [if_neg hne, if_pos (by omega)]]; exact ⟨rfl, rfl⟩) | (rw [show ofE l = (zR, 10) by unfold ofE; rw [if_neg hne, if_neg (by omega), if_pos (List.any_eq_true.2 ⟨z, List.mem_of_getElem? hz, by simp only [Bool.not_eq_true', decide_eq_false_iff_not]; exact h27⟩)]]; exact ⟨rfl, rfl⟩) | (rw [show i.toNat = l.length by omega, List.take_length] at hok; rw [show ofE l = ((hullP l).getD zR, 0) by unfold ofE; rw [if_neg hne, if_neg (by omega), if_neg (by simp only [List.any_eq_true, not_exists, not_and, Bool.not_eq_true', Bool.not_eq_true, decide_eq_false_iff_not, Classical.not_not]; exact hok)], show i.toNat = l.length by omega, List.take_length]; exact ⟨rfl, rfl⟩))
    · skip
      refine vskip ?_
      refine vseq ?_
      refine vregion ?_
      refine vone rfl (vxq (vbd rfl rfl) rfl rfl ?_)
      refine vone rfl (vxa (vbox (v := .agg (clH Option.none).toArray) rfl rfl) rfl rfl (fun b2 => ?_))
      refine vone rfl (vxq (vas rfl) rfl rfl ?_)
      refine vnil ?_
      refine vseq ?_
      refine vseq ?_
      refine vregion ?_
      refine vone rfl (vxq (vas rfl) rfl rfl ?_)
      refine vnil ?_
      refine vblock ?_
      refine vwhile (σ := Int) (fun i => (n - i).toNat) (fun i => [(0, sli oa n c), (2, ptr b1), (3, I 0), (4, ptr b2), (5, I i)]) (fun i => (b2, blk (clH (hullP (l.take i.toNat))) 115) :: (b1, blk (clR zR) 25) :: H) (fun i => (0 ≤ i ∧ i ≤ n) ∧ ∀ p ∈ l.take i.toNat, p.ok) 0 ⟨⟨by omega, by omega⟩, fun p hp => by simp at hp⟩ ⟨rfl, rfl, rfl, rfl, rfl, True.intro⟩ (by repeat first | exact .refl _ | refine .cons_cons _ ?_ | refine .cons _ ?_ | exact sl0 _ | refine slA ?_) ?_
      rintro i ⟨⟨hi0, hin⟩, hok⟩ IH
      change VRun _ _ _ _ _ [(0, sli oa n c), (2, ptr b1), (3, I 0), (4, ptr b2), (5, I i)] _ ((b2, blk (clH (hullP (l.take i.toNat))) 115) :: (b1, blk (clR zR) 25) :: H) _
      refine vseq ?_
      refine vseq ?_
      refine vregion ?_
      refine vone rfl (vxq (vmv rfl) rfl rfl ?_)
      refine vone rfl (vxq (vmv rfl) rfl rfl ?_)
      refine vone rfl (vxq (vlen rfl) rfl rfl ?_)
      refine vone rfl (vxq (vlss rfl rfl) rfl rfl ?_)
      refine vnil ?_
      refine vcondd rfl (fun h19 => ?_) (fun h19 => ?_)
      · skip
        obtain ⟨z, hz⟩ := get_of_lt l (i := i.toNat) (by omega)
        refine vskip ?_
        refine vseq ?_
        refine vblock ?_
        refine vseq ?_
        refine vseq ?_
        refine vregion ?_
        refine vone rfl (vxq (vmv rfl) rfl rfl ?_)
        refine vone rfl (vxq (vmv rfl) rfl rfl ?_)
        refine vone rfl (vxq (visg (enc := encP) rfl rfl (by omega) hz) rfl rfl ?_)
        refine vone rfl (vxq (vldS (enc := encP) rfl hz) rfl rfl ?_)
        refine vone rfl (vxq (vcp rfl rfl rfl (c_place z)) rfl rfl ?_)
        refine vone rfl (vxq (vnotd rfl) rfl rfl ?_)
        refine vnil ?_
        refine vcondd rfl (fun h27 => ?_) (fun h27 => ?_)
        · skip
          refine vseq ?_
          refine vregion ?_
          refine vone rfl (vxq (vbd rfl rfl) rfl rfl ?_)
          refine vone rfl (vxs (vstn rfl rfl rfl rfl rfl) rfl ?_)
          refine vone rfl (vxq (vas rfl) rfl rfl ?_)
          refine vnil ?_
          refine vret (vr2 (H' := H) Try.func25 rfl (.celln rfl rfl) (.tmp rfl) (by repeat first | exact .refl _ | refine .cons_cons _ ?_ | refine .cons _ ?_ | exact sl0 _ | refine slA ?_) ?_)
          first | (rw [show ofE l = (zR, 4) from if_pos (List.eq_nil_of_length_eq_zero (by omega))]; exact ⟨rfl, rfl⟩) | (have hne : l ≠ [] := fun e => h8 (by subst e; simp at hn; omega); first | (rw [show ofE l = (zR, 3) by unfold ofE; rw [if_neg hne, if_pos (by omega)]]; exact ⟨rfl, rfl⟩) | (rw [show ofE l = (zR, 10) by unfold ofE; rw [if_neg hne, if_neg (by omega), if_pos (List.any_eq_true.2 ⟨z, List.mem_of_getElem? hz, by simp only [Bool.not_eq_true', decide_eq_false_iff_not]; exact h27⟩)]]; exact ⟨rfl, rfl⟩) | (rw [show i.toNat = l.length by omega, List.take_length] at hok; rw [show ofE l = ((hullP l).getD zR, 0) by unfold ofE; rw [if_neg hne, if_neg (by omega), if_neg (by simp only [List.any_eq_true, not_exists, not_and, Bool.not_eq_true', Bool.not_eq_true, decide_eq_false_iff_not, Classical.not_not]; exact hok)], show i.toNat = l.length by omega, List.take_length]; exact ⟨rfl, rfl⟩))
        · skip
          refine vskip ?_
          refine vregion ?_
          refine vone rfl (vxq (vmv rfl) rfl rfl ?_)
          refine vone rfl (vxq (vmv rfl) rfl rfl ?_)
          refine vone rfl (vxq (vmv rfl) rfl rfl ?_)
          refine vone rfl (vxq (visg (enc := encP) rfl rfl (by omega) hz) rfl rfl ?_)
          refine vone rfl (vxq (vldS (enc := encP) rfl hz) rfl rfl ?_)
          refine vone rfl (vxg (vch rfl rfl rfl ((h_add _ z ((Classical.not_not.1 h27).sm.mono (by decide)) b2).at1)) rfl rfl ?_)
          rintro _ _ ⟨rfl, rfl⟩
          refine vnil ?_
          refine vinblock ?_
          refine vregion ?_
          refine vone rfl (vxq (vmv rfl) rfl rfl ?_)
          refine vone rfl (vxq (vadd rfl rfl (by unfold InR; omega)) rfl rfl ?_)
          refine vone rfl (vxq (vas rfl) rfl rfl ?_)
          refine vnil ?_
          exact vback (IH (i + 1) ⟨⟨by omega, by omega⟩, by rw [show (i + 1).toNat = i.toNat + 1 by omega, take_succ_of hz]; intro p hp; rcases List.mem_append.1 hp with hp | hp; exact hok p hp; rw [List.mem_singleton.1 hp]; exact Classical.not_not.1 h27⟩ (by show (_ : Int).toNat < (_ : Int).toNat; omega)) ⟨rfl, rfl, rfl, rfl, rfl, True.intro⟩ (by rw [show (i + 1).toNat = i.toNat + 1 by omega, take_succ_of hz, hullP_snoc]; exact (by repeat first | exact .refl _ | refine .cons_cons _ ?_ | refine .cons _ ?_ | exact sl0 _ | refine slA ?_))
      · skip
        refine vexit (k' := _) rfl ?_
        refine vseq ?_
        refine vregion ?_
        refine vone rfl (vxq (vmv rfl) rfl rfl ?_)
        refine vone rfl (vxq (vnc rfl) rfl rfl ?_)
        refine vone rfl (vxq (vfa rfl) rfl rfl ?_)
        refine vone rfl (vxq (vldn rfl rfl) rfl rfl ?_)
        refine vone rfl (vxs (vstn rfl rfl rfl rfl rfl) rfl ?_)
        refine vone rfl (vxq (vas rfl) rfl rfl ?_)
        refine vnil ?_
        refine vret (vr2 (H' := H) Try.func25 rfl (.celln rfl rfl) (.tmp rfl) (by repeat first | exact .refl _ | refine .cons_cons _ ?_ | refine .cons _ ?_ | exact sl0 _ | refine slA ?_) ?_)
        first | (rw [show ofE l = (zR, 4) from if_pos (List.eq_nil_of_length_eq_zero (by omega))]; exact ⟨rfl, rfl⟩) | (have hne : l ≠ [] := fun e => h8 (by subst e; simp at hn; omega); first | (rw [show ofE l = (zR, 3) by unfold ofE; rw [if_neg hne, if_pos (by omega)]]; exact ⟨rfl, rfl⟩) | (rw [show ofE l = (zR, 10) by unfold ofE; rw [if_neg hne, if_neg (by omega), if_pos (List.any_eq_true.2 ⟨z, List.mem_of_getElem? hz, by simp only [Bool.not_eq_true', decide_eq_false_iff_not]; exact h27⟩)]]; exact ⟨rfl, rfl⟩) | (rw [show i.toNat = l.length by omega, List.take_length] at hok; rw [show ofE l = ((hullP l).getD zR, 0) by unfold ofE; rw [if_neg hne, if_neg (by omega), if_neg (by simp only [List.any_eq_true, not_exists, not_and, Bool.not_eq_true', Bool.not_eq_true, decide_eq_false_iff_not, Classical.not_not]; exact hok)], show i.toNat = l.length by omega, List.take_length]; exact ⟨rfl, rfl⟩))
end Go.Proofs.Ytffpfcomikcimaa
