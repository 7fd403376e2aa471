/-
  Walks of Alike and All.
-/
import Derived.Test.YtffpfcomikcimaaWo
import Derived.Test.YtffpfcomikcimaaApp
import Derived.Test.YtffpfcomikcimaaPcl
namespace Go.Proofs.Ytffpfcomikcimaa
open Go
set_option maxRecDepth 100000

attribute [local irreducible] tightP hullP rootP farP rows endsOf sqL sqP twoE pickL
abbrev encI (n : Int) : List Value := [I n]


/-- paravane/region.All -/
theorem c_All  : VPure Try.prog 72 [] (vR allR) := by
  intro H
  refine vcall_of_vrun Try.func72 rfl (N := 11) rfl rfl ?_
  refine vseq ?_
  refine vregion ?_
  refine vone rfl (vxa valloc rfl rfl (fun b1 => ?_))
  refine vnil ?_
  refine vseq ?_
  refine vregion ?_
  refine vone rfl (vxq (vbd rfl rfl) rfl rfl ?_)
  refine vone rfl (vxq (vbd rfl rfl) rfl rfl ?_)
  refine vone rfl (vxa valloc rfl rfl (fun b2 => ?_))
  refine vone rfl (vxa valloc rfl rfl (fun b3 => ?_))
  refine vone rfl (vxs (vstn rfl rfl rfl rfl rfl) rfl ?_)
  refine vone rfl (vxs (vstn rfl rfl rfl rfl rfl) rfl ?_)
  refine vnil ?_
  refine vseq ?_
  refine vregion ?_
  refine vone rfl (vxq (vldn rfl rfl) rfl rfl ?_)
  refine vone rfl (vxq (vldn rfl rfl) rfl rfl ?_)
  refine vone rfl (vxq (vldn rfl rfl) rfl rfl ?_)
  refine vone rfl (vxq (vldn rfl rfl) rfl rfl ?_)
  refine vone rfl (vxq (vbd rfl rfl) rfl rfl ?_)
  refine vone rfl (vxq (vcp rfl rfl rfl (c_region_four_region _ _ _ _ _ _ _ _)) rfl rfl ?_)
  refine vone rfl (vxs (vstn rfl rfl rfl rfl rfl) rfl ?_)
  refine vnil ?_
  refine vret (vr1 (H' := H) Try.func72 rfl (.celln rfl rfl) (by repeat first | exact .refl _ | refine .cons_cons _ ?_ | refine .cons _ ?_ | exact sl0 _ | refine slA ?_) ?_)
  exact ⟨rfl, rfl⟩
/-- paravane/paravaneref01.All -/
theorem c_ref_All  : VPure Try.prog 73 [] (vR allR) := by
  intro H
  refine vcall_of_vrun Try.func73 rfl (N := 10) rfl rfl ?_
  refine vseq ?_
  refine vregion ?_
  refine vone rfl (vxa valloc rfl rfl (fun b1 => ?_))
  refine vnil ?_
  refine vseq ?_
  refine vregion ?_
  refine vone rfl (vxq (vbd rfl rfl) rfl rfl ?_)
  refine vone rfl (vxq (vbd rfl rfl) rfl rfl ?_)
  refine vone rfl (vxa valloc rfl rfl (fun b2 => ?_))
  refine vone rfl (vxa valloc rfl rfl (fun b3 => ?_))
  refine vone rfl (vxs (vstn rfl rfl rfl rfl rfl) rfl ?_)
  refine vone rfl (vxs (vstn rfl rfl rfl rfl rfl) rfl ?_)
  refine vnil ?_
  refine vseq ?_
  refine vregion ?_
  refine vone rfl (vxq (vldn rfl rfl) rfl rfl ?_)
  refine vone rfl (vxq (vldn rfl rfl) rfl rfl ?_)
  refine vone rfl (vxq (vldn rfl rfl) rfl rfl ?_)
  refine vone rfl (vxq (vldn rfl rfl) rfl rfl ?_)
  refine vone rfl (vxq (vbd rfl rfl) rfl rfl ?_)
  refine vone rfl (vxs (vstn rfl rfl rfl rfl rfl) rfl ?_)
  refine vnil ?_
  refine vret (vr1 (H' := H) Try.func73 rfl (.celln rfl rfl) (by repeat first | exact .refl _ | refine .cons_cons _ ?_ | refine .cons _ ?_ | exact sl0 _ | refine slA ?_) ?_)
  exact ⟨rfl, rfl⟩
/-- paravane/paravaneref00.Alike -/
theorem q_Alike (a b : List Int) (oa ob : Option Addr) (n c m c' : Nat) (hn : a.length = n) (hm : b.length = m) (hmax : n ≤ 9223372036854775807) (hmax' : m ≤ 9223372036854775807) (H : Heap) [SlO H oa 1 encI a] [SlO H ob 1 encI b] : VHas Try.prog 39 [sli oa n c, sli ob m c'] (.bool (decide (a = b))) H H := by
  refine vcall_of_vrun Try.func39 rfl (N := 26) rfl rfl ?_
  refine vseq ?_
  refine vregion ?_
  refine vone rfl (vxq (vas rfl) rfl rfl ?_)
  refine vnil ?_
  refine vseq ?_
  refine vseq ?_
  refine vregion ?_
  refine vone rfl (vxq (vmv rfl) rfl rfl ?_)
  refine vone rfl (vxq (vlen rfl) rfl rfl ?_)
  refine vone rfl (vxq (vmv rfl) rfl rfl ?_)
  refine vone rfl (vxq (vlen rfl) rfl rfl ?_)
  refine vone rfl (vxq (vneq rfl rfl) rfl rfl ?_)
  refine vnil ?_
  refine vcondd rfl (fun h10 => ?_) (fun h10 => ?_)
  · skip
    refine vseq ?_
    refine vregion ?_
    refine vone rfl (vxq (vas rfl) rfl rfl ?_)
    refine vnil ?_
    refine vret (vr1 (H' := H) Try.func39 rfl (.tmp rfl) (by repeat first | exact .refl _ | refine .cons_cons _ ?_ | refine .cons _ ?_ | exact sl0 _ | refine slA ?_) ?_)
    first | exact ⟨obf (fun e => h10 (by subst e; omega)), rfl⟩ | exact ⟨obf (fun e => h25 (by subst e; rw [hz] at hu; exact Option.some.inj hu)), rfl⟩ | exact ⟨obt (by rw [List.take_of_length_le (by omega), List.take_of_length_le (by omega)] at he; exact he), rfl⟩
  · skip
    refine vskip ?_
    refine vseq ?_
    refine vseq ?_
    refine vregion ?_
    refine vone rfl (vxq (vas rfl) rfl rfl ?_)
    refine vnil ?_
    refine vblock ?_
    refine vwhile (σ := Int) (fun i => (n - i).toNat) (fun i => [(0, sli oa n c), (1, sli ob m c'), (4, .bool false), (5, I i)]) (fun i => H) (fun i => (0 ≤ i ∧ i ≤ n) ∧ a.take i.toNat = b.take i.toNat) 0 ⟨⟨by omega, by omega⟩, by simp⟩ ⟨rfl, rfl, rfl, rfl, True.intro⟩ (by repeat first | exact .refl _ | refine .cons_cons _ ?_ | refine .cons _ ?_ | exact sl0 _ | refine slA ?_) ?_
    rintro i ⟨⟨hi0, hin⟩, he⟩ IH
    change VRun _ _ _ _ _ [(0, sli oa n c), (1, sli ob m c'), (4, .bool false), (5, I i)] _ (H) _
    refine vseq ?_
    refine vseq ?_
    refine vregion ?_
    refine vone rfl (vxq (vmv rfl) rfl rfl ?_)
    refine vone rfl (vxq (vmv rfl) rfl rfl ?_)
    refine vone rfl (vxq (vlen rfl) rfl rfl ?_)
    refine vone rfl (vxq (vlss rfl rfl) rfl rfl ?_)
    refine vnil ?_
    refine vcondd rfl (fun h14 => ?_) (fun h14 => ?_)
    · skip
      obtain ⟨z, hz⟩ := get_of_lt a (i := i.toNat) (by omega)
      obtain ⟨u, hu⟩ := get_of_lt b (i := i.toNat) (by omega)
      refine vskip ?_
      refine vseq ?_
      refine vblock ?_
      refine vseq ?_
      refine vdraw0 [(.q, 0), (.q, 1), (.q, 2), (.q, 3), (.q, 4), (.q, 5), (.q, 6), (.q, 7), (.q, 8)] Try.mixed (by kernel_rfl) (by kernel_rfl) ?_
      refine vdq (mone rfl) (vmv rfl) rfl rfl ?_
      refine vdq (mone rfl) (vmv rfl) rfl rfl ?_
      refine vdq (mone rfl) (visg (enc := encI) rfl rfl (by omega) hz) rfl rfl ?_
      refine vdq (mone rfl) (vldS1 (enc := encI) rfl hz rfl) rfl rfl ?_
      refine vdq (mone rfl) (vmv rfl) rfl rfl ?_
      refine vdq (mone rfl) (vmv rfl) rfl rfl ?_
      refine vdq (mone rfl) (visg (enc := encI) rfl rfl (by omega) hu) rfl rfl ?_
      refine vdq (mone rfl) (vldS1 (enc := encI) rfl hu rfl) rfl rfl ?_
      refine vdq (mone rfl) (vneq rfl rfl) rfl rfl ?_
      refine vdend rfl ?_
      refine vcondd rfl (fun h25 => ?_) (fun h25 => ?_)
      · skip
        refine vseq ?_
        refine vregion ?_
        refine vone rfl (vxq (vas rfl) rfl rfl ?_)
        refine vnil ?_
        refine vret (vr1 (H' := H) Try.func39 rfl (.tmp rfl) (by repeat first | exact .refl _ | refine .cons_cons _ ?_ | refine .cons _ ?_ | exact sl0 _ | refine slA ?_) ?_)
        first | exact ⟨obf (fun e => h10 (by subst e; omega)), rfl⟩ | exact ⟨obf (fun e => h25 (by subst e; rw [hz] at hu; exact Option.some.inj hu)), rfl⟩ | exact ⟨obt (by rw [List.take_of_length_le (by omega), List.take_of_length_le (by omega)] at he; exact he), rfl⟩
      · skip
        refine vskip ?_
        refine vinblock ?_
        refine vregion ?_
        refine vone rfl (vxq (vmv rfl) rfl rfl ?_)
        refine vone rfl (vxq (vadd rfl rfl (by unfold InR; omega)) rfl rfl ?_)
        refine vone rfl (vxq (vas rfl) rfl rfl ?_)
        refine vnil ?_
        exact vback (IH (i + 1) ⟨⟨by omega, by omega⟩, by rw [show (i + 1).toNat = i.toNat + 1 by omega, take_succ_of hz, take_succ_of hu, he, nn2 h25]⟩ (by show (_ : Int).toNat < (_ : Int).toNat; omega)) ⟨rfl, rfl, rfl, rfl, True.intro⟩ (by repeat first | exact .refl _ | refine .cons_cons _ ?_ | refine .cons _ ?_ | exact sl0 _ | refine slA ?_)
    · skip
      refine vexit (k' := _) rfl ?_
      refine vseq ?_
      refine vregion ?_
      refine vone rfl (vxq (vas rfl) rfl rfl ?_)
      refine vnil ?_
      refine vret (vr1 (H' := H) Try.func39 rfl (.tmp rfl) (by repeat first | exact .refl _ | refine .cons_cons _ ?_ | refine .cons _ ?_ | exact sl0 _ | refine slA ?_) ?_)
      first | exact ⟨obf (fun e => h10 (by subst e; omega)), rfl⟩ | exact ⟨obf (fun e => h25 (by subst e; rw [hz] at hu; exact Option.some.inj hu)), rfl⟩ | exact ⟨obt (by rw [List.take_of_length_le (by omega), List.take_of_length_le (by omega)] at he; exact he), rfl⟩
end Go.Proofs.Ytffpfcomikcimaa
