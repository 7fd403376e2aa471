/-
  Walks of Clash's search.
-/
import Derived.Test.YtffpfcomikcimaaWq
import Derived.Test.YtffpfcomikcimaaPls
namespace Go.Proofs.Ytffpfcomikcimaa
open Go
set_option maxRecDepth 100000

attribute [local irreducible] tightP hullP rootP farP rows endsOf sqL sqP twoE pickL srch
/-- What a search comes to. -/
abbrev SrV (H : Heap) (r : Option (List Int)) (v : Value) (B : Heap) : Prop := match r with
  | none => v = nilS ∧ B = []
  | some L => ∃ a m c, v = sli (some a) m c ∧ L.length = m ∧ SlO (B ++ H) (some a) 1 encI L
abbrev SrR (H : Heap) (r : Option (List Int)) (o : Out) (H' : Heap) : Prop := ∃ v, o = .val v ∧ ∃ B, H' = B ++ H ∧ SrV H r v B
theorem srch_0n {l : List Rg} {f : Rg} {cs : List Int} {i : Nat} (h : (optE (tightP f)).2 ≠ 0) : srch l 0 f cs i = some cs := by
  unfold srch; rw [errO_nz h]; rfl
theorem srch_0s {l : List Rg} {f : Rg} {cs : List Int} {i : Nat} (h : ¬ (optE (tightP f)).2 ≠ 0) : srch l 0 f cs i = none := by
  unfold srch; obtain ⟨g, hg⟩ := errO_z (nn h); rw [hg]; rfl

/-- paravane/region.Clash$1 -/
theorem g_search0 (l : List Rg) (f : Rg) (hf : f.sm 65536) (a : Addr) (m c : Nat) (cs : List Int) (hm : cs.length = m) (i : Nat) (bl bs : Nat) (H : Heap) [hS : SlO H (some a) 1 encI cs] : VCall Try.prog 113 [vR f, sli (some a) m c, I i, I 0, ptr bl, ptr bs].toArray H (SrR H (srch l 0 f cs i)) := by
  refine vcall_of_vrun Try.func113 rfl (N := 53) rfl rfl ?_
  refine vseq ?_
  refine vregion ?_
  refine vone rfl (vxa (vbox rfl rfl) rfl rfl (fun b1 => ?_))
  refine vone rfl (vxq (vas rfl) rfl rfl ?_)
  refine vnil ?_
  refine vseq ?_
  refine vseq ?_
  refine vregion ?_
  refine vone rfl (vxq (vmv rfl) rfl rfl ?_)
  refine vone rfl (vxq (veql rfl rfl) rfl rfl ?_)
  refine vnil ?_
  refine vcondd rfl (fun h16 => ?_) (fun h16 => ?_)
  · skip
    refine vseq ?_
    refine vseq ?_
    refine vregion ?_
    refine vone rfl (vxq (vldn rfl rfl) rfl rfl ?_)
    refine vone rfl (vxq (vcp rfl rfl rfl (c_tight f (hf.mono (by decide)))) rfl rfl ?_)
    refine vone rfl (vxq (vmv rfl) rfl rfl ?_)
    refine vone rfl (vxq (vex rfl rfl) rfl rfl ?_)
    refine vone rfl (vxq (vex rfl rfl) rfl rfl ?_)
    refine vone rfl (vxa valloc rfl rfl (fun b2 => ?_))
    refine vone rfl (vxs (vstn rfl rfl rfl rfl rfl) rfl ?_)
    refine vone rfl (vxq (vas rfl) rfl rfl ?_)
    refine vnil ?_
    refine vseq ?_
    refine vregion ?_
    refine vone rfl (vxq (vmv rfl) rfl rfl ?_)
    refine vone rfl (vxq (vneq rfl rfl) rfl rfl ?_)
    refine vnil ?_
    refine vcondd rfl (fun h23 => ?_) (fun h23 => ?_)
    · skip
      refine vseq ?_
      refine vregion ?_
      refine vone rfl (vxq (vmv rfl) rfl rfl ?_)
      refine vone rfl (vxq (vas rfl) rfl rfl ?_)
      refine vnil ?_
      refine vret (vr1 (H' := H) Try.func113 rfl (.tmp rfl) (by repeat first | exact .refl _ | refine .cons_cons _ ?_ | refine .cons _ ?_ | exact sl0 _ | refine slA ?_) ?_)
      first | (rw [srch_0n h23]; exact ⟨_, rfl, [], rfl, a, m, c, rfl, hm, hS⟩) | (rw [srch_0s h23]; exact ⟨_, rfl, [], rfl, rfl, rfl⟩) | exact absurd rfl h16
    · skip
      refine vskip ?_
      refine vseq ?_
      refine vregion ?_
      refine vone rfl (vxq (vas rfl) rfl rfl ?_)
      refine vnil ?_
      refine vret (vr1 (H' := H) Try.func113 rfl (.tmp rfl) (by repeat first | exact .refl _ | refine .cons_cons _ ?_ | refine .cons _ ?_ | exact sl0 _ | refine slA ?_) ?_)
      first | (rw [srch_0n h23]; exact ⟨_, rfl, [], rfl, a, m, c, rfl, hm, hS⟩) | (rw [srch_0s h23]; exact ⟨_, rfl, [], rfl, rfl, rfl⟩) | exact absurd rfl h16
  · skip
    refine vskip ?_
    refine vseq ?_
    refine vseq ?_
    refine vregion ?_
    refine vone rfl (vxq (vmv rfl) rfl rfl ?_)
    refine vone rfl (vxq (vas rfl) rfl rfl ?_)
    refine vnil ?_
    refine vblock ?_
    exact absurd rfl h16
end Go.Proofs.Ytffpfcomikcimaa
