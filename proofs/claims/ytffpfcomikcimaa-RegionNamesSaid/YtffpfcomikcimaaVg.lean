/-
  The walk of RegionNames.
-/
import Derived.Test.YtffpfcomikcimaaWz
import Derived.Test.YtffpfcomikcimaaStr
namespace Go.Proofs.Ytffpfcomikcimaa
open Go
set_option maxRecDepth 100000
attribute [local irreducible] tightP hullP rootP farP rows endsOf sqL sqP twoE pickL srch cutsOf clashE ofE tightE meetE sumE sweptE reachE cntE extE distE moveE gapE coversE hitE joinE minusE hasE restP rootE inE

instance tSg9 : TSg Try.prog 9 := ⟨by kernel_rfl⟩
theorem name_end {s : ByteArray} (h : ∀ j, j < s.size → goodP s j) : decide (1 ≤ (s.size : Int) ∧ (s.size : Int) ≤ 16) = nameB s := by
  by_cases h1 : 1 ≤ s.size ∧ s.size ≤ 16
  · rw [nameB_t ⟨h1, h⟩, decide_eq_true (by omega)]
  · rw [nameB_f (fun hn => h1 hn.1), decide_eq_false (by omega)]
theorem good_next {s : ByteArray} {i : Nat} (h : ∀ j, j < i → goodP s j) (hi : goodP s i) : ∀ j, j < i + 1 → goodP s j := fun j hj => by
  by_cases e : j = i
  · subst e; exact hi
  · exact h j (by omega)
section
variable {P : Program} {N : Nat} {E : Env} {D : List Deferred} {H : Heap} {d : Nat} {x y : Operand} {T T' ty : TypeId} {pos : String} {af : Array Edge} {g : Option (Nat × Bool)}
theorem veqb {p q : Bool} (hx : ev E x = some (.bool p)) (hy : ev E y = some (.bool q)) (hT : P.underlying T = some .bool) :
    OQ P N E D H ⟨some d, .binOp .eql T x y T', ty, pos, af, g⟩ (.bool (p == q)) :=
  ov (by simp) (fun t w hA _ => by
    have := run_equal_bool (P := P) w T p q hT
    simp [execOp, ev_eval hA hx, ev_eval hA hy, eqGuard, binOp, this])
end

/-- paravane/region.IsName -/
theorem c_IsName (s : ByteArray) (hs : s.size ≤ 9223372036854775807) : VPure Try.prog 67 [.string s] (.bool (nameB s)) := by
  intro H
  refine vcall_of_vrun Try.func67 rfl (N := 42) rfl rfl ?_
  refine vseq ?_
  refine vregion ?_
  refine vone rfl (vxq (vas rfl) rfl rfl ?_)
  refine vnil ?_
  refine vseq ?_
  refine vseq ?_
  refine vregion ?_
  refine vone rfl (vxq (vmv rfl) rfl rfl ?_)
  refine vone rfl (vxq (vlens rfl) rfl rfl ?_)
  refine vone rfl (vxq (vmv rfl) rfl rfl ?_)
  refine vnil ?_
  refine vblock ?_
  refine vwhile (σ := Nat) (fun i => s.size - i) (fun i => [(0, .string s), (2, .bool false), (7, I s.size), (8, I (i : Int))]) (fun i => H) (fun i => ∀ j, j < i → goodP s j) 0 (by omega) ⟨rfl, rfl, rfl, rfl, True.intro⟩ (by repeat first | exact .refl _ | refine .cons_cons _ ?_ | refine .cons _ ?_ | exact sl0 _ | refine slA ?_) ?_
  rintro i hgd IH
  change VRun _ _ _ _ _ [(0, .string s), (2, .bool false), (7, I s.size), (8, I (i : Int))] _ (H) _
  refine vseq ?_
  refine vregion ?_
  refine vone rfl (vxq (vlss rfl rfl) rfl rfl ?_)
  refine vnil ?_
  refine vseq ?_
  refine vcondd rfl (fun h9 => ?_) (fun h9 => ?_)
  · skip
    refine vskip ?_
    refine vseq ?_
    refine vblock ?_
    refine vseq ?_
    refine vregion ?_
    refine vone rfl (vxq (vmv rfl) rfl rfl ?_)
    refine vone rfl (vxq (vas rfl) rfl rfl ?_)
    refine vnil ?_
    refine vseq ?_
    refine vregion ?_
    refine vone rfl (vxq (vmv rfl) rfl rfl ?_)
    refine vone rfl (vxq (vmv rfl) rfl rfl ?_)
    refine vone rfl (vxq (vixs rfl rfl (by omega)) rfl rfl ?_)
    refine vone rfl (vxq (vas rfl) rfl rfl ?_)
    refine vnil ?_
    refine vseq ?_
    refine vregion ?_
    refine vone rfl (vxq (vmv rfl) rfl rfl ?_)
    refine vone rfl (vxq (vgeqk rfl rfl) rfl rfl ?_)
    refine vone rfl (vxq (vmv rfl) rfl rfl ?_)
    refine vsplitd (d := 16) rfl (fun h16 => ?_) (fun h16 => ?_)
    · skip
      refine vyes rfl rfl rfl (vxq (vmv rfl) rfl rfl ?_)
      refine vyes rfl rfl rfl (vxq (vleqk rfl rfl) rfl rfl ?_)
      refine vone rfl (vxq (vpkt rfl rfl) rfl rfl ?_)
      refine vone rfl (vxq (vas rfl) rfl rfl ?_)
      refine vnil ?_
      refine vseq ?_
      refine vregion ?_
      refine vone rfl (vxq (vmv rfl) rfl rfl ?_)
      refine vone rfl (vxq (vnotd rfl) rfl rfl ?_)
      refine vone rfl (vxq (vmv rfl) rfl rfl ?_)
      refine vsplitd (d := 22) rfl (fun h22 => ?_) (fun h22 => ?_)
      · skip
        refine vyes rfl rfl rfl (vxq (vmv rfl) rfl rfl ?_)
        refine vyes rfl rfl rfl (vxq (veql rfl rfl) rfl rfl ?_)
        refine vyes rfl rfl rfl (vxq (vmv rfl) rfl rfl ?_)
        refine vsplitd (d := 25) rfl (fun h25 => ?_) (fun h25 => ?_)
        · skip
          refine vno rfl rfl rfl rfl rfl ?_
          refine vno rfl rfl rfl rfl rfl ?_
          refine vno rfl rfl rfl rfl rfl ?_
          refine vnou rfl rfl rfl rfl rfl ?_
          refine vnou rfl rfl rfl rfl rfl ?_
          refine vnou rfl rfl rfl rfl rfl ?_
          refine vnou rfl rfl rfl rfl rfl ?_
          refine vnou rfl rfl rfl rfl rfl ?_
          refine vnou rfl rfl rfl rfl rfl ?_
          refine vno rfl rfl rfl rfl rfl ?_
          refine vyes rfl rfl rfl (vxq (vpkt rfl rfl) rfl rfl ?_)
          refine vone rfl (vxq (vpkt rfl rfl) rfl rfl ?_)
          refine vnil ?_
          refine vcondt rfl ?_
          refine vseq ?_
          refine vregion ?_
          refine vone rfl (vxq (vas rfl) rfl rfl ?_)
          refine vnil ?_
          refine vret (vr1 (H' := H) Try.func67 rfl (.tmp rfl) (by repeat first | exact .refl _ | refine .cons_cons _ ?_ | refine .cons _ ?_ | exact sl0 _ | refine slA ?_) ?_)
          first | (exact ⟨oV (by rw [nameB_f (fun hn => by have := hn.1; omega)]), rfl⟩) | (exact ⟨oV (by rw [nameB_f (fun hn => by have hg := hn.2 i (by omega); unfold goodP letP at hg; simp only [Int.toNat_natCast] at *; omega)]), rfl⟩) | exact ⟨oV (by rw [name_end (fun j hj => hgd j (by omega))]), rfl⟩
        · skip
          refine vyes rfl rfl rfl (vxq (vmv rfl) rfl rfl ?_)
          refine vyes rfl rfl rfl (vxq (vneq rfl rfl) rfl rfl ?_)
          refine vyes rfl rfl rfl (vxq (vmv rfl) rfl rfl ?_)
          refine vsplitd (d := 28) rfl (fun h28 => ?_) (fun h28 => ?_)
          · skip
            refine vyes rfl rfl rfl (vxq (vmv rfl) rfl rfl ?_)
            refine vyes rfl rfl rfl (vxq (vlssk rfl rfl) rfl rfl ?_)
            refine vyes rfl rfl rfl (vxq (vmv rfl) rfl rfl ?_)
            refine vsplitd (d := 31) rfl (fun h31 => ?_) (fun h31 => ?_)
            · skip
              refine vno rfl rfl rfl rfl rfl ?_
              refine vno rfl rfl rfl rfl rfl ?_
              refine vyes rfl rfl rfl (vxq (vpkt rfl rfl) rfl rfl ?_)
              refine vyes rfl rfl rfl (vxq (vpkt rfl rfl) rfl rfl ?_)
              refine vyes rfl rfl rfl (vxq (vpkf rfl rfl) rfl rfl ?_)
              refine vone rfl (vxq (vpkt rfl rfl) rfl rfl ?_)
              refine vnil ?_
              refine vcondt rfl ?_
              refine vseq ?_
              refine vregion ?_
              refine vone rfl (vxq (vas rfl) rfl rfl ?_)
              refine vnil ?_
              refine vret (vr1 (H' := H) Try.func67 rfl (.tmp rfl) (by repeat first | exact .refl _ | refine .cons_cons _ ?_ | refine .cons _ ?_ | exact sl0 _ | refine slA ?_) ?_)
              first | (exact ⟨oV (by rw [nameB_f (fun hn => by have := hn.1; omega)]), rfl⟩) | (exact ⟨oV (by rw [nameB_f (fun hn => by have hg := hn.2 i (by omega); unfold goodP letP at hg; simp only [Int.toNat_natCast] at *; omega)]), rfl⟩) | exact ⟨oV (by rw [name_end (fun j hj => hgd j (by omega))]), rfl⟩
            · skip
              refine vyes rfl rfl rfl (vxq (vmv rfl) rfl rfl ?_)
              refine vyes rfl rfl rfl (vxq (vgtrk rfl rfl) rfl rfl ?_)
              refine vyes rfl rfl rfl (vxq (vpkf rfl rfl) rfl rfl ?_)
              refine vyes rfl rfl rfl (vxq (vpkt rfl rfl) rfl rfl ?_)
              refine vyes rfl rfl rfl (vxq (vpkf rfl rfl) rfl rfl ?_)
              refine vone rfl (vxq (vpkt rfl rfl) rfl rfl ?_)
              refine vnil ?_
              refine vcondd rfl (fun h37 => ?_) (fun h37 => ?_)
              · skip
                refine vseq ?_
                refine vregion ?_
                refine vone rfl (vxq (vas rfl) rfl rfl ?_)
                refine vnil ?_
                refine vret (vr1 (H' := H) Try.func67 rfl (.tmp rfl) (by repeat first | exact .refl _ | refine .cons_cons _ ?_ | refine .cons _ ?_ | exact sl0 _ | refine slA ?_) ?_)
                first | (exact ⟨oV (by rw [nameB_f (fun hn => by have := hn.1; omega)]), rfl⟩) | (exact ⟨oV (by rw [nameB_f (fun hn => by have hg := hn.2 i (by omega); unfold goodP letP at hg; simp only [Int.toNat_natCast] at *; omega)]), rfl⟩) | exact ⟨oV (by rw [name_end (fun j hj => hgd j (by omega))]), rfl⟩
              · skip
                refine vskip ?_
                refine vinblock ?_
                refine vregion ?_
                refine vone rfl (vxq (vadd rfl rfl (by unfold InR; omega)) rfl rfl ?_)
                refine vone rfl (vxq (vmv rfl) rfl rfl ?_)
                refine vnil ?_
                exact vback (IH (i + 1) (good_next hgd (by unfold goodP letP; simp only [Int.toNat_natCast] at *; omega)) (by omega)) ⟨rfl, rfl, rfl, rfl, True.intro⟩ (by repeat first | exact .refl _ | refine .cons_cons _ ?_ | refine .cons _ ?_ | exact sl0 _ | refine slA ?_)
          · skip
            refine vno rfl rfl rfl rfl rfl ?_
            refine vno rfl rfl rfl rfl rfl ?_
            refine vno rfl rfl rfl rfl rfl ?_
            refine vnou rfl rfl rfl rfl rfl ?_
            refine vnou rfl rfl rfl rfl rfl ?_
            refine vno rfl rfl rfl rfl rfl ?_
            refine vyes rfl rfl rfl (vxq (vpkf rfl rfl) rfl rfl ?_)
            refine vyes rfl rfl rfl (vxq (vpkf rfl rfl) rfl rfl ?_)
            refine vone rfl (vxq (vpkt rfl rfl) rfl rfl ?_)
            refine vnil ?_
            refine vcondf rfl ?_
            refine vskip ?_
            refine vinblock ?_
            refine vregion ?_
            refine vone rfl (vxq (vadd rfl rfl (by unfold InR; omega)) rfl rfl ?_)
            refine vone rfl (vxq (vmv rfl) rfl rfl ?_)
            refine vnil ?_
            exact vback (IH (i + 1) (good_next hgd (by unfold goodP letP; simp only [Int.toNat_natCast] at *; omega)) (by omega)) ⟨rfl, rfl, rfl, rfl, True.intro⟩ (by repeat first | exact .refl _ | refine .cons_cons _ ?_ | refine .cons _ ?_ | exact sl0 _ | refine slA ?_)
      · skip
        refine vno rfl rfl rfl rfl rfl ?_
        refine vno rfl rfl rfl rfl rfl ?_
        refine vno rfl rfl rfl rfl rfl ?_
        refine vnou rfl rfl rfl rfl rfl ?_
        refine vnou rfl rfl rfl rfl rfl ?_
        refine vnou rfl rfl rfl rfl rfl ?_
        refine vnou rfl rfl rfl rfl rfl ?_
        refine vnou rfl rfl rfl rfl rfl ?_
        refine vnou rfl rfl rfl rfl rfl ?_
        refine vnou rfl rfl rfl rfl rfl ?_
        refine vnou rfl rfl rfl rfl rfl ?_
        refine vnou rfl rfl rfl rfl rfl ?_
        refine vnou rfl rfl rfl rfl rfl ?_
        refine vno rfl rfl rfl rfl rfl ?_
        refine vone rfl (vxq (vpkf rfl rfl) rfl rfl ?_)
        refine vnil ?_
        refine vcondf rfl ?_
        refine vskip ?_
        refine vinblock ?_
        refine vregion ?_
        refine vone rfl (vxq (vadd rfl rfl (by unfold InR; omega)) rfl rfl ?_)
        refine vone rfl (vxq (vmv rfl) rfl rfl ?_)
        refine vnil ?_
        exact vback (IH (i + 1) (good_next hgd (by unfold goodP letP; simp only [Int.toNat_natCast] at *; omega)) (by omega)) ⟨rfl, rfl, rfl, rfl, True.intro⟩ (by repeat first | exact .refl _ | refine .cons_cons _ ?_ | refine .cons _ ?_ | exact sl0 _ | refine slA ?_)
    · skip
      refine vno rfl rfl rfl rfl rfl ?_
      refine vno rfl rfl rfl rfl rfl ?_
      refine vone rfl (vxq (vpkf rfl rfl) rfl rfl ?_)
      refine vone rfl (vxq (vas rfl) rfl rfl ?_)
      refine vnil ?_
      refine vseq ?_
      refine vregion ?_
      refine vone rfl (vxq (vmv rfl) rfl rfl ?_)
      refine vone rfl (vxq (vnot rfl) rfl rfl ?_)
      refine vone rfl (vxq (vmv rfl) rfl rfl ?_)
      refine vyes rfl rfl rfl (vxq (vmv rfl) rfl rfl ?_)
      refine vyes rfl rfl rfl (vxq (veql rfl rfl) rfl rfl ?_)
      refine vyes rfl rfl rfl (vxq (vmv rfl) rfl rfl ?_)
      refine vsplitd (d := 25) rfl (fun h25 => ?_) (fun h25 => ?_)
      · skip
        refine vno rfl rfl rfl rfl rfl ?_
        refine vno rfl rfl rfl rfl rfl ?_
        refine vno rfl rfl rfl rfl rfl ?_
        refine vnou rfl rfl rfl rfl rfl ?_
        refine vnou rfl rfl rfl rfl rfl ?_
        refine vnou rfl rfl rfl rfl rfl ?_
        refine vnou rfl rfl rfl rfl rfl ?_
        refine vnou rfl rfl rfl rfl rfl ?_
        refine vnou rfl rfl rfl rfl rfl ?_
        refine vno rfl rfl rfl rfl rfl ?_
        refine vyes rfl rfl rfl (vxq (vpkt rfl rfl) rfl rfl ?_)
        refine vone rfl (vxq (vpkt rfl rfl) rfl rfl ?_)
        refine vnil ?_
        refine vcondt rfl ?_
        refine vseq ?_
        refine vregion ?_
        refine vone rfl (vxq (vas rfl) rfl rfl ?_)
        refine vnil ?_
        refine vret (vr1 (H' := H) Try.func67 rfl (.tmp rfl) (by repeat first | exact .refl _ | refine .cons_cons _ ?_ | refine .cons _ ?_ | exact sl0 _ | refine slA ?_) ?_)
        first | (exact ⟨oV (by rw [nameB_f (fun hn => by have := hn.1; omega)]), rfl⟩) | (exact ⟨oV (by rw [nameB_f (fun hn => by have hg := hn.2 i (by omega); unfold goodP letP at hg; simp only [Int.toNat_natCast] at *; omega)]), rfl⟩) | exact ⟨oV (by rw [name_end (fun j hj => hgd j (by omega))]), rfl⟩
      · skip
        refine vyes rfl rfl rfl (vxq (vmv rfl) rfl rfl ?_)
        refine vyes rfl rfl rfl (vxq (vneq rfl rfl) rfl rfl ?_)
        refine vyes rfl rfl rfl (vxq (vmv rfl) rfl rfl ?_)
        refine vsplitd (d := 28) rfl (fun h28 => ?_) (fun h28 => ?_)
        · skip
          refine vyes rfl rfl rfl (vxq (vmv rfl) rfl rfl ?_)
          refine vyes rfl rfl rfl (vxq (vlssk rfl rfl) rfl rfl ?_)
          refine vyes rfl rfl rfl (vxq (vmv rfl) rfl rfl ?_)
          refine vsplitd (d := 31) rfl (fun h31 => ?_) (fun h31 => ?_)
          · skip
            refine vno rfl rfl rfl rfl rfl ?_
            refine vno rfl rfl rfl rfl rfl ?_
            refine vyes rfl rfl rfl (vxq (vpkt rfl rfl) rfl rfl ?_)
            refine vyes rfl rfl rfl (vxq (vpkt rfl rfl) rfl rfl ?_)
            refine vyes rfl rfl rfl (vxq (vpkf rfl rfl) rfl rfl ?_)
            refine vone rfl (vxq (vpkt rfl rfl) rfl rfl ?_)
            refine vnil ?_
            refine vcondt rfl ?_
            refine vseq ?_
            refine vregion ?_
            refine vone rfl (vxq (vas rfl) rfl rfl ?_)
            refine vnil ?_
            refine vret (vr1 (H' := H) Try.func67 rfl (.tmp rfl) (by repeat first | exact .refl _ | refine .cons_cons _ ?_ | refine .cons _ ?_ | exact sl0 _ | refine slA ?_) ?_)
            first | (exact ⟨oV (by rw [nameB_f (fun hn => by have := hn.1; omega)]), rfl⟩) | (exact ⟨oV (by rw [nameB_f (fun hn => by have hg := hn.2 i (by omega); unfold goodP letP at hg; simp only [Int.toNat_natCast] at *; omega)]), rfl⟩) | exact ⟨oV (by rw [name_end (fun j hj => hgd j (by omega))]), rfl⟩
          · skip
            refine vyes rfl rfl rfl (vxq (vmv rfl) rfl rfl ?_)
            refine vyes rfl rfl rfl (vxq (vgtrk rfl rfl) rfl rfl ?_)
            refine vyes rfl rfl rfl (vxq (vpkf rfl rfl) rfl rfl ?_)
            refine vyes rfl rfl rfl (vxq (vpkt rfl rfl) rfl rfl ?_)
            refine vyes rfl rfl rfl (vxq (vpkf rfl rfl) rfl rfl ?_)
            refine vone rfl (vxq (vpkt rfl rfl) rfl rfl ?_)
            refine vnil ?_
            refine vcondd rfl (fun h37 => ?_) (fun h37 => ?_)
            · skip
              refine vseq ?_
              refine vregion ?_
              refine vone rfl (vxq (vas rfl) rfl rfl ?_)
              refine vnil ?_
              refine vret (vr1 (H' := H) Try.func67 rfl (.tmp rfl) (by repeat first | exact .refl _ | refine .cons_cons _ ?_ | refine .cons _ ?_ | exact sl0 _ | refine slA ?_) ?_)
              first | (exact ⟨oV (by rw [nameB_f (fun hn => by have := hn.1; omega)]), rfl⟩) | (exact ⟨oV (by rw [nameB_f (fun hn => by have hg := hn.2 i (by omega); unfold goodP letP at hg; simp only [Int.toNat_natCast] at *; omega)]), rfl⟩) | exact ⟨oV (by rw [name_end (fun j hj => hgd j (by omega))]), rfl⟩
            · skip
              refine vskip ?_
              refine vinblock ?_
              refine vregion ?_
              refine vone rfl (vxq (vadd rfl rfl (by unfold InR; omega)) rfl rfl ?_)
              refine vone rfl (vxq (vmv rfl) rfl rfl ?_)
              refine vnil ?_
              exact vback (IH (i + 1) (good_next hgd (by unfold goodP letP; simp only [Int.toNat_natCast] at *; omega)) (by omega)) ⟨rfl, rfl, rfl, rfl, True.intro⟩ (by repeat first | exact .refl _ | refine .cons_cons _ ?_ | refine .cons _ ?_ | exact sl0 _ | refine slA ?_)
        · skip
          refine vno rfl rfl rfl rfl rfl ?_
          refine vno rfl rfl rfl rfl rfl ?_
          refine vno rfl rfl rfl rfl rfl ?_
          refine vnou rfl rfl rfl rfl rfl ?_
          refine vnou rfl rfl rfl rfl rfl ?_
          refine vno rfl rfl rfl rfl rfl ?_
          refine vyes rfl rfl rfl (vxq (vpkf rfl rfl) rfl rfl ?_)
          refine vyes rfl rfl rfl (vxq (vpkf rfl rfl) rfl rfl ?_)
          refine vone rfl (vxq (vpkt rfl rfl) rfl rfl ?_)
          refine vnil ?_
          refine vcondf rfl ?_
          refine vskip ?_
          refine vinblock ?_
          refine vregion ?_
          refine vone rfl (vxq (vadd rfl rfl (by unfold InR; omega)) rfl rfl ?_)
          refine vone rfl (vxq (vmv rfl) rfl rfl ?_)
          refine vnil ?_
          exact vback (IH (i + 1) (good_next hgd (by unfold goodP letP; simp only [Int.toNat_natCast] at *; omega)) (by omega)) ⟨rfl, rfl, rfl, rfl, True.intro⟩ (by repeat first | exact .refl _ | refine .cons_cons _ ?_ | refine .cons _ ?_ | exact sl0 _ | refine slA ?_)
  · skip
    refine vexit (k' := _) rfl ?_
    refine vseq ?_
    refine vregion ?_
    refine vone rfl (vxq (vmv rfl) rfl rfl ?_)
    refine vone rfl (vxq (vlens rfl) rfl rfl ?_)
    refine vone rfl (vxq (vcp rfl rfl rfl (c_region_within _ _ _)) rfl rfl ?_)
    refine vone rfl (vxq (vas rfl) rfl rfl ?_)
    refine vnil ?_
    refine vret (vr1 (H' := H) Try.func67 rfl (.tmp rfl) (by repeat first | exact .refl _ | refine .cons_cons _ ?_ | refine .cons _ ?_ | exact sl0 _ | refine slA ?_) ?_)
    first | (exact ⟨oV (by rw [nameB_f (fun hn => by have := hn.1; omega)]), rfl⟩) | (exact ⟨oV (by rw [nameB_f (fun hn => by have hg := hn.2 i (by omega); unfold goodP letP at hg; simp only [Int.toNat_natCast] at *; omega)]), rfl⟩) | exact ⟨oV (by rw [name_end (fun j hj => hgd j (by omega))]), rfl⟩
/-- paravane/paravaneref01.IsName -/
theorem c_ref_IsName (s : ByteArray) (hs : s.size ≤ 9223372036854775807) : VPure Try.prog 68 [.string s] (.bool (nameB s)) := by
  intro H
  refine vcall_of_vrun Try.func68 rfl (N := 50) rfl rfl ?_
  refine vseq ?_
  refine vregion ?_
  refine vone rfl (vxq (vas rfl) rfl rfl ?_)
  refine vnil ?_
  refine vseq ?_
  refine vseq ?_
  refine vregion ?_
  refine vone rfl (vxq (vmv rfl) rfl rfl ?_)
  refine vone rfl (vxq (vlens rfl) rfl rfl ?_)
  refine vone rfl (vxq (vlss rfl rfl) rfl rfl ?_)
  refine vone rfl (vxq (vmv rfl) rfl rfl ?_)
  refine vsplitd (d := 8) rfl (fun h8 => ?_) (fun h8 => ?_)
  · skip
    refine vno rfl rfl rfl rfl rfl ?_
    refine vno rfl rfl rfl rfl rfl ?_
    refine vno rfl rfl rfl rfl rfl ?_
    refine vone rfl (vxq (vpkt rfl rfl) rfl rfl ?_)
    refine vone rfl (vxq (vmv rfl) rfl rfl ?_)
    refine vno rfl rfl rfl rfl rfl ?_
    refine vno rfl rfl rfl rfl rfl ?_
    refine vno rfl rfl rfl rfl rfl ?_
    refine vone rfl (vxq (vpkt rfl rfl) rfl rfl ?_)
    refine vone rfl (vxq (vmv rfl) rfl rfl ?_)
    refine vno rfl rfl rfl rfl rfl ?_
    refine vno rfl rfl rfl rfl rfl ?_
    refine vno rfl rfl rfl rfl rfl ?_
    refine vone rfl (vxq (vpkt rfl rfl) rfl rfl ?_)
    refine vnil ?_
    refine vcondt rfl ?_
    refine vseq ?_
    refine vregion ?_
    refine vone rfl (vxq (vas rfl) rfl rfl ?_)
    refine vnil ?_
    refine vret (vr1 (H' := H) Try.func68 rfl (.tmp rfl) (by repeat first | exact .refl _ | refine .cons_cons _ ?_ | refine .cons _ ?_ | exact sl0 _ | refine slA ?_) ?_)
    first | (exact ⟨oV (by rw [nameB_f (fun hn => by have := hn.1; omega)]), rfl⟩) | (exact ⟨oV (by rw [nameB_f (fun hn => by have h0 := hn.1; have hg := hn.2 0 (by omega); unfold goodP letP at hg; simp only [Int.toNat_zero] at *; omega)]), rfl⟩) | (exact ⟨oV (by rw [nameB_f (fun hn => by have hg := hn.2 i (by omega); unfold goodP letP at hg; simp only [Int.toNat_natCast] at *; omega)]), rfl⟩) | exact ⟨oV (by rw [nameB_t ⟨by omega, fun j hj => hgd j (by omega)⟩]), rfl⟩
  · skip
    refine vyes rfl rfl rfl (vxq (vmv rfl) rfl rfl ?_)
    refine vyes rfl rfl rfl (vxq (vlens rfl) rfl rfl ?_)
    refine vyes rfl rfl rfl (vxq (vgtr rfl rfl) rfl rfl ?_)
    refine vone rfl (vxq (vpkf rfl rfl) rfl rfl ?_)
    refine vone rfl (vxq (vmv rfl) rfl rfl ?_)
    refine vsplitd (d := 13) rfl (fun h13 => ?_) (fun h13 => ?_)
    · skip
      refine vno rfl rfl rfl rfl rfl ?_
      refine vno rfl rfl rfl rfl rfl ?_
      refine vno rfl rfl rfl rfl rfl ?_
      refine vone rfl (vxq (vpkt rfl rfl) rfl rfl ?_)
      refine vone rfl (vxq (vmv rfl) rfl rfl ?_)
      refine vno rfl rfl rfl rfl rfl ?_
      refine vno rfl rfl rfl rfl rfl ?_
      refine vno rfl rfl rfl rfl rfl ?_
      refine vone rfl (vxq (vpkt rfl rfl) rfl rfl ?_)
      refine vnil ?_
      refine vcondt rfl ?_
      refine vseq ?_
      refine vregion ?_
      refine vone rfl (vxq (vas rfl) rfl rfl ?_)
      refine vnil ?_
      refine vret (vr1 (H' := H) Try.func68 rfl (.tmp rfl) (by repeat first | exact .refl _ | refine .cons_cons _ ?_ | refine .cons _ ?_ | exact sl0 _ | refine slA ?_) ?_)
      first | (exact ⟨oV (by rw [nameB_f (fun hn => by have := hn.1; omega)]), rfl⟩) | (exact ⟨oV (by rw [nameB_f (fun hn => by have h0 := hn.1; have hg := hn.2 0 (by omega); unfold goodP letP at hg; simp only [Int.toNat_zero] at *; omega)]), rfl⟩) | (exact ⟨oV (by rw [nameB_f (fun hn => by have hg := hn.2 i (by omega); unfold goodP letP at hg; simp only [Int.toNat_natCast] at *; omega)]), rfl⟩) | exact ⟨oV (by rw [nameB_t ⟨by omega, fun j hj => hgd j (by omega)⟩]), rfl⟩
    · skip
      refine vyes rfl rfl rfl (vxq (vmv rfl) rfl rfl ?_)
      refine vyes rfl rfl rfl (vxq (vixs rfl rfl (by omega)) rfl rfl ?_)
      refine vyes rfl rfl rfl (vxq (vlssk rfl rfl) rfl rfl ?_)
      refine vone rfl (vxq (vpkf rfl rfl) rfl rfl ?_)
      refine vone rfl (vxq (vmv rfl) rfl rfl ?_)
      refine vsplitd (d := 18) rfl (fun h18 => ?_) (fun h18 => ?_)
      · skip
        refine vno rfl rfl rfl rfl rfl ?_
        refine vno rfl rfl rfl rfl rfl ?_
        refine vno rfl rfl rfl rfl rfl ?_
        refine vone rfl (vxq (vpkt rfl rfl) rfl rfl ?_)
        refine vnil ?_
        refine vcondt rfl ?_
        refine vseq ?_
        refine vregion ?_
        refine vone rfl (vxq (vas rfl) rfl rfl ?_)
        refine vnil ?_
        refine vret (vr1 (H' := H) Try.func68 rfl (.tmp rfl) (by repeat first | exact .refl _ | refine .cons_cons _ ?_ | refine .cons _ ?_ | exact sl0 _ | refine slA ?_) ?_)
        first | (exact ⟨oV (by rw [nameB_f (fun hn => by have := hn.1; omega)]), rfl⟩) | (exact ⟨oV (by rw [nameB_f (fun hn => by have h0 := hn.1; have hg := hn.2 0 (by omega); unfold goodP letP at hg; simp only [Int.toNat_zero] at *; omega)]), rfl⟩) | (exact ⟨oV (by rw [nameB_f (fun hn => by have hg := hn.2 i (by omega); unfold goodP letP at hg; simp only [Int.toNat_natCast] at *; omega)]), rfl⟩) | exact ⟨oV (by rw [nameB_t ⟨by omega, fun j hj => hgd j (by omega)⟩]), rfl⟩
      · skip
        refine vyes rfl rfl rfl (vxq (vmv rfl) rfl rfl ?_)
        refine vyes rfl rfl rfl (vxq (vixs rfl rfl (by omega)) rfl rfl ?_)
        refine vyes rfl rfl rfl (vxq (vgtrk rfl rfl) rfl rfl ?_)
        refine vone rfl (vxq (vpkf rfl rfl) rfl rfl ?_)
        refine vnil ?_
        refine vcondd rfl (fun h22 => ?_) (fun h22 => ?_)
        · skip
          refine vseq ?_
          refine vregion ?_
          refine vone rfl (vxq (vas rfl) rfl rfl ?_)
          refine vnil ?_
          refine vret (vr1 (H' := H) Try.func68 rfl (.tmp rfl) (by repeat first | exact .refl _ | refine .cons_cons _ ?_ | refine .cons _ ?_ | exact sl0 _ | refine slA ?_) ?_)
          first | (exact ⟨oV (by rw [nameB_f (fun hn => by have := hn.1; omega)]), rfl⟩) | (exact ⟨oV (by rw [nameB_f (fun hn => by have h0 := hn.1; have hg := hn.2 0 (by omega); unfold goodP letP at hg; simp only [Int.toNat_zero] at *; omega)]), rfl⟩) | (exact ⟨oV (by rw [nameB_f (fun hn => by have hg := hn.2 i (by omega); unfold goodP letP at hg; simp only [Int.toNat_natCast] at *; omega)]), rfl⟩) | exact ⟨oV (by rw [nameB_t ⟨by omega, fun j hj => hgd j (by omega)⟩]), rfl⟩
        · skip
          refine vskip ?_
          refine vseq ?_
          refine vseq ?_
          refine vregion ?_
          refine vone rfl (vxq (vas rfl) rfl rfl ?_)
          refine vnil ?_
          refine vblock ?_
          refine vwhile (σ := Nat) (fun i => s.size - i) (fun i => [(0, .string s), (2, .bool false), (3, I (i : Int))]) (fun i => H) (fun i => ∀ j, j < i → goodP s j) 0 (by omega) ⟨rfl, rfl, rfl, True.intro⟩ (by repeat first | exact .refl _ | refine .cons_cons _ ?_ | refine .cons _ ?_ | exact sl0 _ | refine slA ?_) ?_
          rintro i hgd IH
          change VRun _ _ _ _ _ [(0, .string s), (2, .bool false), (3, I (i : Int))] _ (H) _
          refine vseq ?_
          refine vseq ?_
          refine vregion ?_
          refine vone rfl (vxq (vmv rfl) rfl rfl ?_)
          refine vone rfl (vxq (vmv rfl) rfl rfl ?_)
          refine vone rfl (vxq (vlens rfl) rfl rfl ?_)
          refine vone rfl (vxq (vlss rfl rfl) rfl rfl ?_)
          refine vnil ?_
          refine vcondd rfl (fun h26 => ?_) (fun h26 => ?_)
          · skip
            refine vskip ?_
            refine vseq ?_
            refine vblock ?_
            refine vseq ?_
            refine vregion ?_
            refine vone rfl (vxq (vmv rfl) rfl rfl ?_)
            refine vone rfl (vxq (vmv rfl) rfl rfl ?_)
            refine vone rfl (vxq (vixs rfl rfl (by omega)) rfl rfl ?_)
            refine vone rfl (vxq (vas rfl) rfl rfl ?_)
            refine vnil ?_
            refine vseq ?_
            refine vregion ?_
            refine vone rfl (vxq (vmv rfl) rfl rfl ?_)
            refine vone rfl (vxq (vlssk rfl rfl) rfl rfl ?_)
            refine vone rfl (vxq (vmv rfl) rfl rfl ?_)
            refine vsplitd (d := 34) rfl (fun h34 => ?_) (fun h34 => ?_)
            · skip
              refine vno rfl rfl rfl rfl rfl ?_
              refine vno rfl rfl rfl rfl rfl ?_
              refine vone rfl (vxq (vpkt rfl rfl) rfl rfl ?_)
              refine vone rfl (vxq (vmv rfl) rfl rfl ?_)
              refine vyes rfl rfl rfl (vxq (vmv rfl) rfl rfl ?_)
              refine vyes rfl rfl rfl (vxq (vlssk rfl rfl) rfl rfl ?_)
              refine vyes rfl rfl rfl (vxq (vmv rfl) rfl rfl ?_)
              refine vsplitd (d := 41) rfl (fun h41 => ?_) (fun h41 => ?_)
              · skip
                refine vno rfl rfl rfl rfl rfl ?_
                refine vno rfl rfl rfl rfl rfl ?_
                refine vyes rfl rfl rfl (vxq (vpkt rfl rfl) rfl rfl ?_)
                refine vone rfl (vxq (vpkt rfl rfl) rfl rfl ?_)
                refine vone rfl (vxq (vmv rfl) rfl rfl ?_)
                refine vyes rfl rfl rfl (vxq (vmv rfl) rfl rfl ?_)
                refine vyes rfl rfl rfl (vxq (vneq rfl rfl) rfl rfl ?_)
                refine vone rfl (vxq (vpkt rfl rfl) rfl rfl ?_)
                refine vnil ?_
                refine vcondd rfl (fun h49 => ?_) (fun h49 => ?_)
                · skip
                  refine vseq ?_
                  refine vregion ?_
                  refine vone rfl (vxq (vas rfl) rfl rfl ?_)
                  refine vnil ?_
                  refine vret (vr1 (H' := H) Try.func68 rfl (.tmp rfl) (by repeat first | exact .refl _ | refine .cons_cons _ ?_ | refine .cons _ ?_ | exact sl0 _ | refine slA ?_) ?_)
                  first | (exact ⟨oV (by rw [nameB_f (fun hn => by have := hn.1; omega)]), rfl⟩) | (exact ⟨oV (by rw [nameB_f (fun hn => by have h0 := hn.1; have hg := hn.2 0 (by omega); unfold goodP letP at hg; simp only [Int.toNat_zero] at *; omega)]), rfl⟩) | (exact ⟨oV (by rw [nameB_f (fun hn => by have hg := hn.2 i (by omega); unfold goodP letP at hg; simp only [Int.toNat_natCast] at *; omega)]), rfl⟩) | exact ⟨oV (by rw [nameB_t ⟨by omega, fun j hj => hgd j (by omega)⟩]), rfl⟩
                · skip
                  refine vskip ?_
                  refine vinblock ?_
                  refine vregion ?_
                  refine vone rfl (vxq (vmv rfl) rfl rfl ?_)
                  refine vone rfl (vxq (vadd rfl rfl (by unfold InR; omega)) rfl rfl ?_)
                  refine vone rfl (vxq (vas rfl) rfl rfl ?_)
                  refine vnil ?_
                  exact vback (IH (i + 1) (good_next hgd (by simp only [Int.toNat_zero, Int.toNat_natCast] at *; by_cases e0 : i = 0; (subst e0; unfold goodP letP; omega); (unfold goodP letP; omega))) (by omega)) ⟨rfl, rfl, rfl, True.intro⟩ (by repeat first | exact .refl _ | refine .cons_cons _ ?_ | refine .cons _ ?_ | exact sl0 _ | refine slA ?_)
              · skip
                refine vyes rfl rfl rfl (vxq (vmv rfl) rfl rfl ?_)
                refine vyes rfl rfl rfl (vxq (vgtrk rfl rfl) rfl rfl ?_)
                refine vyes rfl rfl rfl (vxq (vpkf rfl rfl) rfl rfl ?_)
                refine vone rfl (vxq (vpkt rfl rfl) rfl rfl ?_)
                refine vone rfl (vxq (vmv rfl) rfl rfl ?_)
                refine vsplitd (d := 46) rfl (fun h46 => ?_) (fun h46 => ?_)
                · skip
                  refine vyes rfl rfl rfl (vxq (vmv rfl) rfl rfl ?_)
                  refine vyes rfl rfl rfl (vxq (vneq rfl rfl) rfl rfl ?_)
                  refine vone rfl (vxq (vpkt rfl rfl) rfl rfl ?_)
                  refine vnil ?_
                  refine vcondd rfl (fun h49 => ?_) (fun h49 => ?_)
                  · skip
                    refine vseq ?_
                    refine vregion ?_
                    refine vone rfl (vxq (vas rfl) rfl rfl ?_)
                    refine vnil ?_
                    refine vret (vr1 (H' := H) Try.func68 rfl (.tmp rfl) (by repeat first | exact .refl _ | refine .cons_cons _ ?_ | refine .cons _ ?_ | exact sl0 _ | refine slA ?_) ?_)
                    first | (exact ⟨oV (by rw [nameB_f (fun hn => by have := hn.1; omega)]), rfl⟩) | (exact ⟨oV (by rw [nameB_f (fun hn => by have h0 := hn.1; have hg := hn.2 0 (by omega); unfold goodP letP at hg; simp only [Int.toNat_zero] at *; omega)]), rfl⟩) | (exact ⟨oV (by rw [nameB_f (fun hn => by have hg := hn.2 i (by omega); unfold goodP letP at hg; simp only [Int.toNat_natCast] at *; omega)]), rfl⟩) | exact ⟨oV (by rw [nameB_t ⟨by omega, fun j hj => hgd j (by omega)⟩]), rfl⟩
                  · skip
                    refine vskip ?_
                    refine vinblock ?_
                    refine vregion ?_
                    refine vone rfl (vxq (vmv rfl) rfl rfl ?_)
                    refine vone rfl (vxq (vadd rfl rfl (by unfold InR; omega)) rfl rfl ?_)
                    refine vone rfl (vxq (vas rfl) rfl rfl ?_)
                    refine vnil ?_
                    exact vback (IH (i + 1) (good_next hgd (by simp only [Int.toNat_zero, Int.toNat_natCast] at *; by_cases e0 : i = 0; (subst e0; unfold goodP letP; omega); (unfold goodP letP; omega))) (by omega)) ⟨rfl, rfl, rfl, True.intro⟩ (by repeat first | exact .refl _ | refine .cons_cons _ ?_ | refine .cons _ ?_ | exact sl0 _ | refine slA ?_)
                · skip
                  refine vno rfl rfl rfl rfl rfl ?_
                  refine vno rfl rfl rfl rfl rfl ?_
                  refine vone rfl (vxq (vpkf rfl rfl) rfl rfl ?_)
                  refine vnil ?_
                  refine vcondf rfl ?_
                  refine vskip ?_
                  refine vinblock ?_
                  refine vregion ?_
                  refine vone rfl (vxq (vmv rfl) rfl rfl ?_)
                  refine vone rfl (vxq (vadd rfl rfl (by unfold InR; omega)) rfl rfl ?_)
                  refine vone rfl (vxq (vas rfl) rfl rfl ?_)
                  refine vnil ?_
                  exact vback (IH (i + 1) (good_next hgd (by simp only [Int.toNat_zero, Int.toNat_natCast] at *; by_cases e0 : i = 0; (subst e0; unfold goodP letP; omega); (unfold goodP letP; omega))) (by omega)) ⟨rfl, rfl, rfl, True.intro⟩ (by repeat first | exact .refl _ | refine .cons_cons _ ?_ | refine .cons _ ?_ | exact sl0 _ | refine slA ?_)
            · skip
              refine vyes rfl rfl rfl (vxq (vmv rfl) rfl rfl ?_)
              refine vyes rfl rfl rfl (vxq (vgtrk rfl rfl) rfl rfl ?_)
              refine vone rfl (vxq (vpkf rfl rfl) rfl rfl ?_)
              refine vone rfl (vxq (vmv rfl) rfl rfl ?_)
              refine vsplitd (d := 38) rfl (fun h38 => ?_) (fun h38 => ?_)
              · skip
                refine vyes rfl rfl rfl (vxq (vmv rfl) rfl rfl ?_)
                refine vyes rfl rfl rfl (vxq (vlssk rfl rfl) rfl rfl ?_)
                refine vyes rfl rfl rfl (vxq (vmv rfl) rfl rfl ?_)
                refine vsplitd (d := 41) rfl (fun h41 => ?_) (fun h41 => ?_)
                · skip
                  refine vno rfl rfl rfl rfl rfl ?_
                  refine vno rfl rfl rfl rfl rfl ?_
                  refine vyes rfl rfl rfl (vxq (vpkt rfl rfl) rfl rfl ?_)
                  refine vone rfl (vxq (vpkt rfl rfl) rfl rfl ?_)
                  refine vone rfl (vxq (vmv rfl) rfl rfl ?_)
                  refine vyes rfl rfl rfl (vxq (vmv rfl) rfl rfl ?_)
                  refine vyes rfl rfl rfl (vxq (vneq rfl rfl) rfl rfl ?_)
                  refine vone rfl (vxq (vpkt rfl rfl) rfl rfl ?_)
                  refine vnil ?_
                  refine vcondd rfl (fun h49 => ?_) (fun h49 => ?_)
                  · skip
                    refine vseq ?_
                    refine vregion ?_
                    refine vone rfl (vxq (vas rfl) rfl rfl ?_)
                    refine vnil ?_
                    refine vret (vr1 (H' := H) Try.func68 rfl (.tmp rfl) (by repeat first | exact .refl _ | refine .cons_cons _ ?_ | refine .cons _ ?_ | exact sl0 _ | refine slA ?_) ?_)
                    first | (exact ⟨oV (by rw [nameB_f (fun hn => by have := hn.1; omega)]), rfl⟩) | (exact ⟨oV (by rw [nameB_f (fun hn => by have h0 := hn.1; have hg := hn.2 0 (by omega); unfold goodP letP at hg; simp only [Int.toNat_zero] at *; omega)]), rfl⟩) | (exact ⟨oV (by rw [nameB_f (fun hn => by have hg := hn.2 i (by omega); unfold goodP letP at hg; simp only [Int.toNat_natCast] at *; omega)]), rfl⟩) | exact ⟨oV (by rw [nameB_t ⟨by omega, fun j hj => hgd j (by omega)⟩]), rfl⟩
                  · skip
                    refine vskip ?_
                    refine vinblock ?_
                    refine vregion ?_
                    refine vone rfl (vxq (vmv rfl) rfl rfl ?_)
                    refine vone rfl (vxq (vadd rfl rfl (by unfold InR; omega)) rfl rfl ?_)
                    refine vone rfl (vxq (vas rfl) rfl rfl ?_)
                    refine vnil ?_
                    exact vback (IH (i + 1) (good_next hgd (by simp only [Int.toNat_zero, Int.toNat_natCast] at *; by_cases e0 : i = 0; (subst e0; unfold goodP letP; omega); (unfold goodP letP; omega))) (by omega)) ⟨rfl, rfl, rfl, True.intro⟩ (by repeat first | exact .refl _ | refine .cons_cons _ ?_ | refine .cons _ ?_ | exact sl0 _ | refine slA ?_)
                · skip
                  refine vyes rfl rfl rfl (vxq (vmv rfl) rfl rfl ?_)
                  refine vyes rfl rfl rfl (vxq (vgtrk rfl rfl) rfl rfl ?_)
                  refine vyes rfl rfl rfl (vxq (vpkf rfl rfl) rfl rfl ?_)
                  refine vone rfl (vxq (vpkt rfl rfl) rfl rfl ?_)
                  refine vone rfl (vxq (vmv rfl) rfl rfl ?_)
                  refine vsplitd (d := 46) rfl (fun h46 => ?_) (fun h46 => ?_)
                  · skip
                    refine vyes rfl rfl rfl (vxq (vmv rfl) rfl rfl ?_)
                    refine vyes rfl rfl rfl (vxq (vneq rfl rfl) rfl rfl ?_)
                    refine vone rfl (vxq (vpkt rfl rfl) rfl rfl ?_)
                    refine vnil ?_
                    refine vcondd rfl (fun h49 => ?_) (fun h49 => ?_)
                    · skip
                      refine vseq ?_
                      refine vregion ?_
                      refine vone rfl (vxq (vas rfl) rfl rfl ?_)
                      refine vnil ?_
                      refine vret (vr1 (H' := H) Try.func68 rfl (.tmp rfl) (by repeat first | exact .refl _ | refine .cons_cons _ ?_ | refine .cons _ ?_ | exact sl0 _ | refine slA ?_) ?_)
                      first | (exact ⟨oV (by rw [nameB_f (fun hn => by have := hn.1; omega)]), rfl⟩) | (exact ⟨oV (by rw [nameB_f (fun hn => by have h0 := hn.1; have hg := hn.2 0 (by omega); unfold goodP letP at hg; simp only [Int.toNat_zero] at *; omega)]), rfl⟩) | (exact ⟨oV (by rw [nameB_f (fun hn => by have hg := hn.2 i (by omega); unfold goodP letP at hg; simp only [Int.toNat_natCast] at *; omega)]), rfl⟩) | exact ⟨oV (by rw [nameB_t ⟨by omega, fun j hj => hgd j (by omega)⟩]), rfl⟩
                    · skip
                      refine vskip ?_
                      refine vinblock ?_
                      refine vregion ?_
                      refine vone rfl (vxq (vmv rfl) rfl rfl ?_)
                      refine vone rfl (vxq (vadd rfl rfl (by unfold InR; omega)) rfl rfl ?_)
                      refine vone rfl (vxq (vas rfl) rfl rfl ?_)
                      refine vnil ?_
                      exact vback (IH (i + 1) (good_next hgd (by simp only [Int.toNat_zero, Int.toNat_natCast] at *; by_cases e0 : i = 0; (subst e0; unfold goodP letP; omega); (unfold goodP letP; omega))) (by omega)) ⟨rfl, rfl, rfl, True.intro⟩ (by repeat first | exact .refl _ | refine .cons_cons _ ?_ | refine .cons _ ?_ | exact sl0 _ | refine slA ?_)
                  · skip
                    refine vno rfl rfl rfl rfl rfl ?_
                    refine vno rfl rfl rfl rfl rfl ?_
                    refine vone rfl (vxq (vpkf rfl rfl) rfl rfl ?_)
                    refine vnil ?_
                    refine vcondf rfl ?_
                    refine vskip ?_
                    refine vinblock ?_
                    refine vregion ?_
                    refine vone rfl (vxq (vmv rfl) rfl rfl ?_)
                    refine vone rfl (vxq (vadd rfl rfl (by unfold InR; omega)) rfl rfl ?_)
                    refine vone rfl (vxq (vas rfl) rfl rfl ?_)
                    refine vnil ?_
                    exact vback (IH (i + 1) (good_next hgd (by simp only [Int.toNat_zero, Int.toNat_natCast] at *; by_cases e0 : i = 0; (subst e0; unfold goodP letP; omega); (unfold goodP letP; omega))) (by omega)) ⟨rfl, rfl, rfl, True.intro⟩ (by repeat first | exact .refl _ | refine .cons_cons _ ?_ | refine .cons _ ?_ | exact sl0 _ | refine slA ?_)
              · skip
                refine vno rfl rfl rfl rfl rfl ?_
                refine vno rfl rfl rfl rfl rfl ?_
                refine vno rfl rfl rfl rfl rfl ?_
                refine vnou rfl rfl rfl rfl rfl ?_
                refine vnou rfl rfl rfl rfl rfl ?_
                refine vno rfl rfl rfl rfl rfl ?_
                refine vone rfl (vxq (vpkf rfl rfl) rfl rfl ?_)
                refine vone rfl (vxq (vmv rfl) rfl rfl ?_)
                refine vno rfl rfl rfl rfl rfl ?_
                refine vno rfl rfl rfl rfl rfl ?_
                refine vone rfl (vxq (vpkf rfl rfl) rfl rfl ?_)
                refine vnil ?_
                refine vcondf rfl ?_
                refine vskip ?_
                refine vinblock ?_
                refine vregion ?_
                refine vone rfl (vxq (vmv rfl) rfl rfl ?_)
                refine vone rfl (vxq (vadd rfl rfl (by unfold InR; omega)) rfl rfl ?_)
                refine vone rfl (vxq (vas rfl) rfl rfl ?_)
                refine vnil ?_
                exact vback (IH (i + 1) (good_next hgd (by simp only [Int.toNat_zero, Int.toNat_natCast] at *; by_cases e0 : i = 0; (subst e0; unfold goodP letP; omega); (unfold goodP letP; omega))) (by omega)) ⟨rfl, rfl, rfl, True.intro⟩ (by repeat first | exact .refl _ | refine .cons_cons _ ?_ | refine .cons _ ?_ | exact sl0 _ | refine slA ?_)
          · skip
            refine vexit (k' := _) rfl ?_
            refine vseq ?_
            refine vregion ?_
            refine vone rfl (vxq (vas rfl) rfl rfl ?_)
            refine vnil ?_
            refine vret (vr1 (H' := H) Try.func68 rfl (.tmp rfl) (by repeat first | exact .refl _ | refine .cons_cons _ ?_ | refine .cons _ ?_ | exact sl0 _ | refine slA ?_) ?_)
            first | (exact ⟨oV (by rw [nameB_f (fun hn => by have := hn.1; omega)]), rfl⟩) | (exact ⟨oV (by rw [nameB_f (fun hn => by have h0 := hn.1; have hg := hn.2 0 (by omega); unfold goodP letP at hg; simp only [Int.toNat_zero] at *; omega)]), rfl⟩) | (exact ⟨oV (by rw [nameB_f (fun hn => by have hg := hn.2 i (by omega); unfold goodP letP at hg; simp only [Int.toNat_natCast] at *; omega)]), rfl⟩) | exact ⟨oV (by rw [nameB_t ⟨by omega, fun j hj => hgd j (by omega)⟩]), rfl⟩
/-- paravane/paravanelaw01.RegionNames -/
theorem l_RegionNames (s : ByteArray) (hs : s.size ≤ 9223372036854775807) (r : Rg) (p : Pt) (n : Int) (H : Heap) : VHas Try.prog 18 [.string s, vR r, .agg [I p.x, I p.y, I n].toArray] (.bool true) H H := by
  refine vcall_of_vrun Try.func18 rfl (N := 88) rfl rfl ?_
  refine vseq ?_
  refine vregion ?_
  refine vone rfl (vxa (vbox rfl rfl) rfl rfl (fun b1 => ?_))
  refine vone rfl (vxa (vbox rfl rfl) rfl rfl (fun b2 => ?_))
  refine vone rfl (vxq (vas rfl) rfl rfl ?_)
  refine vnil ?_
  refine vseq ?_
  refine vseq ?_
  refine vdraw0 [(.q, 0), (.q, 1), (.q, 2), (.q, 3), (.q, 4), (.q, 5), (.q, 6), (.q, 7), (.q, 8), (.q, 9), (.q, 10), (.q, 11), (.q, 12), (.q, 13), (.q, 14), (.q, 15), (.q, 16), (.q, 17), (.q, 18), (.q, 19), (.q, 20), (.q, 21), (.q, 22), (.q, 23), (.q, 24), (.q, 25)] Try.mixed (by kernel_rfl) (by kernel_rfl) ?_
  refine vdq (mone rfl) (vmv rfl) rfl rfl ?_
  refine vdq (mone rfl) (vcp rfl rfl rfl (c_IsName s hs)) rfl rfl ?_
  refine vdq (mone rfl) (vmv rfl) rfl rfl ?_
  refine vdq (mone rfl) (vcp rfl rfl rfl (c_ref_IsName s hs)) rfl rfl ?_
  refine vdq (mone rfl) (vneqb (by kernel_rfl) rfl rfl) rfl rfl ?_
  refine vdknow (d := 19) (b' := false) rfl (by simp) ?_
  refine vdq (mone rfl) (vmv rfl) rfl rfl ?_
  refine vdq (myes rfl rfl rfl) (vfa rfl) rfl rfl ?_
  refine vdq (myes rfl rfl rfl) (vldn rfl rfl) rfl rfl ?_
  refine vdq (myes rfl rfl rfl) (vcp rfl rfl rfl (c_region_CheckPoint p)) rfl rfl ?_
  refine vdq (myes rfl rfl rfl) (vfa rfl) rfl rfl ?_
  refine vdq (myes rfl rfl rfl) (vldn rfl rfl) rfl rfl ?_
  refine vdq (myes rfl rfl rfl) (vcp rfl rfl rfl (c_ref_CheckPoint p)) rfl rfl ?_
  refine vdq (myes rfl rfl rfl) (vneq rfl rfl) rfl rfl ?_
  refine vdknow (d := 27) (b' := false) rfl (decide_eq_false (fun h => h rfl)) ?_
  refine vdq (mone rfl) (vpkf rfl rfl) rfl rfl ?_
  refine vdq (mone rfl) (vmv rfl) rfl rfl ?_
  refine vdq (myes rfl rfl rfl) (vldn rfl rfl) rfl rfl ?_
  refine vdq (myes rfl rfl rfl) (vcp rfl rfl rfl (c_region_Check r)) rfl rfl ?_
  refine vdq (myes rfl rfl rfl) (vldn rfl rfl) rfl rfl ?_
  refine vdq (myes rfl rfl rfl) (vcp rfl rfl rfl (c_ref_Check r)) rfl rfl ?_
  refine vdq (myes rfl rfl rfl) (vneq rfl rfl) rfl rfl ?_
  refine vdknow (d := 34) (b' := false) rfl (decide_eq_false (fun h => h rfl)) ?_
  refine vdq (mone rfl) (vpkf rfl rfl) rfl rfl ?_
  refine vdq (mone rfl) (vmv rfl) rfl rfl ?_
  refine vdq (myes rfl rfl rfl) (vcp rfl rfl rfl (c_All)) rfl rfl ?_
  refine vdq (myes rfl rfl rfl) (vcp rfl rfl rfl (c_ref_All)) rfl rfl ?_
  refine vdq (myes rfl rfl rfl) (vnes rfl rfl rfl rfl rfl rfl) rfl rfl ?_
  refine vdknow (d := 39) (b' := false) rfl (decide_eq_false (fun h => h rfl)) ?_
  refine vdq (mone rfl) (vpkf rfl rfl) rfl rfl ?_
  refine vdend rfl ?_
  refine vcondf rfl ?_
  refine vskip ?_
  refine vseq ?_
  refine vregion ?_
  refine vone rfl (vxq (vldn rfl rfl) rfl rfl ?_)
  refine vone rfl (vxq (vfa rfl) rfl rfl ?_)
  refine vone rfl (vxq (vldn rfl rfl) rfl rfl ?_)
  refine vone rfl (vxq (vcp rfl rfl rfl (c_Has r p)) rfl rfl ?_)
  refine vone rfl (vxq (vmv rfl) rfl rfl ?_)
  refine vone rfl (vxq (vex rfl rfl) rfl rfl ?_)
  refine vone rfl (vxq (vex rfl rfl) rfl rfl ?_)
  refine vone rfl (vxq (vas rfl) rfl rfl ?_)
  refine vone rfl (vxq (vas rfl) rfl rfl ?_)
  refine vnil ?_
  refine vseq ?_
  refine vregion ?_
  refine vone rfl (vxq (vldn rfl rfl) rfl rfl ?_)
  refine vone rfl (vxq (vfa rfl) rfl rfl ?_)
  refine vone rfl (vxq (vldn rfl rfl) rfl rfl ?_)
  refine vone rfl (vxq (vcp rfl rfl rfl (c_ref_Has r p)) rfl rfl ?_)
  refine vone rfl (vxq (vmv rfl) rfl rfl ?_)
  refine vone rfl (vxq (vex rfl rfl) rfl rfl ?_)
  refine vone rfl (vxq (vex rfl rfl) rfl rfl ?_)
  refine vone rfl (vxq (vas rfl) rfl rfl ?_)
  refine vone rfl (vxq (vas rfl) rfl rfl ?_)
  refine vnil ?_
  refine vseq ?_
  refine vregion ?_
  refine vone rfl (vxq (vfa rfl) rfl rfl ?_)
  refine vone rfl (vxq (vld1 rfl rfl) rfl rfl ?_)
  refine vone rfl (vxq (vcp rfl rfl rfl (c_Root n)) rfl rfl ?_)
  refine vone rfl (vxq (vmv rfl) rfl rfl ?_)
  refine vone rfl (vxq (vex rfl rfl) rfl rfl ?_)
  refine vone rfl (vxq (vex rfl rfl) rfl rfl ?_)
  refine vone rfl (vxq (vas rfl) rfl rfl ?_)
  refine vone rfl (vxq (vas rfl) rfl rfl ?_)
  refine vnil ?_
  refine vseq ?_
  refine vregion ?_
  refine vone rfl (vxq (vfa rfl) rfl rfl ?_)
  refine vone rfl (vxq (vld1 rfl rfl) rfl rfl ?_)
  refine vone rfl (vxq (vcp rfl rfl rfl (c_ref_Root n)) rfl rfl ?_)
  refine vone rfl (vxq (vmv rfl) rfl rfl ?_)
  refine vone rfl (vxq (vex rfl rfl) rfl rfl ?_)
  refine vone rfl (vxq (vex rfl rfl) rfl rfl ?_)
  refine vone rfl (vxq (vas rfl) rfl rfl ?_)
  refine vone rfl (vxq (vas rfl) rfl rfl ?_)
  refine vnil ?_
  refine vseq ?_
  refine vregion ?_
  refine vone rfl (vxq (vmv rfl) rfl rfl ?_)
  refine vone rfl (vxq (vmv rfl) rfl rfl ?_)
  refine vone rfl (vxq (veqb rfl rfl (by kernel_rfl)) rfl rfl ?_)
  refine vknow (d := 69) (b' := true) rfl (by simp) ?_
  refine vone rfl (vxq (vmv rfl) rfl rfl ?_)
  refine vyes rfl rfl rfl (vxq (vmv rfl) rfl rfl ?_)
  refine vyes rfl rfl rfl (vxq (vmv rfl) rfl rfl ?_)
  refine vyes rfl rfl rfl (vxq (veql rfl rfl) rfl rfl ?_)
  refine vknow (d := 73) (b' := true) rfl (decide_eq_true rfl) ?_
  refine vone rfl (vxq (vpkt rfl rfl) rfl rfl ?_)
  refine vone rfl (vxq (vmv rfl) rfl rfl ?_)
  refine vyes rfl rfl rfl (vxq (vmv rfl) rfl rfl ?_)
  refine vyes rfl rfl rfl (vxq (vmv rfl) rfl rfl ?_)
  refine vyes rfl rfl rfl (vxq (veql rfl rfl) rfl rfl ?_)
  refine vknow (d := 78) (b' := true) rfl (decide_eq_true rfl) ?_
  refine vone rfl (vxq (vpkt rfl rfl) rfl rfl ?_)
  refine vone rfl (vxq (vmv rfl) rfl rfl ?_)
  refine vyes rfl rfl rfl (vxq (vmv rfl) rfl rfl ?_)
  refine vyes rfl rfl rfl (vxq (vmv rfl) rfl rfl ?_)
  refine vyes rfl rfl rfl (vxq (veql rfl rfl) rfl rfl ?_)
  refine vknow (d := 83) (b' := true) rfl (decide_eq_true rfl) ?_
  refine vone rfl (vxq (vpkt rfl rfl) rfl rfl ?_)
  refine vone rfl (vxq (vmv rfl) rfl rfl ?_)
  refine vyes rfl rfl rfl (vxq (vcp rfl rfl rfl (c_works)) rfl rfl ?_)
  refine vone rfl (vxq (vpkt rfl rfl) rfl rfl ?_)
  refine vone rfl (vxq (vas rfl) rfl rfl ?_)
  refine vnil ?_
  refine vret (vr1 (H' := H) Try.func18 rfl (.tmp rfl) (by repeat first | exact .refl _ | refine .cons_cons _ ?_ | refine .cons _ ?_ | exact sl0 _ | refine slA ?_) ?_)
  exact ⟨rfl, rfl⟩
end Go.Proofs.Ytffpfcomikcimaa
