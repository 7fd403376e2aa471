/-
  Walks of Clash, of the program and of the reference.
-/
import Derived.Test.YtffpfcomikcimaaWt
namespace Go.Proofs.Ytffpfcomikcimaa
open Go
set_option maxRecDepth 100000

attribute [local irreducible] tightP hullP rootP farP rows endsOf sqL sqP twoE pickL srch cutsOf clashE
/-- What Clash comes to. -/
abbrev ClV (H : Heap) (L : List Int) (e : Int) (v : Value) (B : Heap) : Prop := ∃ oa m c, v = tup [sli oa m c, I e] ∧ L.length = m ∧ SlO (B ++ H) oa 1 encI L
abbrev ClR (H : Heap) (r : List Int × Int) (o : Out) (H' : Heap) : Prop := ∃ v, o = .val v ∧ ∃ B, H' = B ++ H ∧ ClV H r.1 r.2 v B
theorem ok_snoc {l : List Rg} {i : Nat} {z : Rg} (h : ∀ r ∈ l.take i, r.ok) (hz : l[i]? = some z) (h2 : z.ok) : ∀ r ∈ l.take (i + 1), r.ok := by
  intro r hr
  rw [take_succ_of hz] at hr
  rcases List.mem_append.1 hr with hr | hr
  · exact h r hr
  · rw [List.mem_singleton.1 hr]; exact h2
theorem okl_all {l : List Rg} {n i : Nat} (h : ∀ r ∈ l.take i, r.ok) (hn : l.length = n) (hi : ¬ i < n) : ∀ r ∈ l, r.ok := by
  rw [List.take_of_length_le (by omega)] at h; exact h
theorem nos_next {l : List Rg} {n : Nat} (h : ∀ m, m < n → srch l (m + 1) allR [] 0 = none) (h2 : srch l (n + 1) allR [] 0 = none) : ∀ m, m < n + 1 → srch l (m + 1) allR [] 0 = none := by
  intro m hm
  by_cases e : m = n
  · subst e; exact h2
  · exact h m (by omega)
theorem no_min {l : List Rg} {n k : Nat} (h : ∀ m, m < n → srch l (m + 1) allR [] 0 = none) (hl : l.length = k) (hn : ¬ ((n : Int) + 1 ≤ min 4 (k : Int))) : ∀ m, m < min 4 l.length → srch l (m + 1) allR [] 0 = none := fun m hm => h m (by omega)
theorem clE_11' {l : List Rg} {z : Rg} {k : Nat} (hl : l.length = k) (h : ¬ (12 : Int) < k) {i : Nat} (hz : l[i]? = some z) (hn : chkR z ≠ 0) : clashE l = ([], chkR z) := by
  rw [clE_11 (by omega) (List.mem_of_getElem? hz) (chkR_nz.1 hn), chkR_no (chkR_nz.1 hn)]

/-- paravane/region.Clash -/
theorem g_Clash (l : List Rg) (ol : Option Addr) (nl cl : Nat) (hnl : l.length = nl) (hmx : nl ≤ 9223372036854775807) (H : Heap) [hS : SlO H ol 8 encR l] : VCall Try.prog 37 [sli ol nl cl].toArray H (ClR H (clashE l)) := by
  refine vcall_of_vrun Try.func37 rfl (N := 43) rfl rfl ?_
  refine vseq ?_
  refine vregion ?_
  refine vone rfl (vxa (vbox rfl rfl) rfl rfl (fun b1 => ?_))
  refine vone rfl (vxq (vas rfl) rfl rfl ?_)
  refine vone rfl (vxq (vas rfl) rfl rfl ?_)
  refine vnil ?_
  refine vscope ?_
  refine vseq ?_
  refine vseq ?_
  refine vregion ?_
  refine vone rfl (vxq (vld1 rfl rfl) rfl rfl ?_)
  refine vone rfl (vxq (vlen rfl) rfl rfl ?_)
  refine vone rfl (vxq (vgtr rfl rfl) rfl rfl ?_)
  refine vnil ?_
  refine vcondd rfl (fun h12 => ?_) (fun h12 => ?_)
  · skip
    refine vseq ?_
    refine vregion ?_
    refine vone rfl (vxq (vas rfl) rfl rfl ?_)
    refine vone rfl (vxq (vas rfl) rfl rfl ?_)
    refine vnil ?_
    refine vret (vr2 (H' := H) Try.func37 rfl (.tmp rfl) (.tmp rfl) (by repeat first | exact .refl _ | refine .cons_cons _ ?_ | refine .cons _ ?_ | exact sl0 _ | refine slA ?_) ?_)
    first
      | (rw [clE_3 (by omega)]; exact ⟨_, rfl, [], rfl, Option.none, 0, 0, rfl, rfl, SlO.nil⟩)
      | (rw [clE_11' hnl (by omega) hz h22]; exact ⟨_, rfl, [], rfl, Option.none, 0, 0, rfl, rfl, SlO.nil⟩)
      | (rw [clE_4 (by omega) hal (no_min hno hnl h30)]; exact ⟨_, rfl, [], rfl, Option.none, 0, 0, rfl, rfl, SlO.nil⟩)
      | (rw [clE_0 (by omega) hal (by omega) hno e37]; exact ⟨_, rfl, B3 ++ [(b3, blk [vSearch b1 b3] 139), (b1, blk [sli ol nl cl] 50)], by simp, some a3, m3, c3, rfl, hL, by simpa using hS3⟩)
  · skip
    refine vskip ?_
    refine vseq ?_
    refine vseq ?_
    refine vregion ?_
    refine vone rfl (vxq (vld1 rfl rfl) rfl rfl ?_)
    refine vone rfl (vxq (vlen rfl) rfl rfl ?_)
    refine vone rfl (vxq (vmv rfl) rfl rfl ?_)
    refine vnil ?_
    refine vblock ?_
    refine vwhile (σ := Nat) (fun i => nl - i) (fun i => [(1, ptr b1), (2, nilS), (3, I 0), (13, sli ol nl cl), (14, I nl), (15, I (i : Int))]) (fun i => (b1, blk [sli ol nl cl] 50) :: H) (fun i => ∀ r ∈ l.take i, r.ok) 0 (by simp) ⟨rfl, rfl, rfl, rfl, rfl, rfl, True.intro⟩ (by repeat first | exact .refl _ | refine .cons_cons _ ?_ | refine .cons _ ?_ | exact sl0 _ | refine slA ?_) ?_
    rintro i hok IH
    change VRun _ _ _ _ _ [(1, ptr b1), (2, nilS), (3, I 0), (13, sli ol nl cl), (14, I nl), (15, I (i : Int))] _ ((b1, blk [sli ol nl cl] 50) :: H) _
    refine vseq ?_
    refine vregion ?_
    refine vone rfl (vxq (vlss rfl rfl) rfl rfl ?_)
    refine vnil ?_
    refine vseq ?_
    refine vcondd rfl (fun h16 => ?_) (fun h16 => ?_)
    · skip
      obtain ⟨z, hz⟩ := get_of_lt l (i := ((i : Nat) : Int).toNat) (by omega)
      refine vskip ?_
      refine vseq ?_
      refine vblock ?_
      refine vseq ?_
      refine vregion ?_
      refine vone rfl (vxq (visg (enc := encR) rfl rfl (by omega) hz) rfl rfl ?_)
      refine vone rfl (vxq (vldS (enc := encR) rfl hz) rfl rfl ?_)
      refine vone rfl (vxa valloc rfl rfl (fun b2 => ?_))
      refine vone rfl (vxs (vstn rfl rfl rfl rfl rfl) rfl ?_)
      refine vnil ?_
      refine vseq ?_
      refine vregion ?_
      refine vone rfl (vxq (vldn rfl rfl) rfl rfl ?_)
      refine vone rfl (vxq (vcp rfl rfl rfl (c_region_Check z)) rfl rfl ?_)
      refine vone rfl (vxq (vas rfl) rfl rfl ?_)
      refine vnil ?_
      refine vseq ?_
      refine vregion ?_
      refine vone rfl (vxq (vmv rfl) rfl rfl ?_)
      refine vone rfl (vxq (vneq rfl rfl) rfl rfl ?_)
      refine vnil ?_
      refine vcondd rfl (fun h22 => ?_) (fun h22 => ?_)
      · skip
        refine vseq ?_
        refine vregion ?_
        refine vone rfl (vxq (vmv rfl) rfl rfl ?_)
        refine vone rfl (vxq (vas rfl) rfl rfl ?_)
        refine vone rfl (vxq (vas rfl) rfl rfl ?_)
        refine vnil ?_
        refine vret (vr2 (H' := H) Try.func37 rfl (.tmp rfl) (.tmp rfl) (by repeat first | exact .refl _ | refine .cons_cons _ ?_ | refine .cons _ ?_ | exact sl0 _ | refine slA ?_) ?_)
        first
          | (rw [clE_3 (by omega)]; exact ⟨_, rfl, [], rfl, Option.none, 0, 0, rfl, rfl, SlO.nil⟩)
          | (rw [clE_11' hnl (by omega) hz h22]; exact ⟨_, rfl, [], rfl, Option.none, 0, 0, rfl, rfl, SlO.nil⟩)
          | (rw [clE_4 (by omega) hal (no_min hno hnl h30)]; exact ⟨_, rfl, [], rfl, Option.none, 0, 0, rfl, rfl, SlO.nil⟩)
          | (rw [clE_0 (by omega) hal (by omega) hno e37]; exact ⟨_, rfl, B3 ++ [(b3, blk [vSearch b1 b3] 139), (b1, blk [sli ol nl cl] 50)], by simp, some a3, m3, c3, rfl, hL, by simpa using hS3⟩)
      · skip
        refine vskip ?_
        refine vinblock ?_
        refine vregion ?_
        refine vone rfl (vxq (vadd rfl rfl (by unfold InR; omega)) rfl rfl ?_)
        refine vone rfl (vxq (vmv rfl) rfl rfl ?_)
        refine vnil ?_
        exact vback (IH (i + 1) (ok_snoc hok (by simpa using hz) (ok_of h22)) (by omega)) ⟨rfl, rfl, rfl, rfl, rfl, rfl, True.intro⟩ (by repeat first | exact .refl _ | refine .cons_cons _ ?_ | refine .cons _ ?_ | exact sl0 _ | refine slA ?_)
    · skip
      refine vexit (k' := _) rfl ?_
      refine vseq ?_
      refine vregion ?_
      refine vone rfl (vxa valloc rfl rfl (fun b3 => ?_))
      refine vnil ?_
      refine vseq ?_
      refine vregion ?_
      refine vone rfl (vxq (vmf rfl) rfl rfl ?_)
      refine vone rfl (vxs (vst1 rfl rfl rfl rfl) rfl ?_)
      refine vnil ?_
      refine vseq ?_
      refine vregion ?_
      refine vone rfl (vxq (vas rfl) rfl rfl ?_)
      refine vnil ?_
      refine vseq ?_
      refine vlabel ?_
      refine vseq ?_
      refine vseq ?_
      refine vregion ?_
      refine vone rfl (vxq (vas rfl) rfl rfl ?_)
      refine vnil ?_
      refine vblock ?_
      refine vwhile (σ := Nat) (fun n => 5 - n) (fun n => [(1, ptr b1), (2, nilS), (3, I 0), (7, ptr b3), (8, nilS), (9, I ((n : Int) + 1))]) (fun n => (b3, blk [vSearch b1 b3] 139) :: (b1, blk [sli ol nl cl] 50) :: H) (fun n => ∀ m, m < n → srch l (m + 1) allR [] 0 = none) 0 (by omega) ⟨rfl, rfl, rfl, rfl, rfl, rfl, True.intro⟩ (by repeat first | exact .refl _ | refine .cons_cons _ ?_ | refine .cons _ ?_ | exact sl0 _ | refine slA ?_) ?_
      rintro n hno IH
      change VRun _ _ _ _ _ [(1, ptr b1), (2, nilS), (3, I 0), (7, ptr b3), (8, nilS), (9, I ((n : Int) + 1))] _ ((b3, blk [vSearch b1 b3] 139) :: (b1, blk [sli ol nl cl] 50) :: H) _
      have hal := okl_all hok hnl (by omega)
      have hsm := sm_all hal
      refine vseq ?_
      refine vseq ?_
      refine vregion ?_
      refine vone rfl (vxq (vmv rfl) rfl rfl ?_)
      refine vone rfl (vxq (vld1 rfl rfl) rfl rfl ?_)
      refine vone rfl (vxq (vlen rfl) rfl rfl ?_)
      refine vone rfl (vxq (vmin2 rfl rfl) rfl rfl ?_)
      refine vone rfl (vxq (vleq rfl rfl) rfl rfl ?_)
      refine vnil ?_
      refine vcondd rfl (fun h30 => ?_) (fun h30 => ?_)
      · skip
        refine vskip ?_
        refine vseq ?_
        refine vblock ?_
        refine vseq ?_
        refine vdraw0 [(.q, 0), (.q, 1), (.q, 2), (.q, 3), (.g, 4), (.q, 5)] Try.mixed (by kernel_rfl) (by kernel_rfl) ?_
        refine vdq (mone rfl) (vld1 rfl rfl) rfl rfl ?_
        refine vdq (mone rfl) (vcp rfl rfl rfl (c_All)) rfl rfl ?_
        refine vdq (mone rfl) (vcp rfl rfl rfl (c_region_bounds _ _ _ _ _ _ _ _)) rfl rfl ?_
        refine vdq (mone rfl) (vmv rfl) rfl rfl ?_
        refine vdgl rfl (mone rfl) (vcg rfl rfl rfl (g_searchS l hsm ol nl cl hnl hmx n (g_search l hsm ol nl cl hnl hmx n (by omega)) allR allR_ok.sm nilS 0 [] rfl (by omega) (by omega) 0 _ _ (by simp) (by simp) b1 b3 _ (.inl ⟨rfl, rfl, rfl⟩)) (fun o H' h => h)) rfl rfl ?_
        rintro t37 B3 hsr
        generalize e37 : srch l (n + 1) allR [] 0 = r37 at hsr
        rcases r37 with _ | L
        · skip
          obtain ⟨rfl, rfl⟩ := hsr
          refine vdq (mone rfl) (vas rfl) rfl rfl ?_
          refine vdend (appHO_of _ _) ?_
          refine vseq ?_
          refine vregion ?_
          refine vone rfl (vxq (vmv rfl) rfl rfl ?_)
          refine vone rfl (vxq (vnesn rfl rfl) rfl rfl ?_)
          refine vnil ?_
          refine vcondf rfl ?_
          refine vskip ?_
          refine vinblock ?_
          refine vregion ?_
          refine vone rfl (vxq (vmv rfl) rfl rfl ?_)
          refine vone rfl (vxq (vadd rfl rfl (by unfold InR; omega)) rfl rfl ?_)
          refine vone rfl (vxq (vas rfl) rfl rfl ?_)
          refine vnil ?_
          exact vback (IH (n + 1) (nos_next hno e37) (by omega)) ⟨rfl, rfl, rfl, rfl, rfl, rfl, True.intro⟩ (List.sublist_append_right _ _)
        · skip
          obtain ⟨a3, m3, c3, rfl, hL, hS3⟩ := hsr
          refine vdq (mone rfl) (vas rfl) rfl rfl ?_
          refine vdend (appHO_of _ _) ?_
          refine vseq ?_
          refine vregion ?_
          refine vone rfl (vxq (vmv rfl) rfl rfl ?_)
          refine vone rfl (vxq (vnesn rfl rfl) rfl rfl ?_)
          refine vnil ?_
          refine vcondt rfl ?_
          refine vexit (k' := _) rfl ?_
          refine vseq ?_
          refine vseq ?_
          refine vregion ?_
          refine vone rfl (vxq (vmv rfl) rfl rfl ?_)
          refine vone rfl (vxq (veqsn rfl rfl) rfl rfl ?_)
          refine vnil ?_
          refine vcondf rfl ?_
          refine vskip ?_
          refine vseq ?_
          refine vregion ?_
          refine vone rfl (vxq (vmv rfl) rfl rfl ?_)
          refine vone rfl (vxq (vas rfl) rfl rfl ?_)
          refine vone rfl (vxq (vas rfl) rfl rfl ?_)
          refine vnil ?_
          refine vret (vr2 (H' := _) Try.func37 rfl (.tmp rfl) (.tmp rfl) (by repeat first | exact .refl _ | refine .cons_cons _ ?_ | refine .cons _ ?_ | exact sl0 _ | refine slA ?_) ?_)
          first
            | (rw [clE_3 (by omega)]; exact ⟨_, rfl, [], rfl, Option.none, 0, 0, rfl, rfl, SlO.nil⟩)
            | (rw [clE_11' hnl (by omega) hz h22]; exact ⟨_, rfl, [], rfl, Option.none, 0, 0, rfl, rfl, SlO.nil⟩)
            | (rw [clE_4 (by omega) hal (no_min hno hnl h30)]; exact ⟨_, rfl, [], rfl, Option.none, 0, 0, rfl, rfl, SlO.nil⟩)
            | (rw [clE_0 (by omega) hal (by omega) hno e37]; exact ⟨_, rfl, B3 ++ [(b3, blk [vSearch b1 b3] 139), (b1, blk [sli ol nl cl] 50)], by simp, some a3, m3, c3, rfl, hL, by simpa using hS3⟩)
      · skip
        refine vexit (k' := _) rfl ?_
        refine vseq ?_
        refine vseq ?_
        refine vregion ?_
        refine vone rfl (vxq (vmv rfl) rfl rfl ?_)
        refine vone rfl (vxq (veqsn rfl rfl) rfl rfl ?_)
        refine vnil ?_
        refine vcondt rfl ?_
        refine vseq ?_
        refine vregion ?_
        refine vone rfl (vxq (vas rfl) rfl rfl ?_)
        refine vone rfl (vxq (vas rfl) rfl rfl ?_)
        refine vnil ?_
        refine vret (vr2 (H' := H) Try.func37 rfl (.tmp rfl) (.tmp rfl) (by repeat first | exact .refl _ | refine .cons_cons _ ?_ | refine .cons _ ?_ | exact sl0 _ | refine slA ?_) ?_)
        first
          | (rw [clE_3 (by omega)]; exact ⟨_, rfl, [], rfl, Option.none, 0, 0, rfl, rfl, SlO.nil⟩)
          | (rw [clE_11' hnl (by omega) hz h22]; exact ⟨_, rfl, [], rfl, Option.none, 0, 0, rfl, rfl, SlO.nil⟩)
          | (rw [clE_4 (by omega) hal (no_min hno hnl h30)]; exact ⟨_, rfl, [], rfl, Option.none, 0, 0, rfl, rfl, SlO.nil⟩)
          | (rw [clE_0 (by omega) hal (by omega) hno e37]; exact ⟨_, rfl, B3 ++ [(b3, blk [vSearch b1 b3] 139), (b1, blk [sli ol nl cl] 50)], by simp, some a3, m3, c3, rfl, hL, by simpa using hS3⟩)

theorem srch_le {l : List Rg} {N n : Nat} {out : List Int} (hs : srch l (N + 1) allR [] 0 = some out) (hn : n ≤ N) (h : srch l (n + 1) allR [] 0 = none) : n + 1 ≤ N := by
  by_cases e : n = N
  · subst e; rw [hs] at h; cases h
  · omega
theorem cutsOf_0 (l : List Rg) (f : Rg) : cutsOf l f (List.range 0) = f := by unfold cutsOf; rfl
theorem z_of {h : Option Rg} (e : (optE h).2 = 0) : h ≠ none := by rintro rfl; simp [optE, errO] at e
theorem nz_of {h : Option Rg} (e : ¬ (optE h).2 = 0) : h = none := by cases h with | none => rfl | some g => exact absurd rfl e

/-- paravane/paravaneref01.Clash -/
theorem g_ref_Clash (l : List Rg) (ol : Option Addr) (nl cl : Nat) (hnl : l.length = nl) (hmx : nl ≤ 9223372036854775807) (H : Heap) [hS : SlO H ol 8 encR l] : VCall Try.prog 38 [sli ol nl cl].toArray H (ClR H (clashE l)) := by
  refine vcall_of_vrun Try.func38 rfl (N := 55) rfl rfl ?_
  refine vseq ?_
  refine vregion ?_
  refine vone rfl (vxq (vas rfl) rfl rfl ?_)
  refine vone rfl (vxq (vas rfl) rfl rfl ?_)
  refine vnil ?_
  refine vseq ?_
  refine vseq ?_
  refine vregion ?_
  refine vone rfl (vxq (vmv rfl) rfl rfl ?_)
  refine vone rfl (vxq (vlen rfl) rfl rfl ?_)
  refine vone rfl (vxq (vgtr rfl rfl) rfl rfl ?_)
  refine vnil ?_
  refine vcondd rfl (fun h14 => ?_) (fun h14 => ?_)
  · skip
    refine vseq ?_
    refine vregion ?_
    refine vone rfl (vxq (vas rfl) rfl rfl ?_)
    refine vone rfl (vxq (vas rfl) rfl rfl ?_)
    refine vnil ?_
    refine vret (vr2 (H' := H) Try.func38 rfl (.tmp rfl) (.tmp rfl) (by repeat first | exact .refl _ | refine .cons_cons _ ?_ | refine .cons _ ?_ | exact sl0 _ | refine slA ?_) ?_)
    first
      | (rw [clE_3 (by omega)]; exact ⟨_, rfl, [], rfl, Option.none, 0, 0, rfl, rfl, SlO.nil⟩)
      | (rw [clE_11' hnl (by omega) hz h28]; exact ⟨_, rfl, [], rfl, Option.none, 0, 0, rfl, rfl, SlO.nil⟩)
      | (rw [clE_none (by omega) (okl_all hok hnl (by omega)) (by have := z_of h43; rwa [hil] at this)]; exact ⟨_, rfl, [], rfl, Option.none, 0, 0, rfl, rfl, SlO.nil⟩)
      | (rw [clE_0 (by omega) hal (by omega) (fun m hm => hNo m (by omega)) e50]; exact ⟨_, rfl, B3, rfl, some a3, m3, c3, rfl, hL, hS3⟩)
  · skip
    refine vskip ?_
    refine vseq ?_
    refine vregion ?_
    refine vone rfl (vxq (vcp rfl rfl rfl (c_ref_All)) rfl rfl ?_)
    refine vone rfl (vxa valloc rfl rfl (fun b1 => ?_))
    refine vone rfl (vxs (vstn rfl rfl rfl rfl rfl) rfl ?_)
    refine vnil ?_
    refine vseq ?_
    refine vseq ?_
    refine vregion ?_
    refine vone rfl (vxq (vas rfl) rfl rfl ?_)
    refine vnil ?_
    refine vblock ?_
    refine vwhile (σ := Nat) (fun i => nl - i) (fun i => [(0, sli ol nl cl), (2, nilS), (3, I 0), (4, ptr b1), (5, I (i : Int))]) (fun i => (b1, blk (clR (cutsOf l allR (List.range i))) 25) :: H) (fun i => i ≤ nl ∧ ∀ r ∈ l.take i, r.ok) 0 ⟨by omega, by simp⟩ ⟨rfl, rfl, rfl, rfl, rfl, True.intro⟩ (by rw [cutsOf_0]; exact List.Sublist.refl _) ?_
    rintro i ⟨hile, hok⟩ IH
    change VRun _ _ _ _ _ [(0, sli ol nl cl), (2, nilS), (3, I 0), (4, ptr b1), (5, I (i : Int))] _ ((b1, blk (clR (cutsOf l allR (List.range i))) 25) :: H) _
    refine vseq ?_
    refine vseq ?_
    refine vregion ?_
    refine vone rfl (vxq (vmv rfl) rfl rfl ?_)
    refine vone rfl (vxq (vmv rfl) rfl rfl ?_)
    refine vone rfl (vxq (vlen rfl) rfl rfl ?_)
    refine vone rfl (vxq (vlss rfl rfl) rfl rfl ?_)
    refine vnil ?_
    refine vcondd rfl (fun h19 => ?_) (fun h19 => ?_)
    · skip
      obtain ⟨z, hz⟩ := get_of_lt l (i := ((i : Nat) : Int).toNat) (by omega)
      refine vskip ?_
      refine vseq ?_
      refine vblock ?_
      refine vseq ?_
      refine vseq ?_
      refine vregion ?_
      refine vone rfl (vxq (vmv rfl) rfl rfl ?_)
      refine vone rfl (vxq (vmv rfl) rfl rfl ?_)
      refine vone rfl (vxq (visg (enc := encR) rfl rfl (by omega) hz) rfl rfl ?_)
      refine vone rfl (vxq (vldS (enc := encR) rfl hz) rfl rfl ?_)
      refine vone rfl (vxq (vcp rfl rfl rfl (c_ref_Check z)) rfl rfl ?_)
      refine vone rfl (vxq (vas rfl) rfl rfl ?_)
      refine vnil ?_
      refine vseq ?_
      refine vregion ?_
      refine vone rfl (vxq (vmv rfl) rfl rfl ?_)
      refine vone rfl (vxq (vneq rfl rfl) rfl rfl ?_)
      refine vnil ?_
      refine vcondd rfl (fun h28 => ?_) (fun h28 => ?_)
      · skip
        refine vseq ?_
        refine vregion ?_
        refine vone rfl (vxq (vmv rfl) rfl rfl ?_)
        refine vone rfl (vxq (vas rfl) rfl rfl ?_)
        refine vone rfl (vxq (vas rfl) rfl rfl ?_)
        refine vnil ?_
        refine vret (vr2 (H' := H) Try.func38 rfl (.tmp rfl) (.tmp rfl) (by repeat first | exact .refl _ | refine .cons_cons _ ?_ | refine .cons _ ?_ | exact sl0 _ | refine slA ?_) ?_)
        first
          | (rw [clE_3 (by omega)]; exact ⟨_, rfl, [], rfl, Option.none, 0, 0, rfl, rfl, SlO.nil⟩)
          | (rw [clE_11' hnl (by omega) hz h28]; exact ⟨_, rfl, [], rfl, Option.none, 0, 0, rfl, rfl, SlO.nil⟩)
          | (rw [clE_none (by omega) (okl_all hok hnl (by omega)) (by have := z_of h43; rwa [hil] at this)]; exact ⟨_, rfl, [], rfl, Option.none, 0, 0, rfl, rfl, SlO.nil⟩)
          | (rw [clE_0 (by omega) hal (by omega) (fun m hm => hNo m (by omega)) e50]; exact ⟨_, rfl, B3, rfl, some a3, m3, c3, rfl, hL, hS3⟩)
      · skip
        refine vskip ?_
        refine vdraw0 [(.q, 0), (.q, 1), (.q, 2), (.q, 3), (.q, 4), (.q, 5), (.c, 6)] Try.mixed (by kernel_rfl) (by kernel_rfl) ?_
        refine vdq (mone rfl) (vldn rfl rfl) rfl rfl ?_
        refine vdq (mone rfl) (vmv rfl) rfl rfl ?_
        refine vdq (mone rfl) (vmv rfl) rfl rfl ?_
        refine vdq (mone rfl) (visg (enc := encR) rfl rfl (by omega) hz) rfl rfl ?_
        refine vdq (mone rfl) (vldS (enc := encR) rfl hz) rfl rfl ?_
        refine vdq (mone rfl) (vcp rfl rfl rfl (c_common _ z)) rfl rfl ?_
        refine vdcs (mone rfl) (vstn rfl rfl rfl rfl rfl) rfl ?_
        refine vdend rfl ?_
        refine vinblock ?_
        refine vregion ?_
        refine vone rfl (vxq (vmv rfl) rfl rfl ?_)
        refine vone rfl (vxq (vadd rfl rfl (by unfold InR; omega)) rfl rfl ?_)
        refine vone rfl (vxq (vas rfl) rfl rfl ?_)
        refine vnil ?_
        exact vback (IH (i + 1) ⟨by omega, ok_snoc hok (by simpa using hz) (ok_of h28)⟩ (by omega)) ⟨rfl, rfl, rfl, rfl, rfl, True.intro⟩ (by rw [cuts_step (get_at hz)]; exact List.Sublist.refl _)
    · skip
      have hil : i = l.length := by omega
      refine vexit (k' := _) rfl ?_
      refine vseq ?_
      refine vseq ?_
      refine vregion ?_
      refine vone rfl (vxq (vldn rfl rfl) rfl rfl ?_)
      refine vone rfl (vxg (vbs rfl rfl rfl rfl rfl rfl) rfl rfl ?_)
      rintro _ _ ⟨b2, rfl, rfl⟩
      refine vone rfl (vxq (vcq rfl rfl rfl ((h_hulls1 _ ((cuts_sm (sm_all (okl_all hok hnl (by omega))) _ allR allR_ok.sm).mono (by decide)) b2).fr1)) rfl rfl ?_)
      refine vone rfl (vxq (vmv rfl) rfl rfl ?_)
      refine vone rfl (vxq (vex rfl rfl) rfl rfl ?_)
      refine vone rfl (vxq (vex rfl rfl) rfl rfl ?_)
      refine vone rfl (vxa valloc rfl rfl (fun b3 => ?_))
      refine vone rfl (vxs (vstn rfl rfl rfl rfl rfl) rfl ?_)
      refine vone rfl (vxq (vas rfl) rfl rfl ?_)
      refine vnil ?_
      refine vseq ?_
      refine vregion ?_
      refine vone rfl (vxq (vmv rfl) rfl rfl ?_)
      refine vone rfl (vxq (veql rfl rfl) rfl rfl ?_)
      refine vnil ?_
      refine vcondd rfl (fun h43 => ?_) (fun h43 => ?_)
      · skip
        refine vseq ?_
        refine vregion ?_
        refine vone rfl (vxq (vas rfl) rfl rfl ?_)
        refine vone rfl (vxq (vas rfl) rfl rfl ?_)
        refine vnil ?_
        refine vret (vr2 (H' := H) Try.func38 rfl (.tmp rfl) (.tmp rfl) (by repeat first | exact .refl _ | refine .cons_cons _ ?_ | refine .cons _ ?_ | exact sl0 _ | refine slA ?_) ?_)
        first
          | (rw [clE_3 (by omega)]; exact ⟨_, rfl, [], rfl, Option.none, 0, 0, rfl, rfl, SlO.nil⟩)
          | (rw [clE_11' hnl (by omega) hz h28]; exact ⟨_, rfl, [], rfl, Option.none, 0, 0, rfl, rfl, SlO.nil⟩)
          | (rw [clE_none (by omega) (okl_all hok hnl (by omega)) (by have := z_of h43; rwa [hil] at this)]; exact ⟨_, rfl, [], rfl, Option.none, 0, 0, rfl, rfl, SlO.nil⟩)
          | (rw [clE_0 (by omega) hal (by omega) (fun m hm => hNo m (by omega)) e50]; exact ⟨_, rfl, B3, rfl, some a3, m3, c3, rfl, hL, hS3⟩)
      · skip
        have hal := okl_all hok hnl (by omega)
        have hsm := sm_all hal
        have hcut : tightP (cutsOf l allR (List.range l.length)) = none := by have := nz_of h43; rwa [hil] at this
        obtain ⟨N, out, hN4, hN, hNo⟩ := clP_is hal hcut
        refine vskip ?_
        refine vseq ?_
        refine vregion ?_
        refine vone rfl (vxq (vas rfl) rfl rfl ?_)
        refine vnil ?_
        refine vblock ?_
        refine vwhile (σ := Nat) (fun n => 5 - n) (fun n => [(0, sli ol nl cl), (2, nilS), (3, I 0), (9, I ((n : Int) + 1))]) (fun n => H) (fun n => n ≤ N ∧ n < 4) 0 ⟨by omega, by omega⟩ ⟨rfl, rfl, rfl, rfl, True.intro⟩ (by repeat first | exact .refl _ | refine .cons_cons _ ?_ | refine .cons _ ?_ | exact sl0 _ | refine slA ?_) ?_
        rintro n ⟨hnN, hn4⟩ IH
        change VRun _ _ _ _ _ [(0, sli ol nl cl), (2, nilS), (3, I 0), (9, I ((n : Int) + 1))] _ (H) _
        refine vseq ?_
        refine vblock ?_
        refine vseq ?_
        refine vregion ?_
        refine vone rfl (vxq (vmv rfl) rfl rfl ?_)
        refine vone rfl (vxq (vcp rfl rfl rfl (c_ref_All)) rfl rfl ?_)
        refine vone rfl (vxq (vmv rfl) rfl rfl ?_)
        refine vone rfl (vxg (vcg rfl rfl rfl (g_clashS l hsm ol nl cl hnl hmx n (g_clash l hsm ol nl cl hnl hmx n (by omega)) allR allR_ok.sm nilS 0 [] rfl (by omega) (by omega) 0 _ _ (by simp) (by simp) _ (.inl ⟨rfl, rfl, rfl⟩)) (fun o H' h => h)) rfl rfl ?_)
        rintro t50 _ ⟨B3, rfl, hsr⟩
        generalize e50 : srch l (n + 1) allR [] 0 = r50 at hsr
        rcases r50 with _ | L
        · skip
          obtain ⟨u50, rfl⟩ := hsr
          refine vone rfl (vxq (vmv rfl) rfl rfl ?_)
          refine vone rfl (vxq (vex rfl rfl) rfl rfl ?_)
          refine vone rfl (vxq (vex rfl rfl) rfl rfl ?_)
          refine vone rfl (vxq (vas rfl) rfl rfl ?_)
          refine vone rfl (vxq (vas rfl) rfl rfl ?_)
          refine vnil ?_
          refine vseq ?_
          refine vregion ?_
          refine vone rfl (vxq (vmv rfl) rfl rfl ?_)
          refine vnil ?_
          refine vcondf rfl ?_
          refine vskip ?_
          refine vinblock ?_
          refine vregion ?_
          refine vone rfl (vxq (vmv rfl) rfl rfl ?_)
          refine vone rfl (vxq (vadd rfl rfl (by unfold InR; omega)) rfl rfl ?_)
          refine vone rfl (vxq (vas rfl) rfl rfl ?_)
          refine vnil ?_
          exact vback (IH (n + 1) ⟨srch_le hN hnN e50, by have := srch_le hN hnN e50; omega⟩ (by omega)) ⟨rfl, rfl, rfl, rfl, True.intro⟩ (List.sublist_append_right _ _)
        · skip
          obtain ⟨a3, m3, c3, rfl, hL, hS3⟩ := hsr
          refine vone rfl (vxq (vmv rfl) rfl rfl ?_)
          refine vone rfl (vxq (vex rfl rfl) rfl rfl ?_)
          refine vone rfl (vxq (vex rfl rfl) rfl rfl ?_)
          refine vone rfl (vxq (vas rfl) rfl rfl ?_)
          refine vone rfl (vxq (vas rfl) rfl rfl ?_)
          refine vnil ?_
          refine vseq ?_
          refine vregion ?_
          refine vone rfl (vxq (vmv rfl) rfl rfl ?_)
          refine vnil ?_
          refine vcondt rfl ?_
          refine vseq ?_
          refine vregion ?_
          refine vone rfl (vxq (vmv rfl) rfl rfl ?_)
          refine vone rfl (vxq (vas rfl) rfl rfl ?_)
          refine vone rfl (vxq (vas rfl) rfl rfl ?_)
          refine vnil ?_
          refine vret (vr2 (H' := _) Try.func38 rfl (.tmp rfl) (.tmp rfl) (by repeat first | exact .refl _ | refine .cons_cons _ ?_ | refine .cons _ ?_ | exact sl0 _ | refine slA ?_) ?_)
          first
            | (rw [clE_3 (by omega)]; exact ⟨_, rfl, [], rfl, Option.none, 0, 0, rfl, rfl, SlO.nil⟩)
            | (rw [clE_11' hnl (by omega) hz h28]; exact ⟨_, rfl, [], rfl, Option.none, 0, 0, rfl, rfl, SlO.nil⟩)
            | (rw [clE_none (by omega) (okl_all hok hnl (by omega)) (by have := z_of h43; rwa [hil] at this)]; exact ⟨_, rfl, [], rfl, Option.none, 0, 0, rfl, rfl, SlO.nil⟩)
            | (rw [clE_0 (by omega) hal (by omega) (fun m hm => hNo m (by omega)) e50]; exact ⟨_, rfl, B3, rfl, some a3, m3, c3, rfl, hL, hS3⟩)
end Go.Proofs.Ytffpfcomikcimaa
