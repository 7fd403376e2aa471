/-
  Walks of the reference's search.
-/
import Derived.Test.YtffpfcomikcimaaWs
namespace Go.Proofs.Ytffpfcomikcimaa
open Go
set_option maxRecDepth 100000

attribute [local irreducible] tightP hullP rootP farP rows endsOf sqL sqP twoE pickL srch


/-- The search of Clash. -/
theorem g_search (l : List Rg) (hl : ∀ r ∈ l, r.sm 65536) (ol : Option Addr) (nl cl : Nat) (hnl : l.length = nl) (hmx : nl ≤ 9223372036854775807) : ∀ (k : Nat), k ≤ 800 → ∀ (f : Rg), f.sm 65536 → ∀ (a : Addr) (m c : Nat) (cs : List Int), cs.length = m → 0 < m → m ≤ 900 - k → ∀ (i : Nat) (fr lf : Int), fr = i → lf = k → ∀ (bl bs : Nat) (H : Heap) [HAt H bl [sli ol nl cl] 50] [HAt H bs [vSearch bl bs] 139] [SlO H ol 8 encR l] [SlO H (some a) 1 encI cs],
    VCall Try.prog 113 [vR f, sli (some a) m c, I fr, I lf, ptr bl, ptr bs].toArray H (SrR H (srch l k f cs i))
  | 0, _, f, hf, a, m, c, cs, hm, h0, hmb, i, fr, lf, hfr, hlf, bl, bs, H, _, _, _, _ => by
    subst hfr; subst hlf
    exact g_search0 l f hf a m c cs hm i bl bs H
  | k + 1, hk, f, hf, a, m, c, cs, hm, h0, hmb, i, fr, lf, hfr, hlf, bl, bs, H, h1, h2, h3, h4 =>
    g_searchS l hl ol nl cl hnl hmx k (g_search l hl ol nl cl hnl hmx k (by omega)) f hf _ m cs hm (by omega) (by omega) i fr lf hfr (by rw [hlf]; rfl) bl bs H (.inr ⟨a, c, rfl, h0, h4⟩)


abbrev RcV (H : Heap) (r : Option (List Int)) (v : Value) (B : Heap) : Prop := match r with
  | none => ∃ u, v = tup [u, .bool false]
  | some L => ∃ a m c, v = tup [sli (some a) m c, .bool true] ∧ L.length = m ∧ SlO (B ++ H) (some a) 1 encI L
abbrev RcR (H : Heap) (r : Option (List Int)) (o : Out) (H' : Heap) : Prop := ∃ v, o = .val v ∧ ∃ B, H' = B ++ H ∧ RcV H r v B

theorem g_clash0_fin {H : Heap} {l : List Rg} {f : Rg} {a : Addr} {m c : Nat} {cs : List Int} {i : Nat} (hS : SlO H (some a) 1 encI cs) (hm : cs.length = m) : RcR H (srch l 0 f cs i) (.val (tup [sli (some a) m c, .bool (decide ((optE (tightP f)).2 ≠ 0))])) H := by
  by_cases h : (optE (tightP f)).2 ≠ 0
  · rw [srch_0n h, decide_eq_true h]; exact ⟨_, rfl, [], rfl, a, m, c, rfl, hm, hS⟩
  · rw [srch_0s h, decide_eq_false h]; exact ⟨_, rfl, [], rfl, _, rfl⟩
/-- paravane/paravaneref01.clash -/
theorem g_clash0 (l : List Rg) (f : Rg) (hf : f.sm 65536) (ol : Value) (a : Addr) (m c : Nat) (cs : List Int) (hm : cs.length = m) (i : Nat) (H : Heap) [hS : SlO H (some a) 1 encI cs] : VCall Try.prog 117 [ol, vR f, sli (some a) m c, I i, I 0].toArray H (RcR H (srch l 0 f cs i)) := by
  refine vcall_of_vrun Try.func117 rfl (N := 57) rfl rfl ?_
  refine vseq ?_
  refine vregion ?_
  refine vone rfl (vxa (vbox rfl rfl) rfl rfl (fun b1 => ?_))
  refine vone rfl (vxq (vas rfl) rfl rfl ?_)
  refine vone rfl (vxq (vas rfl) rfl rfl ?_)
  refine vnil ?_
  refine vseq ?_
  refine vseq ?_
  refine vregion ?_
  refine vone rfl (vxq (vmv rfl) rfl rfl ?_)
  refine vone rfl (vxq (veql rfl rfl) rfl rfl ?_)
  refine vknow (d := 18) (b' := true) rfl (decide_eq_true rfl) ?_
  refine vnil ?_
  refine vcondt rfl ?_
  refine vseq ?_
  refine vregion ?_
  refine vone rfl (vxq (vldn rfl rfl) rfl rfl ?_)
  refine vone rfl (vxg (vbs rfl rfl rfl rfl rfl rfl) rfl rfl ?_)
  rintro _ _ ⟨b2, rfl, rfl⟩
  refine vone rfl (vxq (vcq rfl rfl rfl ((h_hulls1 f (hf.mono (by decide)) b2).fr1)) rfl rfl ?_)
  refine vone rfl (vxq (vmv rfl) rfl rfl ?_)
  refine vone rfl (vxq (vex rfl rfl) rfl rfl ?_)
  refine vone rfl (vxq (vex rfl rfl) rfl rfl ?_)
  refine vone rfl (vxa valloc rfl rfl (fun b3 => ?_))
  refine vone rfl (vxs (vstn rfl rfl rfl rfl rfl) rfl ?_)
  refine vone rfl (vxq (vas rfl) rfl rfl ?_)
  refine vnil ?_
  refine vseq ?_
  refine vregion ?_
  refine vone rfl (vxq (vmv rfl) rfl rfl ?_)
  refine vone rfl (vxq (vmv rfl) rfl rfl ?_)
  refine vone rfl (vxq (vneq rfl rfl) rfl rfl ?_)
  refine vone rfl (vxq (vas rfl) rfl rfl ?_)
  refine vone rfl (vxq (vas rfl) rfl rfl ?_)
  refine vnil ?_
  refine vret (vr2 (H' := H) Try.func117 rfl (.tmp rfl) (.tmp rfl) (by repeat first | exact .refl _ | refine .cons_cons _ ?_ | refine .cons _ ?_ | exact sl0 _ | refine slA ?_) ?_)
  exact g_clash0_fin hS hm
/-- paravane/paravaneref01.clash -/
theorem g_clashS (l : List Rg) (hl : ∀ r ∈ l, r.sm 65536) (ol : Option Addr) (nl cl : Nat) (hnl : l.length = nl) (hmx : nl ≤ 9223372036854775807) (k : Nat) (ih : ∀ (f : Rg), f.sm 65536 → ∀ (a : Addr) (m c : Nat) (cs : List Int), cs.length = m → 0 < m → m ≤ 900 - k → ∀ (i : Nat) (fr lf : Int), fr = i → lf = k → ∀ (H : Heap) [SlO H ol 8 encR l] [SlO H (some a) 1 encI cs],
    VCall Try.prog 117 [sli ol nl cl, vR f, sli (some a) m c, I fr, I lf].toArray H (RcR H (srch l k f cs i))) (f : Rg) (hf : f.sm 65536) (v : Value) (m : Nat) (cs : List Int) (hm : cs.length = m) (hmb : m ≤ 899 - k) (hkb : k ≤ 800) (i0 : Nat) (fr lf : Int) (hfr : fr = i0) (hlf : lf = k + 1) (H : Heap) [h3 : SlO H ol 8 encR l] (hc : Cho H v m cs) : VCall Try.prog 117 [sli ol nl cl, vR f, v, I fr, I lf].toArray H (RcR H (srch l (k + 1) f cs i0)) := by
  subst hfr
  subst hlf
  refine vcall_of_vrun Try.func117 rfl (N := 57) rfl rfl ?_
  refine vseq ?_
  refine vregion ?_
  refine vone rfl (vxa (vbox rfl rfl) rfl rfl (fun b1 => ?_))
  refine vone rfl (vxq (vas rfl) rfl rfl ?_)
  refine vone rfl (vxq (vas rfl) rfl rfl ?_)
  refine vnil ?_
  refine vseq ?_
  refine vseq ?_
  refine vregion ?_
  refine vone rfl (vxq (vmv rfl) rfl rfl ?_)
  refine vone rfl (vxq (veql rfl rfl) rfl rfl ?_)
  refine vknow (d := 18) (b' := false) rfl (decide_eq_false (by omega)) ?_
  refine vnil ?_
  refine vcondf rfl ?_
  refine vskip ?_
  refine vseq ?_
  refine vseq ?_
  refine vregion ?_
  refine vone rfl (vxq (vmv rfl) rfl rfl ?_)
  refine vone rfl (vxq (vas rfl) rfl rfl ?_)
  refine vnil ?_
  refine vblock ?_
  refine vwhile (σ := Nat) (fun i => nl - i) (fun i => [(0, sli ol nl cl), (1, vR f), (2, v), (4, I ((k : Int) + 1)), (6, ptr b1), (10, nilS), (11, .bool false), (14, I (i : Int))]) (fun i => (b1, blk (clR f) 25) :: H) (fun i => srch l (k + 1) f cs i0 = srch l (k + 1) f cs i) i0 rfl ⟨rfl, rfl, rfl, rfl, rfl, rfl, rfl, rfl, True.intro⟩ (by repeat first | exact .refl _ | refine .cons_cons _ ?_ | refine .cons _ ?_ | exact sl0 _ | refine slA ?_) ?_
  rintro i hs IH
  change VRun _ _ _ _ _ [(0, sli ol nl cl), (1, vR f), (2, v), (4, I ((k : Int) + 1)), (6, ptr b1), (10, nilS), (11, .bool false), (14, I (i : Int))] _ ((b1, blk (clR f) 25) :: H) _
  refine vseq ?_
  refine vseq ?_
  refine vregion ?_
  refine vone rfl (vxq (vmv rfl) rfl rfl ?_)
  refine vone rfl (vxq (vmv rfl) rfl rfl ?_)
  refine vone rfl (vxq (vlen rfl) rfl rfl ?_)
  refine vone rfl (vxq (vlss rfl rfl) rfl rfl ?_)
  refine vnil ?_
  refine vcondd rfl (fun h32 => ?_) (fun h32 => ?_)
  · skip
    obtain ⟨z, hz⟩ := get_of_lt l (i := ((i : Nat) : Int).toNat) (by omega)
    have hzs : z.sm 65536 := hl z (List.mem_of_getElem? hz)
    refine vskip ?_
    refine vseq ?_
    refine vblock ?_
    refine vseq ?_
    refine vdraw0 [(.q, 0), (.q, 1), (.q, 2), (.q, 3), (.q, 4), (.q, 5), (.q, 6), (.q, 7), (.q, 9), (.q, 12), (.q, 13), (.q, 14), (.q, 15), (.g, 8), (.m, 10), (.s, 11), (.g, 16), (.q, 17), (.q, 18), (.q, 19), (.q, 20), (.q, 21)] Try.mixed (by kernel_rfl) (by kernel_rfl) ?_
    refine vdq (mone rfl) (vmv rfl) rfl rfl ?_
    refine vdq (mone rfl) (vldn rfl rfl) rfl rfl ?_
    refine vdq (mone rfl) (vmv rfl) rfl rfl ?_
    refine vdq (mone rfl) (vmv rfl) rfl rfl ?_
    refine vdq (mone rfl) (visg (enc := encR) rfl rfl (by omega) hz) rfl rfl ?_
    refine vdq (mone rfl) (vldS (enc := encR) rfl hz) rfl rfl ?_
    refine vdq (mone rfl) (vcp rfl rfl rfl (c_common f z)) rfl rfl ?_
    refine vdq (mone rfl) (vmv rfl) rfl rfl ?_
    refine vdq (mone rfl) (vmv rfl) rfl rfl ?_
    refine vdq (mone rfl) (vmv rfl) rfl rfl ?_
    refine vdq (mone rfl) (vadd rfl rfl (by unfold InR; omega)) rfl rfl ?_
    refine vdq (mone rfl) (vmv rfl) rfl rfl ?_
    refine vdq (mone rfl) (vsub rfl rfl (by unfold InR; omega)) rfl rfl ?_
    refine vdgl rfl (mone rfl) (vcg rfl rfl rfl (g_OwnU v m cs hm (by omega) _ (by rcases hc with h | ⟨a, c, h1, h2, h3⟩; exact .inl h; exact .inr ⟨a, c, h1, h2, inferInstance⟩)) (fun o H' h => h)) rfl rfl ?_
    rintro v' B1 hown
    refine vdm (mone rfl) (vbsP rfl rfl rfl rfl rfl rfl) rfl rfl (fun b2 => ?_)
    refine vdsd (mone rfl) (vapp (B := B1) (H0 := [(b2, blk [I (i : Int)] 3)]) (news := [I (i : Int)]) rfl rfl hown perm_snoc rfl news1 (fun u hu => by rw [List.mem_singleton.1 hu]; rfl) (by omega) (by simp only [maxLen]; omega) (by omega)) rfl rfl ?_
    rintro u _ ⟨B2, hown2, hne, rfl⟩
    have hown2' : OwnS 3 1 u (m + 1) ((cs ++ [(i : Int)]).map (Value.int .i64)) B2 := by rw [List.map_append]; exact hown2
    obtain ⟨a2, c2, rfl, hS2⟩ := hown2'.slo hne
    have hS2' := hS2 ([(b2, blk [I (i : Int)] 3)])
    refine vdgl (appHO_of _ _) (mone rfl) (vcg rfl rfl rfl (ih (f.map2 Bd.cut z) (cut_sm hf hzs) a2 (m + 1) c2 (cs ++ [(i : Int)]) (by simp [hm]) (by omega) (by omega) (i + 1) _ _ (by simp) (by omega) _) (fun o H' h => h)) rfl rfl ?_
    rintro t52 B3 hsr
    generalize e52 : srch l k (f.map2 Bd.cut z) (cs ++ [(i : Int)]) (i + 1) = r52 at hsr
    rcases r52 with _ | L
    · skip
      obtain ⟨u52, rfl⟩ := hsr
      refine vdq (mone rfl) (vmv rfl) rfl rfl ?_
      refine vdq (mone rfl) (vex rfl rfl) rfl rfl ?_
      refine vdq (mone rfl) (vex rfl rfl) rfl rfl ?_
      refine vdq (mone rfl) (vas rfl) rfl rfl ?_
      refine vdq (mone rfl) (vas rfl) rfl rfl ?_
      refine vdend (appHO_of _ _) ?_
      refine vseq ?_
      refine vregion ?_
      refine vone rfl (vxq (vmv rfl) rfl rfl ?_)
      refine vnil ?_
      refine vcondf rfl ?_
      refine vskip ?_
      refine vinblock ?_
      refine vregion ?_
      refine vone rfl (vxq (vmv rfl) rfl rfl ?_)
      refine vone rfl (vxq (vadd rfl rfl (by unfold InR; omega)) rfl rfl ?_)
      refine vone rfl (vxq (vas rfl) rfl rfl ?_)
      refine vnil ?_
      exact vback (IH (i + 1) (hs.trans (srch_no (by omega) (get_at hz) e52)) (by omega)) ⟨rfl, rfl, rfl, rfl, rfl, rfl, rfl, rfl, True.intro⟩ (List.sublist_append_right _ _)
    · skip
      obtain ⟨a3, m3, c3, rfl, hL, hS3⟩ := hsr
      refine vdq (mone rfl) (vmv rfl) rfl rfl ?_
      refine vdq (mone rfl) (vex rfl rfl) rfl rfl ?_
      refine vdq (mone rfl) (vex rfl rfl) rfl rfl ?_
      refine vdq (mone rfl) (vas rfl) rfl rfl ?_
      refine vdq (mone rfl) (vas rfl) rfl rfl ?_
      refine vdend (appHO_of _ _) ?_
      refine vseq ?_
      refine vregion ?_
      refine vone rfl (vxq (vmv rfl) rfl rfl ?_)
      refine vnil ?_
      refine vcondt rfl ?_
      refine vseq ?_
      refine vregion ?_
      refine vone rfl (vxq (vmv rfl) rfl rfl ?_)
      refine vone rfl (vxq (vas rfl) rfl rfl ?_)
      refine vone rfl (vxq (vas rfl) rfl rfl ?_)
      refine vnil ?_
      refine vret (vr2 (H' := _) Try.func117 rfl (.tmp rfl) (.tmp rfl) (by repeat first | exact .refl _ | refine .cons_cons _ ?_ | refine .cons _ ?_ | exact sl0 _ | refine slA ?_) ?_)
      first | (rw [hs, srch_yes (by omega) (get_at hz) e52]; exact ⟨_, rfl, B3 ++ (B2 ++ [(b2, blk [I (i : Int)] 3), (b1, blk (clR f) 25)]), by simp, a3, m3, c3, rfl, hL, by simpa using hS3⟩) | (rw [hs, srch_end _ _ _ _ _ (by omega)]; exact ⟨_, rfl, [], rfl, _, rfl⟩)
  · skip
    refine vexit (k' := _) rfl ?_
    refine vseq ?_
    refine vregion ?_
    refine vone rfl (vxq (vas rfl) rfl rfl ?_)
    refine vone rfl (vxq (vas rfl) rfl rfl ?_)
    refine vnil ?_
    refine vret (vr2 (H' := H) Try.func117 rfl (.tmp rfl) (.tmp rfl) (by repeat first | exact .refl _ | refine .cons_cons _ ?_ | refine .cons _ ?_ | exact sl0 _ | refine slA ?_) ?_)
    first | (rw [hs, srch_yes (by omega) (get_at hz) e52]; exact ⟨_, rfl, B3 ++ (B2 ++ [(b2, blk [I (i : Int)] 3), (b1, blk (clR f) 25)]), by simp, a3, m3, c3, rfl, hL, by simpa using hS3⟩) | (rw [hs, srch_end _ _ _ _ _ (by omega)]; exact ⟨_, rfl, [], rfl, _, rfl⟩)

/-- The reference's search. -/
theorem g_clash (l : List Rg) (hl : ∀ r ∈ l, r.sm 65536) (ol : Option Addr) (nl cl : Nat) (hnl : l.length = nl) (hmx : nl ≤ 9223372036854775807) : ∀ (k : Nat), k ≤ 800 → ∀ (f : Rg), f.sm 65536 → ∀ (a : Addr) (m c : Nat) (cs : List Int), cs.length = m → 0 < m → m ≤ 900 - k → ∀ (i : Nat) (fr lf : Int), fr = i → lf = k → ∀ (H : Heap) [SlO H ol 8 encR l] [SlO H (some a) 1 encI cs],
    VCall Try.prog 117 [sli ol nl cl, vR f, sli (some a) m c, I fr, I lf].toArray H (RcR H (srch l k f cs i))
  | 0, _, f, hf, a, m, c, cs, hm, h0, hmb, i, fr, lf, hfr, hlf, H, _, _ => by
    subst hfr; subst hlf
    exact g_clash0 l f hf _ a m c cs hm i H
  | k + 1, hk, f, hf, a, m, c, cs, hm, h0, hmb, i, fr, lf, hfr, hlf, H, h3, h4 =>
    g_clashS l hl ol nl cl hnl hmx k (g_clash l hl ol nl cl hnl hmx k (by omega)) f hf _ m cs hm (by omega) (by omega) i fr lf hfr (by rw [hlf]; rfl) H (.inr ⟨a, c, rfl, h0, h4⟩)

end Go.Proofs.Ytffpfcomikcimaa
