/-
  Walks of the step of Clash's search.
-/
import Derived.Test.YtffpfcomikcimaaWr
import Derived.Test.YtffpfcomikcimaaPcl
namespace Go.Proofs.Ytffpfcomikcimaa
open Go
set_option maxRecDepth 100000

attribute [local irreducible] tightP hullP rootP farP rows endsOf sqL sqP twoE pickL srch
abbrev encR (r : Rg) : List Value := [I r.x.lo, I r.x.hi, I r.y.lo, I r.y.hi, I r.s.lo, I r.s.hi, I r.d.lo, I r.d.hi]
instance HAt.appR {A B : Heap} {b : Nat} {cs : List Value} {T : TypeId} [h : HAt B b cs T] : HAt (A ++ B) b cs T := ⟨List.mem_append_right _ h.mem⟩
instance SlO.appR {α : Type} {A B : Heap} {oa : Option Addr} {esz : Nat} {enc : α → List Value} {l : List α} [h : SlO B oa esz enc l] : SlO (A ++ B) oa esz enc l := h.sub fun e he => List.mem_append_right _ he
/-- What a list of chosen ones is: nil, or a slice that is read. -/
def Cho (H : Heap) (v : Value) (n : Nat) (cs : List Int) : Prop := (v = nilS ∧ cs = [] ∧ n = 0) ∨ ∃ a c, v = sli (some a) n c ∧ 0 < n ∧ SlO H (some a) 1 encI cs
theorem OwnS.slo {v : Value} {n : Nat} {cs : List Int} {B : Heap} (h : OwnS 3 1 v n (cs.map (Value.int .i64)) B) (hne : v ≠ nilS) : ∃ a c, v = sli (some a) n c ∧ ∀ H, SlO (B ++ H) (some a) 1 encI cs := by
  rcases h with ⟨rfl, _⟩ | ⟨g, cap, cur, rfl, rfl, h1, h2, h3, h4⟩
  · exact absurd rfl hne
  · refine ⟨_, _, rfl, fun H => ?_⟩
    have : HAt ([(g, blk cur 3)] ++ H) g cur 3 := HAt.head
    refine SlO.blk fun i x hx => ⟨rfl, fun j v hj => ?_⟩
    have hlt := (List.getElem?_eq_some_iff.1 hx).1
    have hj0 : j = 0 := by
      have := (List.getElem?_eq_some_iff.1 hj).1
      simp at this; omega
    subst hj0
    simp only [List.getElem?_cons_zero, Option.some.injEq] at hj
    subst hj
    have h5 : (cs.map (Value.int .i64))[i]? = some (I x) := by rw [List.getElem?_map, hx]; rfl
    rw [← h4, List.getElem?_take] at h5
    split at h5
    · simpa using h5
    · cases h5
/-- Clone of either kind. -/
theorem g_CloneU (v : Value) (n : Nat) (cs : List Int) (hn : cs.length = n) (hmax : n ≤ 1000) (H : Heap) (hc : Cho H v n cs) : VCall Try.prog 115 [v].toArray H (fun o H' => ∃ v', o = .val v' ∧ ∃ B', H' = B' ++ H ∧ OwnS 3 1 v' n (cs.map (Value.int .i64)) B') := by
  rcases hc with ⟨rfl, rfl, rfl⟩ | ⟨a, c, rfl, h0, hS⟩
  · exact (c_Clone_nil H).mono fun o H' ⟨h1, h2⟩ => ⟨nilS, h1, [], h2, OwnS.nil⟩
  · exact (g_Clone a n c cs hn h0 hmax H).mono fun o H' ⟨v', B', h1, h2, _, h4⟩ => ⟨v', h1, B', h4, h2⟩
theorem g_OwnU (v : Value) (n : Nat) (cs : List Int) (hn : cs.length = n) (hmax : n ≤ 1000) (H : Heap) (hc : Cho H v n cs) : VCall Try.prog 150 [v].toArray H (fun o H' => ∃ v', o = .val v' ∧ ∃ B', H' = B' ++ H ∧ OwnS 3 1 v' n (cs.map (Value.int .i64)) B') := by
  rcases hc with ⟨rfl, rfl, rfl⟩ | ⟨a, c, rfl, h0, hS⟩
  · exact (c_Own_nil H).mono fun o H' ⟨h1, h2⟩ => ⟨nilS, h1, [], h2, OwnS.nil⟩
  · exact (g_Own a n c cs hn h0 hmax H).mono fun o H' ⟨v', B', h1, h2, _, h4⟩ => ⟨v', h1, B', h4, h2⟩
theorem srch_yes {l : List Rg} {k : Nat} {f : Rg} {cs L : List Int} {i : Nat} {z : Rg} (h : i < l.length) (hz : atR l i = z) (e : srch l k (f.map2 Bd.cut z) (cs ++ [(i : Int)]) (i + 1) = some L) : srch l (k + 1) f cs i = some L := by rw [srch_step l k f cs i h, hz, e]
theorem srch_no {l : List Rg} {k : Nat} {f : Rg} {cs : List Int} {i : Nat} {z : Rg} (h : i < l.length) (hz : atR l i = z) (e : srch l k (f.map2 Bd.cut z) (cs ++ [(i : Int)]) (i + 1) = none) : srch l (k + 1) f cs i = srch l (k + 1) f cs (i + 1) := by rw [srch_step l k f cs i h, hz, e]
theorem get_at {l : List Rg} {i : Nat} {z : Rg} (h : l[((i : Nat) : Int).toNat]? = some z) : atR l i = z := atR_of (by simpa using h)
abbrev vSearch (bl bs : Nat) : Value := .func (.func 113) #[] #[ptr bl, ptr bs]


theorem perm_snoc {x : Nat × Obj} {B : Heap} : (x :: (B ++ [])).Perm (B ++ [x]) := by simpa using (List.perm_middle (a := x) (l₁ := B) (l₂ := [])).symm
theorem news1 {H : Heap} {b : Nat} {T : TypeId} {v : Value} : ∀ j u, [v][j]? = some u → ∃ ob, ((⟨b, 0, Option.none⟩ : Addr).block, ob) ∈ (b, blk [v] T) :: H ∧ oCell ob ((⟨b, 0, Option.none⟩ : Addr).add j) = some u := by
  intro j u hu
  have hj : j = 0 := by have := (List.getElem?_eq_some_iff.1 hu).1; simp at this; omega
  subst hj
  exact ⟨blk [v] T, by simp, by simpa [oCell, blk, Addr.add] using hu⟩

/-- paravane/region.Clash$1 -/
theorem g_searchS (l : List Rg) (hl : ∀ r ∈ l, r.sm 65536) (ol : Option Addr) (nl cl : Nat) (hnl : l.length = nl) (hmx : nl ≤ 9223372036854775807) (k : Nat) (ih : ∀ (f : Rg), f.sm 65536 → ∀ (a : Addr) (m c : Nat) (cs : List Int), cs.length = m → 0 < m → m ≤ 900 - k → ∀ (i : Nat) (fr lf : Int), fr = i → lf = k → ∀ (bl bs : Nat) (H : Heap) [HAt H bl [sli ol nl cl] 50] [HAt H bs [vSearch bl bs] 139] [SlO H ol 8 encR l] [SlO H (some a) 1 encI cs],
    VCall Try.prog 113 [vR f, sli (some a) m c, I fr, I lf, ptr bl, ptr bs].toArray H (SrR H (srch l k f cs i))) (f : Rg) (hf : f.sm 65536) (v : Value) (m : Nat) (cs : List Int) (hm : cs.length = m) (hmb : m ≤ 899 - k) (hkb : k ≤ 800) (i0 : Nat) (fr lf : Int) (hfr : fr = i0) (hlf : lf = k + 1) (bl bs : Nat) (H : Heap) [h1 : HAt H bl [sli ol nl cl] 50] [h2 : HAt H bs [vSearch bl bs] 139] [h3 : SlO H ol 8 encR l] (hc : Cho H v m cs) : VCall Try.prog 113 [vR f, v, I fr, I lf, ptr bl, ptr bs].toArray H (SrR H (srch l (k + 1) f cs i0)) := by
  subst hfr
  subst hlf
  refine vcall_of_vrun Try.func113 rfl (N := 53) rfl rfl ?_
  refine vseq ?_
  refine vregion ?_
  refine vone rfl (vxa (vbox rfl rfl) rfl rfl (fun b1 => ?_))
  refine vone rfl (vxq (vas rfl) rfl rfl ?_)
  refine vnil ?_
  refine vseq ?_
  refine vseq ?_
  refine vregion ?_
  refine vone rfl (vxq (vmv rfl) rfl rfl ?_)
  refine vone rfl (vxq (veql rfl rfl) rfl rfl ?_)
  refine vknow (d := 16) (b' := false) rfl (decide_eq_false (by omega)) ?_
  refine vnil ?_
  refine vcondf rfl ?_
  refine vskip ?_
  refine vseq ?_
  refine vseq ?_
  refine vregion ?_
  refine vone rfl (vxq (vmv rfl) rfl rfl ?_)
  refine vone rfl (vxq (vas rfl) rfl rfl ?_)
  refine vnil ?_
  refine vblock ?_
  refine vwhile (σ := Nat) (fun i => nl - i) (fun i => [(0, vR f), (1, v), (2, I (i0 : Int)), (3, I ((k : Int) + 1)), (4, ptr bl), (5, ptr bs), (6, ptr b1), (10, nilS), (13, I (i : Int))]) (fun i => (b1, blk (clR f) 96) :: H) (fun i => srch l (k + 1) f cs i0 = srch l (k + 1) f cs i) i0 rfl ⟨rfl, rfl, rfl, rfl, rfl, rfl, rfl, rfl, rfl, True.intro⟩ (by repeat first | exact .refl _ | refine .cons_cons _ ?_ | refine .cons _ ?_ | exact sl0 _ | refine slA ?_) ?_
  rintro i hs IH
  change VRun _ _ _ _ _ [(0, vR f), (1, v), (2, I (i0 : Int)), (3, I ((k : Int) + 1)), (4, ptr bl), (5, ptr bs), (6, ptr b1), (10, nilS), (13, I (i : Int))] _ ((b1, blk (clR f) 96) :: H) _
  refine vseq ?_
  refine vseq ?_
  refine vregion ?_
  refine vone rfl (vxq (vmv rfl) rfl rfl ?_)
  refine vone rfl (vxq (vld1 rfl rfl) rfl rfl ?_)
  refine vone rfl (vxq (vlen rfl) rfl rfl ?_)
  refine vone rfl (vxq (vlss rfl rfl) rfl rfl ?_)
  refine vnil ?_
  refine vcondd rfl (fun h29 => ?_) (fun h29 => ?_)
  · skip
    obtain ⟨z, hz⟩ := get_of_lt l (i := ((i : Nat) : Int).toNat) (by omega)
    have hzs : z.sm 65536 := hl z (List.mem_of_getElem? hz)
    refine vskip ?_
    refine vseq ?_
    refine vblock ?_
    refine vseq ?_
    refine vdraw0 [(.q, 0), (.q, 1), (.q, 2), (.q, 3), (.q, 4), (.q, 5), (.q, 6), (.q, 7), (.q, 8), (.q, 10), (.q, 13), (.q, 14), (.q, 15), (.q, 16), (.g, 9), (.m, 11), (.s, 12), (.g, 17), (.q, 18)] Try.mixed (by kernel_rfl) (by kernel_rfl) ?_
    refine vdq (mone rfl) (vld1 rfl rfl) rfl rfl ?_
    refine vdq (mone rfl) (vldn rfl rfl) rfl rfl ?_
    refine vdq (mone rfl) (vld1 rfl rfl) rfl rfl ?_
    refine vdq (mone rfl) (vmv rfl) rfl rfl ?_
    refine vdq (mone rfl) (visg (enc := encR) rfl rfl (by omega) hz) rfl rfl ?_
    refine vdq (mone rfl) (vldS (enc := encR) rfl hz) rfl rfl ?_
    refine vdq (mone rfl) (vcp rfl rfl rfl (c_region_bounds _ _ _ _ _ _ _ _)) rfl rfl ?_
    refine vdq (mone rfl) (vcp rfl rfl rfl (c_cut4 f z)) rfl rfl ?_
    refine vdq (mone rfl) (vmv rfl) rfl rfl ?_
    refine vdq (mone rfl) (vmv rfl) rfl rfl ?_
    refine vdq (mone rfl) (vmv rfl) rfl rfl ?_
    refine vdq (mone rfl) (vadd rfl rfl (by unfold InR; omega)) rfl rfl ?_
    refine vdq (mone rfl) (vmv rfl) rfl rfl ?_
    refine vdq (mone rfl) (vsub rfl rfl (by unfold InR; omega)) rfl rfl ?_
    refine vdgl rfl (mone rfl) (vcg rfl rfl rfl (g_CloneU v m cs hm (by omega) _ (by rcases hc with h | ⟨a, c, h1, h2, h3⟩; exact .inl h; exact .inr ⟨a, c, h1, h2, inferInstance⟩)) (fun o H' h => h)) rfl rfl ?_
    rintro v' B1 hown
    refine vdm (mone rfl) (vbsP rfl rfl rfl rfl rfl rfl) rfl rfl (fun b2 => ?_)
    refine vdsd (mone rfl) (vapp (B := B1) (H0 := [(b2, blk [I (i : Int)] 3)]) (news := [I (i : Int)]) rfl rfl hown perm_snoc rfl news1 (fun u hu => by rw [List.mem_singleton.1 hu]; rfl) (by omega) (by simp only [maxLen]; omega) (by omega)) rfl rfl ?_
    rintro u _ ⟨B2, hown2, hne, rfl⟩
    have hown2' : OwnS 3 1 u (m + 1) ((cs ++ [(i : Int)]).map (Value.int .i64)) B2 := by rw [List.map_append]; exact hown2
    obtain ⟨a2, c2, rfl, hS2⟩ := hown2'.slo hne
    have hS2' := hS2 ([(b2, blk [I (i : Int)] 3)])
    refine vdgl (appHO_of _ _) (mone rfl) (vcg rfl rfl rfl (ih (f.map2 Bd.cut z) (cut_sm hf hzs) a2 (m + 1) c2 (cs ++ [(i : Int)]) (by simp [hm]) (by omega) (by omega) (i + 1) _ _ (by simp) (by omega) bl bs _) (fun o H' h => h)) rfl rfl ?_
    rintro t49 B3 hsr
    generalize e49 : srch l k (f.map2 Bd.cut z) (cs ++ [(i : Int)]) (i + 1) = r49 at hsr
    rcases r49 with _ | L
    · skip
      obtain ⟨rfl, rfl⟩ := hsr
      refine vdq (mone rfl) (vas rfl) rfl rfl ?_
      refine vdend (appHO_of _ _) ?_
      refine vseq ?_
      refine vregion ?_
      refine vone rfl (vxq (vmv rfl) rfl rfl ?_)
      refine vone rfl (vxq (vnesn rfl rfl) rfl rfl ?_)
      refine vnil ?_
      refine vcondf rfl ?_
      refine vskip ?_
      refine vinblock ?_
      refine vregion ?_
      refine vone rfl (vxq (vmv rfl) rfl rfl ?_)
      refine vone rfl (vxq (vadd rfl rfl (by unfold InR; omega)) rfl rfl ?_)
      refine vone rfl (vxq (vas rfl) rfl rfl ?_)
      refine vnil ?_
      exact vback (IH (i + 1) (hs.trans (srch_no (by omega) (get_at hz) e49)) (by omega)) ⟨rfl, rfl, rfl, rfl, rfl, rfl, rfl, rfl, rfl, True.intro⟩ (List.sublist_append_right _ _)
    · skip
      obtain ⟨a3, m3, c3, rfl, hL, hS3⟩ := hsr
      refine vdq (mone rfl) (vas rfl) rfl rfl ?_
      refine vdend (appHO_of _ _) ?_
      refine vseq ?_
      refine vregion ?_
      refine vone rfl (vxq (vmv rfl) rfl rfl ?_)
      refine vone rfl (vxq (vnesn rfl rfl) rfl rfl ?_)
      refine vnil ?_
      refine vcondt rfl ?_
      refine vseq ?_
      refine vregion ?_
      refine vone rfl (vxq (vmv rfl) rfl rfl ?_)
      refine vone rfl (vxq (vas rfl) rfl rfl ?_)
      refine vnil ?_
      refine vret (vr1 (H' := _) Try.func113 rfl (.tmp rfl) (by repeat first | exact .refl _ | refine .cons_cons _ ?_ | refine .cons _ ?_ | exact sl0 _ | refine slA ?_) ?_)
      first | (rw [hs, srch_yes (by omega) (get_at hz) e49]; exact ⟨_, rfl, B3 ++ (B2 ++ [(b2, blk [I (i : Int)] 3), (b1, blk (clR f) 96)]), by simp, a3, m3, c3, rfl, hL, by simpa using hS3⟩) | (rw [hs, srch_end _ _ _ _ _ (by omega)]; exact ⟨_, rfl, [], rfl, rfl, rfl⟩)
  · skip
    refine vexit (k' := _) rfl ?_
    refine vseq ?_
    refine vregion ?_
    refine vone rfl (vxq (vas rfl) rfl rfl ?_)
    refine vnil ?_
    refine vret (vr1 (H' := H) Try.func113 rfl (.tmp rfl) (by repeat first | exact .refl _ | refine .cons_cons _ ?_ | refine .cons _ ?_ | exact sl0 _ | refine slA ?_) ?_)
    first | (rw [hs, srch_yes (by omega) (get_at hz) e49]; exact ⟨_, rfl, B3 ++ (B2 ++ [(b2, blk [I (i : Int)] 3), (b1, blk (clR f) 96)]), by simp, a3, m3, c3, rfl, hL, by simpa using hS3⟩) | (rw [hs, srch_end _ _ _ _ _ (by omega)]; exact ⟨_, rfl, [], rfl, rfl, rfl⟩)
end Go.Proofs.Ytffpfcomikcimaa
