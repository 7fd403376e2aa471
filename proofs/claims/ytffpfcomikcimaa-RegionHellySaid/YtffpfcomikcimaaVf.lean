/-
  The walk of RegionHelly.
-/
import Derived.Test.YtffpfcomikcimaaWz
namespace Go.Proofs.Ytffpfcomikcimaa
open Go
set_option maxRecDepth 100000
attribute [local irreducible] tightP hullP rootP farP rows endsOf sqL sqP twoE pickL srch cutsOf clashE ofE tightE meetE sumE sweptE reachE cntE extE distE moveE gapE coversE hitE joinE minusE hasE restP rootE inE

theorem len0 {L : List Int} {m : Nat} (h : L = []) (hm : L.length = m) : (m : Int) = 0 := by subst h; simp at hm; omega
theorem cast_get {js : List Nat} {i j : Nat} (h : js[i]? = some j) : (js.map (fun (j : Nat) => (j : Int)))[((i : Nat) : Int).toNat]? = some (j : Int) := by
  rw [show ((i : Nat) : Int).toNat = i by omega, List.getElem?_map, h]; rfl
theorem has_true {r : Rg} {p : Pt} (h : (hasE r p).1 = true) : inR r p := by
  rcases has_cases r p with ⟨_, _, h2⟩ | ⟨e, _, h2⟩
  · rw [h2] at h; exact of_decide_eq_true h
  · rw [h2] at h; cases h
/-- What was taken of a clash so far. -/
def restL (l : List Rg) (js : List Nat) (i k : Nat) : List Rg := ((js.take k).eraseIdx i).map (atR l)
theorem restL_0 (l : List Rg) (js : List Nat) (i : Nat) : restL l js i 0 = [] := by simp [restL]
theorem restL_ne {l : List Rg} {js : List Nat} {i k j : Nat} (h : js[k]? = some j) (hk : k ≠ i) : restL l js i (k + 1) = restL l js i k ++ [atR l j] := by
  have hlt := (List.getElem?_eq_some_iff.1 h).1
  have hl : (js.take k).length = k := by rw [List.length_take]; omega
  unfold restL
  rw [take_succ_of h]
  rcases Nat.lt_or_gt_of_ne hk with h1 | h1
  · rw [List.eraseIdx_append_of_length_le (by omega), List.map_append]
    have e1 : (js.take k).eraseIdx i = js.take k := List.eraseIdx_of_length_le (by omega)
    have e2 : [j].eraseIdx (i - (js.take k).length) = [j] := List.eraseIdx_of_length_le (by simp; omega)
    rw [e1, e2]; rfl
  · rw [List.eraseIdx_append_of_lt_length (by omega), List.map_append]; rfl
theorem restL_eq {l : List Rg} {js : List Nat} {i j : Nat} (h : js[i]? = some j) : restL l js i (i + 1) = restL l js i i := by
  have hlt := (List.getElem?_eq_some_iff.1 h).1
  have hl : (js.take i).length = i := by rw [List.length_take]; omega
  unfold restL
  rw [take_succ_of h, List.eraseIdx_append_of_length_le (by omega)]
  have e1 : (js.take i).eraseIdx i = js.take i := List.eraseIdx_of_length_le (by omega)
  have e2 : [j].eraseIdx (i - (js.take i).length) = [] := by rw [hl, Nat.sub_self]; rfl
  rw [e1, e2, List.append_nil]
theorem restL_eq2 {l : List Rg} {js : List Nat} {i k j : Nat} (e : k = i) (h : js[k]? = some j) : restL l js i (k + 1) = restL l js i k := by subst e; exact restL_eq h
theorem restL_all (l : List Rg) (js : List Nat) (i k : Nat) (h : js.length ≤ k) : restL l js i k = (js.eraseIdx i).map (atR l) := by
  unfold restL; rw [List.take_of_length_le h]
/-- A slice of one's own, nil or not, by its elements. -/
theorem OwnS.any {α : Type} {e size : Nat} {enc : α → List Value} {l : List α} {v : Value} {n : Nat} {B : Heap} (he : ∀ x, (enc x).length = size) (hs : 0 < size) (h : OwnS e size v n (l.flatMap enc) B) (hn : l.length = n) : ∃ oa c, v = sli oa n c ∧ ∀ H, SlO (B ++ H) oa size enc l := by
  by_cases hv : v = nilS
  · subst hv
    rcases h with ⟨_, rfl, h2, rfl⟩ | ⟨g, cap, cur, h1, _⟩
    · have : l = [] := List.eq_nil_of_length_eq_zero hn
      subst this
      exact ⟨Option.none, 0, rfl, fun H => SlO.nil⟩
    · cases h1
  · obtain ⟨a, c, h1, h2⟩ := h.sloE he hv
    exact ⟨some a, c, h1, h2⟩
theorem own_snoc {l : List Rg} {z : Rg} {v : Value} {n : Nat} {B : Heap} (h : OwnS 25 8 v (n + 1) (l.flatMap encR ++ encR z) B) : OwnS 25 8 v (n + 1) ((l ++ [z]).flatMap encR) B := by
  rw [List.flatMap_append]; simpa using h
theorem incr_len {n : Nat} : ∀ (js : List Nat) (a : Nat), Incr n a js → a + js.length ≤ n ∨ js = []
  | [], _, _ => .inr rfl
  | j :: js, a, h => by
    left
    have := h.1
    rcases incr_len js (j + 1) h.2 with h2 | rfl
    · simp; omega
    · simp; omega

theorem perm_one {x : Nat × Obj} {B C : Heap} : (x :: (B ++ C)).Perm (B ++ (x :: C)) := (List.perm_middle (a := x) (l₁ := B) (l₂ := C)).symm
/-- paravane/paravanelaw01.RegionHelly -/
theorem l_Helly0 (l : List Rg) (ol : Option Addr) (nl cl : Nat) (hnl : l.length = nl) (hmx : nl ≤ 9223372036854775807) (p : Pt) (e : Int) (hcl : clashE l = ([], e)) (h0 : e ≠ 0) (h4 : e ≠ 4) (H : Heap) [hSl : SlO H ol 8 encR l] : VCall Try.prog 15 [sli ol nl cl, vP p].toArray H (fun o H' => o = .val (.bool true) ∧ ∃ B, H' = B ++ H) := by
  refine vcall_of_vrun Try.func15 rfl (N := 167) rfl rfl ?_
  refine vseq ?_
  refine vregion ?_
  refine vone rfl (vxa (vbox rfl rfl) rfl rfl (fun b1 => ?_))
  refine vone rfl (vxq (vas rfl) rfl rfl ?_)
  refine vnil ?_
  refine vseq ?_
  refine vregion ?_
  refine vone rfl (vxq (vmv rfl) rfl rfl ?_)
  refine vone rfl (vxg (vcg rfl rfl rfl (g_Clash l ol nl cl hnl hmx _) (fun o H' h => h)) rfl rfl ?_)
  rintro t20 _ ⟨B1, rfl, hc1⟩
  rw [hcl] at hc1
  obtain ⟨oa, m, c, rfl, hm, hS⟩ := hc1
  refine vone rfl (vxq (vmv rfl) rfl rfl ?_)
  refine vone rfl (vxq (vex rfl rfl) rfl rfl ?_)
  refine vone rfl (vxq (vex rfl rfl) rfl rfl ?_)
  refine vone rfl (vxq (vas rfl) rfl rfl ?_)
  refine vone rfl (vxq (vas rfl) rfl rfl ?_)
  refine vnil ?_
  refine vseq ?_
  refine vseq ?_
  refine vregion ?_
  refine vone rfl (vxq (vmv rfl) rfl rfl ?_)
  refine vone rfl (vxq (vneq rfl rfl) rfl rfl ?_)
  refine vknow (d := 24) (b' := true) rfl (decide_eq_true h0) ?_
  refine vone rfl (vxq (vmv rfl) rfl rfl ?_)
  refine vyes rfl rfl rfl (vxq (vmv rfl) rfl rfl ?_)
  refine vyes rfl rfl rfl (vxq (vneq rfl rfl) rfl rfl ?_)
  refine vknow (d := 27) (b' := true) rfl (decide_eq_true h4) ?_
  refine vone rfl (vxq (vpkt rfl rfl) rfl rfl ?_)
  refine vnil ?_
  refine vcondt rfl ?_
  refine vseq ?_
  refine vregion ?_
  refine vone rfl (vxq (vmv rfl) rfl rfl ?_)
  refine vone rfl (vxq (vlen rfl) rfl rfl ?_)
  refine vone rfl (vxq (veql rfl rfl) rfl rfl ?_)
  refine vknow (d := 31) (b' := true) rfl (decide_eq_true (len0 rfl hm)) ?_
  refine vone rfl (vxq (vmv rfl) rfl rfl ?_)
  refine vyes rfl rfl rfl (vxq (vcp rfl rfl rfl (c_works)) rfl rfl ?_)
  refine vone rfl (vxq (vpkt rfl rfl) rfl rfl ?_)
  refine vone rfl (vxq (vas rfl) rfl rfl ?_)
  refine vnil ?_
  refine vret (vr1 (H' := H) Try.func15 rfl (.tmp rfl) (by repeat first | exact .refl _ | refine .cons_cons _ ?_ | refine .cons _ ?_ | exact sl0 _ | refine slA ?_) ?_)
  exact ⟨rfl, [], rfl⟩
/-- paravane/paravanelaw01.RegionHelly -/
theorem l_Helly1 (l : List Rg) (ol : Option Addr) (nl cl : Nat) (hnl : l.length = nl) (hmx : nl ≤ 9223372036854775807) (p : Pt) (hcl : clashE l = ([], 4)) (hl0 : nl = 0) (H : Heap) [hSl : SlO H ol 8 encR l] : VCall Try.prog 15 [sli ol nl cl, vP p].toArray H (fun o H' => o = .val (.bool true) ∧ ∃ B, H' = B ++ H) := by
  refine vcall_of_vrun Try.func15 rfl (N := 167) rfl rfl ?_
  refine vseq ?_
  refine vregion ?_
  refine vone rfl (vxa (vbox rfl rfl) rfl rfl (fun b1 => ?_))
  refine vone rfl (vxq (vas rfl) rfl rfl ?_)
  refine vnil ?_
  refine vseq ?_
  refine vregion ?_
  refine vone rfl (vxq (vmv rfl) rfl rfl ?_)
  refine vone rfl (vxg (vcg rfl rfl rfl (g_Clash l ol nl cl hnl hmx _) (fun o H' h => h)) rfl rfl ?_)
  rintro t20 _ ⟨B1, rfl, hc1⟩
  rw [hcl] at hc1
  obtain ⟨oa, m, c, rfl, hm, hS⟩ := hc1
  refine vone rfl (vxq (vmv rfl) rfl rfl ?_)
  refine vone rfl (vxq (vex rfl rfl) rfl rfl ?_)
  refine vone rfl (vxq (vex rfl rfl) rfl rfl ?_)
  refine vone rfl (vxq (vas rfl) rfl rfl ?_)
  refine vone rfl (vxq (vas rfl) rfl rfl ?_)
  refine vnil ?_
  refine vseq ?_
  refine vseq ?_
  refine vregion ?_
  refine vone rfl (vxq (vmv rfl) rfl rfl ?_)
  refine vone rfl (vxq (vneq rfl rfl) rfl rfl ?_)
  refine vknow (d := 24) (b' := true) rfl (by decide) ?_
  refine vone rfl (vxq (vmv rfl) rfl rfl ?_)
  refine vyes rfl rfl rfl (vxq (vmv rfl) rfl rfl ?_)
  refine vyes rfl rfl rfl (vxq (vneq rfl rfl) rfl rfl ?_)
  refine vknow (d := 27) (b' := false) rfl (by decide) ?_
  refine vone rfl (vxq (vpkt rfl rfl) rfl rfl ?_)
  refine vnil ?_
  refine vcondf rfl ?_
  refine vskip ?_
  refine vseq ?_
  refine vseq ?_
  refine vregion ?_
  refine vone rfl (vxq (vmv rfl) rfl rfl ?_)
  refine vone rfl (vxq (veql rfl rfl) rfl rfl ?_)
  refine vknow (d := 36) (b' := true) rfl (by decide) ?_
  refine vnil ?_
  refine vcondt rfl ?_
  refine vseq ?_
  refine vseq ?_
  refine vregion ?_
  refine vone rfl (vxq (vmv rfl) rfl rfl ?_)
  refine vone rfl (vxq (vlen rfl) rfl rfl ?_)
  refine vone rfl (vxq (veql rfl rfl) rfl rfl ?_)
  refine vknow (d := 39) (b' := true) rfl (decide_eq_true (by omega)) ?_
  refine vnil ?_
  refine vcondt rfl ?_
  refine vseq ?_
  refine vregion ?_
  refine vone rfl (vxq (vmv rfl) rfl rfl ?_)
  refine vone rfl (vxq (vlen rfl) rfl rfl ?_)
  refine vone rfl (vxq (veql rfl rfl) rfl rfl ?_)
  refine vknow (d := 42) (b' := true) rfl (decide_eq_true (len0 rfl hm)) ?_
  refine vone rfl (vxq (vmv rfl) rfl rfl ?_)
  refine vyes rfl rfl rfl (vxq (vcp rfl rfl rfl (c_works)) rfl rfl ?_)
  refine vone rfl (vxq (vpkt rfl rfl) rfl rfl ?_)
  refine vone rfl (vxq (vas rfl) rfl rfl ?_)
  refine vnil ?_
  refine vret (vr1 (H' := H) Try.func15 rfl (.tmp rfl) (by repeat first | exact .refl _ | refine .cons_cons _ ?_ | refine .cons _ ?_ | exact sl0 _ | refine slA ?_) ?_)
  exact ⟨rfl, [], rfl⟩
/-- paravane/paravanelaw01.RegionHelly -/
theorem l_Helly2 (l : List Rg) (ol : Option Addr) (nl cl : Nat) (hnl : l.length = nl) (hmx : nl ≤ 9223372036854775807) (p : Pt) (hcl : clashE l = ([], 4)) (hl0 : nl ≠ 0) (hok : ∀ r ∈ l, r.ok) (q : Pt) (hq : Common l q) (z0 t0 : Rg) (hz0 : l[0]? = some z0) (ht0 : tightE z0 = (t0, 0)) (hm0 : MeetUp l 1 t0) (H : Heap) [hSl : SlO H ol 8 encR l] : VCall Try.prog 15 [sli ol nl cl, vP p].toArray H (fun o H' => o = .val (.bool true) ∧ ∃ B, H' = B ++ H) := by
  refine vcall_of_vrun Try.func15 rfl (N := 167) rfl rfl ?_
  refine vseq ?_
  refine vregion ?_
  refine vone rfl (vxa (vbox rfl rfl) rfl rfl (fun b1 => ?_))
  refine vone rfl (vxq (vas rfl) rfl rfl ?_)
  refine vnil ?_
  refine vseq ?_
  refine vregion ?_
  refine vone rfl (vxq (vmv rfl) rfl rfl ?_)
  refine vone rfl (vxg (vcg rfl rfl rfl (g_Clash l ol nl cl hnl hmx _) (fun o H' h => h)) rfl rfl ?_)
  rintro t20 _ ⟨B1, rfl, hc1⟩
  rw [hcl] at hc1
  obtain ⟨oa, m, c, rfl, hm, hS⟩ := hc1
  refine vone rfl (vxq (vmv rfl) rfl rfl ?_)
  refine vone rfl (vxq (vex rfl rfl) rfl rfl ?_)
  refine vone rfl (vxq (vex rfl rfl) rfl rfl ?_)
  refine vone rfl (vxq (vas rfl) rfl rfl ?_)
  refine vone rfl (vxq (vas rfl) rfl rfl ?_)
  refine vnil ?_
  refine vseq ?_
  refine vseq ?_
  refine vregion ?_
  refine vone rfl (vxq (vmv rfl) rfl rfl ?_)
  refine vone rfl (vxq (vneq rfl rfl) rfl rfl ?_)
  refine vknow (d := 24) (b' := true) rfl (by decide) ?_
  refine vone rfl (vxq (vmv rfl) rfl rfl ?_)
  refine vyes rfl rfl rfl (vxq (vmv rfl) rfl rfl ?_)
  refine vyes rfl rfl rfl (vxq (vneq rfl rfl) rfl rfl ?_)
  refine vknow (d := 27) (b' := false) rfl (by decide) ?_
  refine vone rfl (vxq (vpkt rfl rfl) rfl rfl ?_)
  refine vnil ?_
  refine vcondf rfl ?_
  refine vskip ?_
  refine vseq ?_
  refine vseq ?_
  refine vregion ?_
  refine vone rfl (vxq (vmv rfl) rfl rfl ?_)
  refine vone rfl (vxq (veql rfl rfl) rfl rfl ?_)
  refine vknow (d := 36) (b' := true) rfl (by decide) ?_
  refine vnil ?_
  refine vcondt rfl ?_
  refine vseq ?_
  refine vseq ?_
  refine vregion ?_
  refine vone rfl (vxq (vmv rfl) rfl rfl ?_)
  refine vone rfl (vxq (vlen rfl) rfl rfl ?_)
  refine vone rfl (vxq (veql rfl rfl) rfl rfl ?_)
  refine vknow (d := 39) (b' := false) rfl (decide_eq_false (by omega)) ?_
  refine vnil ?_
  refine vcondf rfl ?_
  refine vskip ?_
  refine vseq ?_
  refine vregion ?_
  refine vone rfl (vxq (vmv rfl) rfl rfl ?_)
  refine vone rfl (vxq (visg (enc := encR) rfl rfl (by omega) hz0) rfl rfl ?_)
  refine vone rfl (vxq (vldS (enc := encR) (m := 0) rfl hz0) rfl rfl ?_)
  refine vone rfl (vxq (vcp rfl rfl rfl ((c_Tight z0).reR ht0)) rfl rfl ?_)
  refine vone rfl (vxq (vmv rfl) rfl rfl ?_)
  refine vone rfl (vxq (vex rfl rfl) rfl rfl ?_)
  refine vone rfl (vxq (vex rfl rfl) rfl rfl ?_)
  refine vone rfl (vxa valloc rfl rfl (fun b2 => ?_))
  refine vone rfl (vxs (vstn rfl rfl rfl rfl rfl) rfl ?_)
  refine vone rfl (vxq (vas rfl) rfl rfl ?_)
  refine vnil ?_
  refine vseq ?_
  refine vseq ?_
  refine vregion ?_
  refine vone rfl (vxq (vas rfl) rfl rfl ?_)
  refine vnil ?_
  refine vblock ?_
  refine vwhile (σ := Nat × Rg) (fun ⟨i, mm⟩ => nl - i) (fun ⟨i, mm⟩ => [(0, sli ol nl cl), (4, .bool false), (5, sli oa m c), (7, ptr b2), (8, I 0), (9, I (i : Int))]) (fun ⟨i, mm⟩ => (b2, blk (clR mm) 25) :: (B1 ++ (b1, blk [I p.x, I p.y] 36) :: H)) (fun ⟨i, mm⟩ => i ≤ nl ∧ MeetUp l i mm) (1, t0) ⟨by omega, hm0⟩ ⟨rfl, rfl, rfl, rfl, rfl, rfl, True.intro⟩ (by repeat first | exact .refl _ | refine .cons_cons _ ?_ | refine .cons _ ?_ | exact sl0 _ | refine slA ?_) ?_
  rintro ⟨i, mm⟩ ⟨hil, hmu⟩ IH
  change VRun _ _ _ _ _ [(0, sli ol nl cl), (4, .bool false), (5, sli oa m c), (7, ptr b2), (8, I 0), (9, I (i : Int))] _ ((b2, blk (clR mm) 25) :: (B1 ++ (b1, blk [I p.x, I p.y] 36) :: H)) _
  refine vseq ?_
  refine vseq ?_
  refine vregion ?_
  refine vone rfl (vxq (vmv rfl) rfl rfl ?_)
  refine vone rfl (vxq (vmv rfl) rfl rfl ?_)
  refine vone rfl (vxq (vlen rfl) rfl rfl ?_)
  refine vone rfl (vxq (vlss rfl rfl) rfl rfl ?_)
  refine vone rfl (vxq (vmv rfl) rfl rfl ?_)
  refine vsplitd (d := 57) rfl (fun h57 => ?_) (fun h57 => ?_)
  · skip
    obtain ⟨z, hz⟩ := get_of_lt l (i := ((i : Nat) : Int).toNat) (by omega)
    obtain ⟨t2, hmt, hmu2⟩ := meetUp_next hmu (by simpa using hz) (hok z (List.mem_of_getElem? hz)) hq
    refine vyes rfl rfl rfl (vxq (vmv rfl) rfl rfl ?_)
    refine vyes rfl rfl rfl (vxq (veql rfl rfl) rfl rfl ?_)
    refine vknow (d := 59) (b' := true) rfl (by decide) ?_
    refine vone rfl (vxq (vpkt rfl rfl) rfl rfl ?_)
    refine vnil ?_
    refine vcondt rfl ?_
    refine vskip ?_
    refine vseq ?_
    refine vblock ?_
    refine vdraw1 (d := 7) rfl [(.q, 1), (.q, 2), (.q, 3), (.q, 4), (.n, 0), (.q, 5), (.q, 6), (.q, 7), (.q, 8), (.s, 9), (.q, 10)] Try.mixed (by kernel_rfl) (allocOk_of _ (by kernel_rfl)) ?_
    refine vdq (mone rfl) (vmv rfl) rfl rfl ?_
    refine vdq (mone rfl) (vmv rfl) rfl rfl ?_
    refine vdq (mone rfl) (visg (enc := encR) rfl rfl (by omega) hz) rfl rfl ?_
    refine vdq (mone rfl) (vldS (enc := encR) rfl hz) rfl rfl ?_
    refine vdn rfl (mone rfl) (vldn rfl rfl) rfl rfl ?_
    refine vdq (mone rfl) (vcp rfl rfl rfl ((c_Meet mm z).reR hmt)) rfl rfl ?_
    refine vdq (mone rfl) (vmv rfl) rfl rfl ?_
    refine vdq (mone rfl) (vex rfl rfl) rfl rfl ?_
    refine vdq (mone rfl) (vex rfl rfl) rfl rfl ?_
    refine vds (mone rfl) (vstn rfl rfl rfl rfl rfl) rfl ?_
    refine vdq (mone rfl) (vas rfl) rfl rfl ?_
    refine vdend rfl ?_
    refine vinblock ?_
    refine vregion ?_
    refine vone rfl (vxq (vmv rfl) rfl rfl ?_)
    refine vone rfl (vxq (vadd rfl rfl (by unfold InR; omega)) rfl rfl ?_)
    refine vone rfl (vxq (vas rfl) rfl rfl ?_)
    refine vnil ?_
    exact vback (IH (i + 1, t2) ⟨by omega, hmu2⟩ (by show nl - _ < nl - _; omega)) ⟨rfl, rfl, rfl, rfl, rfl, rfl, True.intro⟩ (by repeat first | exact .refl _ | refine .cons_cons _ ?_ | refine .cons _ ?_ | exact sl0 _ | refine slA ?_)
  · skip
    refine vno rfl rfl rfl rfl rfl ?_
    refine vno rfl rfl rfl rfl rfl ?_
    refine vone rfl (vxq (vpkf rfl rfl) rfl rfl ?_)
    refine vnil ?_
    refine vcondf rfl ?_
    refine vexit (k' := _) rfl ?_
    refine vseq ?_
    refine vregion ?_
    refine vone rfl (vxq (vmv rfl) rfl rfl ?_)
    refine vone rfl (vxq (veql rfl rfl) rfl rfl ?_)
    refine vknow (d := 73) (b' := true) rfl (by decide) ?_
    refine vone rfl (vxq (vmv rfl) rfl rfl ?_)
    refine vyes rfl rfl rfl (vxq (vmv rfl) rfl rfl ?_)
    refine vyes rfl rfl rfl (vxq (vlen rfl) rfl rfl ?_)
    refine vyes rfl rfl rfl (vxq (veql rfl rfl) rfl rfl ?_)
    refine vknow (d := 77) (b' := true) rfl (decide_eq_true (len0 rfl hm)) ?_
    refine vone rfl (vxq (vpkt rfl rfl) rfl rfl ?_)
    refine vone rfl (vxq (vmv rfl) rfl rfl ?_)
    refine vyes rfl rfl rfl (vxq (vcp rfl rfl rfl (c_works)) rfl rfl ?_)
    refine vone rfl (vxq (vpkt rfl rfl) rfl rfl ?_)
    refine vone rfl (vxq (vas rfl) rfl rfl ?_)
    refine vnil ?_
    refine vret (vr1 (H' := H) Try.func15 rfl (.tmp rfl) (by repeat first | exact .refl _ | refine .cons_cons _ ?_ | refine .cons _ ?_ | exact sl0 _ | refine slA ?_) ?_)
    exact ⟨rfl, [], rfl⟩
/-- paravane/paravanelaw01.RegionHelly -/
theorem l_Helly3 (l : List Rg) (ol : Option Addr) (nl cl : Nat) (hnl : l.length = nl) (hmx : nl ≤ 9223372036854775807) (p : Pt) (js : List Nat) (hcl : clashE l = ((js.map (fun (j : Nat) => (j : Int))), 0)) (hlen : 1 ≤ js.length ∧ js.length ≤ 4) (hI : Incr l.length 0 js) (hno : ∀ q, ¬ ∀ j ∈ js, inR (atR l j) q) (hrest : ∀ i, i < js.length → clashE ((js.eraseIdx i).map (atR l)) = ([], 4)) (H : Heap) [hSl : SlO H ol 8 encR l] : VCall Try.prog 15 [sli ol nl cl, vP p].toArray H (fun o H' => o = .val (.bool true) ∧ ∃ B, H' = B ++ H) := by
  refine vcall_of_vrun Try.func15 rfl (N := 167) rfl rfl ?_
  refine vseq ?_
  refine vregion ?_
  refine vone rfl (vxa (vbox rfl rfl) rfl rfl (fun b1 => ?_))
  refine vone rfl (vxq (vas rfl) rfl rfl ?_)
  refine vnil ?_
  refine vseq ?_
  refine vregion ?_
  refine vone rfl (vxq (vmv rfl) rfl rfl ?_)
  refine vone rfl (vxg (vcg rfl rfl rfl (g_Clash l ol nl cl hnl hmx _) (fun o H' h => h)) rfl rfl ?_)
  rintro t20 _ ⟨B1, rfl, hc1⟩
  rw [hcl] at hc1
  obtain ⟨oa, m, c, rfl, hm, hS⟩ := hc1
  refine vone rfl (vxq (vmv rfl) rfl rfl ?_)
  refine vone rfl (vxq (vex rfl rfl) rfl rfl ?_)
  refine vone rfl (vxq (vex rfl rfl) rfl rfl ?_)
  refine vone rfl (vxq (vas rfl) rfl rfl ?_)
  refine vone rfl (vxq (vas rfl) rfl rfl ?_)
  refine vnil ?_
  refine vseq ?_
  refine vseq ?_
  refine vregion ?_
  refine vone rfl (vxq (vmv rfl) rfl rfl ?_)
  refine vone rfl (vxq (vneq rfl rfl) rfl rfl ?_)
  refine vknow (d := 24) (b' := false) rfl (decide_eq_false (fun h => h rfl)) ?_
  refine vone rfl (vxq (vmv rfl) rfl rfl ?_)
  refine vno rfl rfl rfl rfl rfl ?_
  refine vno rfl rfl rfl rfl rfl ?_
  refine vone rfl (vxq (vpkf rfl rfl) rfl rfl ?_)
  refine vnil ?_
  refine vcondf rfl ?_
  refine vskip ?_
  refine vseq ?_
  refine vseq ?_
  refine vregion ?_
  refine vone rfl (vxq (vmv rfl) rfl rfl ?_)
  refine vone rfl (vxq (veql rfl rfl) rfl rfl ?_)
  refine vknow (d := 36) (b' := false) rfl (decide_eq_false (by show ¬ ((0 : Int) = 4); decide)) ?_
  refine vnil ?_
  refine vcondf rfl ?_
  refine vskip ?_
  refine vseq ?_
  refine vseq ?_
  refine vregion ?_
  refine vone rfl (vxq (vmv rfl) rfl rfl ?_)
  refine vone rfl (vxq (vlen rfl) rfl rfl ?_)
  refine vone rfl (vxq (vcp rfl rfl rfl (c_ref00_Between _ _ _)) rfl rfl ?_)
  refine vknow (d := 84) (b' := true) rfl (decide_eq_true (by simp at hm; omega)) ?_
  refine vone rfl (vxq (vnot rfl) rfl rfl ?_)
  refine vnil ?_
  refine vcondf rfl ?_
  refine vskip ?_
  refine vseq ?_
  refine vregion ?_
  refine vone rfl (vxq (vas rfl) rfl rfl ?_)
  refine vnil ?_
  refine vseq ?_
  refine vseq ?_
  refine vregion ?_
  refine vone rfl (vxq (vas rfl) rfl rfl ?_)
  refine vnil ?_
  refine vblock ?_
  refine vwhile (σ := Nat × Bool) (fun ⟨i, A⟩ => m - i) (fun ⟨i, A⟩ => [(0, sli ol nl cl), (3, ptr b1), (4, .bool false), (5, sli oa m c), (10, .bool A), (11, I (i : Int))]) (fun ⟨i, A⟩ => B1 ++ (b1, blk [I p.x, I p.y] 36) :: H) (fun ⟨i, A⟩ => i ≤ m ∧ (A = true → ∀ j ∈ js.take i, inR (atR l j) p)) (0, true) ⟨by omega, fun _ j hj => by simp at hj⟩ ⟨rfl, rfl, rfl, rfl, rfl, rfl, True.intro⟩ (by repeat first | exact .refl _ | refine .cons_cons _ ?_ | refine .cons _ ?_ | exact sl0 _ | refine slA ?_) ?_
  rintro ⟨i, A⟩ ⟨him, hall⟩ IH
  change VRun _ _ _ _ _ [(0, sli ol nl cl), (3, ptr b1), (4, .bool false), (5, sli oa m c), (10, .bool A), (11, I (i : Int))] _ (B1 ++ (b1, blk [I p.x, I p.y] 36) :: H) _
  refine vseq ?_
  refine vseq ?_
  refine vregion ?_
  refine vone rfl (vxq (vmv rfl) rfl rfl ?_)
  refine vone rfl (vxq (vmv rfl) rfl rfl ?_)
  refine vone rfl (vxq (vlen rfl) rfl rfl ?_)
  refine vone rfl (vxq (vlss rfl rfl) rfl rfl ?_)
  refine vnil ?_
  refine vcondd rfl (fun h89 => ?_) (fun h89 => ?_)
  · skip
    have hm' : js.length = m := by simpa using hm
    obtain ⟨j, hj⟩ := get_of_lt js (i := i) (by omega)
    have hjn := (Incr.mem hI _ (List.mem_of_getElem? hj)).2
    obtain ⟨z, hz⟩ := get_of_lt l (i := ((j : Nat) : Int).toNat) (by omega)
    have hzz : atR l j = z := atR_of (by simpa using hz)
    refine vskip ?_
    refine vseq ?_
    refine vblock ?_
    refine vseq ?_
    refine vseq ?_
    refine vregion ?_
    refine vone rfl (vxq (vmv rfl) rfl rfl ?_)
    refine vone rfl (vxq (vmv rfl) rfl rfl ?_)
    refine vone rfl (vxq (visg (enc := encI) rfl rfl (by omega) (cast_get hj)) rfl rfl ?_)
    refine vone rfl (vxq (vldS1 (enc := encI) rfl (cast_get hj) rfl) rfl rfl ?_)
    refine vone rfl (vxq (vmv rfl) rfl rfl ?_)
    refine vone rfl (vxq (vlen rfl) rfl rfl ?_)
    refine vone rfl (vxq (vsub rfl rfl (by unfold InR; omega)) rfl rfl ?_)
    refine vone rfl (vxq (vcp rfl rfl rfl (c_ref00_Between _ _ _)) rfl rfl ?_)
    refine vknow (d := 99) (b' := true) rfl (decide_eq_true (by have := (Incr.mem hI _ (List.mem_of_getElem? hj)).2; omega)) ?_
    refine vone rfl (vxq (vnot rfl) rfl rfl ?_)
    refine vnil ?_
    refine vcondf rfl ?_
    refine vskip ?_
    refine vseq ?_
    refine vregion ?_
    refine vone rfl (vxq (vas rfl) rfl rfl ?_)
    refine vnil ?_
    refine vseq ?_
    refine vseq ?_
    refine vregion ?_
    refine vone rfl (vxq (vas rfl) rfl rfl ?_)
    refine vnil ?_
    refine vblock ?_
    refine vwhile (σ := Nat × Value × Heap) (fun ⟨k, v, B2⟩ => m - k) (fun ⟨k, v, B2⟩ => [(0, sli ol nl cl), (3, ptr b1), (4, .bool false), (5, sli oa m c), (10, .bool A), (11, I (i : Int)), (12, v), (13, I (k : Int))]) (fun ⟨k, v, B2⟩ => B2 ++ (B1 ++ (b1, blk [I p.x, I p.y] 36) :: H)) (fun ⟨k, v, B2⟩ => k ≤ m ∧ (restL l js i k).length ≤ k ∧ OwnS 25 8 v (restL l js i k).length ((restL l js i k).flatMap encR) B2) (0, nilS, []) ⟨by omega, by rw [restL_0]; exact Nat.le_refl _, by rw [restL_0]; exact OwnS.nil⟩ ⟨rfl, rfl, rfl, rfl, rfl, rfl, rfl, rfl, True.intro⟩ (by repeat first | exact .refl _ | refine .cons_cons _ ?_ | refine .cons _ ?_ | exact sl0 _ | refine slA ?_) ?_
    rintro ⟨k, v, B2⟩ ⟨hkm, hle, hown⟩ IH2
    change VRun _ _ _ _ _ [(0, sli ol nl cl), (3, ptr b1), (4, .bool false), (5, sli oa m c), (10, .bool A), (11, I (i : Int)), (12, v), (13, I (k : Int))] _ (B2 ++ (B1 ++ (b1, blk [I p.x, I p.y] 36) :: H)) _
    refine vseq ?_
    refine vseq ?_
    refine vregion ?_
    refine vone rfl (vxq (vmv rfl) rfl rfl ?_)
    refine vone rfl (vxq (vmv rfl) rfl rfl ?_)
    refine vone rfl (vxq (vlen rfl) rfl rfl ?_)
    refine vone rfl (vxq (vlss rfl rfl) rfl rfl ?_)
    refine vnil ?_
    refine vcondd rfl (fun h104 => ?_) (fun h104 => ?_)
    · skip
      obtain ⟨j2, hj2⟩ := get_of_lt js (i := k) (by omega)
      have hjn2 := (Incr.mem hI _ (List.mem_of_getElem? hj2)).2
      obtain ⟨z2, hz2⟩ := get_of_lt l (i := ((j2 : Nat) : Int).toNat) (by omega)
      have hzz2 : atR l j2 = z2 := atR_of (by simpa using hz2)
      refine vskip ?_
      refine vseq ?_
      refine vblock ?_
      refine vseq ?_
      refine vregion ?_
      refine vone rfl (vxq (vmv rfl) rfl rfl ?_)
      refine vone rfl (vxq (vmv rfl) rfl rfl ?_)
      refine vone rfl (vxq (vneq rfl rfl) rfl rfl ?_)
      refine vone rfl (vxq (vmv rfl) rfl rfl ?_)
      refine vsplitd (d := 110) rfl (fun h110 => ?_) (fun h110 => ?_)
      · skip
        have hki : k ≠ i := by omega
        refine vyes rfl rfl rfl (vxq (vmv rfl) rfl rfl ?_)
        refine vyes rfl rfl rfl (vxq (vmv rfl) rfl rfl ?_)
        refine vyes rfl rfl rfl (vxq (visg (enc := encI) rfl rfl (by omega) (cast_get hj2)) rfl rfl ?_)
        refine vyes rfl rfl rfl (vxq (vldS1 (enc := encI) rfl (cast_get hj2) rfl) rfl rfl ?_)
        refine vyes rfl rfl rfl (vxq (vmv rfl) rfl rfl ?_)
        refine vyes rfl rfl rfl (vxq (vlen rfl) rfl rfl ?_)
        refine vyes rfl rfl rfl (vxq (vsub rfl rfl (by unfold InR; omega)) rfl rfl ?_)
        refine vyes rfl rfl rfl (vxq (vcp rfl rfl rfl (c_ref00_Between _ _ _)) rfl rfl ?_)
        refine vknow (d := 118) (b' := true) rfl (decide_eq_true (by have := (Incr.mem hI _ (List.mem_of_getElem? hj2)).2; omega)) ?_
        refine vone rfl (vxq (vpkt rfl rfl) rfl rfl ?_)
        refine vnil ?_
        refine vcondt rfl ?_
        refine vregion ?_
        refine vone rfl (vxq (vmv rfl) rfl rfl ?_)
        refine vone rfl (vxq (vmv rfl) rfl rfl ?_)
        refine vone rfl (vxq (vmv rfl) rfl rfl ?_)
        refine vone rfl (vxq (vmv rfl) rfl rfl ?_)
        refine vone rfl (vxq (visg (enc := encI) rfl rfl (by omega) (cast_get hj2)) rfl rfl ?_)
        refine vone rfl (vxq (vldS1 (enc := encI) rfl (cast_get hj2) rfl) rfl rfl ?_)
        refine vone rfl (vxq (visg (enc := encR) rfl rfl (by omega) hz2) rfl rfl ?_)
        refine vone rfl (vxq (vldS (enc := encR) rfl hz2) rfl rfl ?_)
        refine vone rfl (vxg (vbs rfl rfl rfl rfl rfl rfl) rfl rfl ?_)
        rintro _ _ ⟨b2, rfl, rfl⟩
        refine vone rfl (vxg (vapp (B := B2) (H0 := _) rfl rfl hown perm_one rfl newsB oneI8 (by omega) (by simp only [maxLen]; omega) (by omega)) rfl rfl ?_)
        rintro u _ ⟨B3, hown2, hne, rfl⟩
        refine vone rfl (vxq (vas rfl) rfl rfl ?_)
        refine vnil ?_
        refine vinblock ?_
        refine vregion ?_
        refine vone rfl (vxq (vmv rfl) rfl rfl ?_)
        refine vone rfl (vxq (vadd rfl rfl (by unfold InR; omega)) rfl rfl ?_)
        refine vone rfl (vxq (vas rfl) rfl rfl ?_)
        refine vnil ?_
        first
          | exact vback (IH2 (k + 1, u, B3) ⟨by omega, by rw [restL_ne hj2 hki, List.length_append]; simp; omega, by rw [restL_ne hj2 hki, List.length_append, hzz2]; exact own_snoc hown2⟩ (by show m - _ < m - _; omega)) ⟨rfl, rfl, rfl, rfl, rfl, rfl, rfl, rfl, True.intro⟩ (List.Sublist.append_left (by repeat first | exact .refl _ | refine .cons_cons _ ?_ | refine .cons _ ?_ | exact sl0 _ | refine slA ?_) _)
          | exact vback (IH2 (k + 1, v, B2) ⟨by omega, by rw [restL_eq2 hki hj2]; omega, by rw [restL_eq2 hki hj2]; exact hown⟩ (by show m - _ < m - _; omega)) ⟨rfl, rfl, rfl, rfl, rfl, rfl, rfl, rfl, True.intro⟩ (by repeat first | exact .refl _ | refine .cons_cons _ ?_ | refine .cons _ ?_ | exact sl0 _ | refine slA ?_)
      · skip
        have hki : k = i := by omega
        refine vno rfl rfl rfl rfl rfl ?_
        refine vno rfl rfl rfl rfl rfl ?_
        refine vno rfl rfl rfl rfl rfl ?_
        refine vno rfl rfl rfl rfl rfl ?_
        refine vno rfl rfl rfl rfl rfl ?_
        refine vno rfl rfl rfl rfl rfl ?_
        refine vno rfl rfl rfl rfl rfl ?_
        refine vno rfl rfl rfl rfl rfl ?_
        refine vone rfl (vxq (vpkf rfl rfl) rfl rfl ?_)
        refine vnil ?_
        refine vcondf rfl ?_
        refine vskip ?_
        refine vinblock ?_
        refine vregion ?_
        refine vone rfl (vxq (vmv rfl) rfl rfl ?_)
        refine vone rfl (vxq (vadd rfl rfl (by unfold InR; omega)) rfl rfl ?_)
        refine vone rfl (vxq (vas rfl) rfl rfl ?_)
        refine vnil ?_
        first
          | exact vback (IH2 (k + 1, u, B3) ⟨by omega, by rw [restL_ne hj2 hki, List.length_append]; simp; omega, by rw [restL_ne hj2 hki, List.length_append, hzz2]; exact own_snoc hown2⟩ (by show m - _ < m - _; omega)) ⟨rfl, rfl, rfl, rfl, rfl, rfl, rfl, rfl, True.intro⟩ (List.Sublist.append_left (by repeat first | exact .refl _ | refine .cons_cons _ ?_ | refine .cons _ ?_ | exact sl0 _ | refine slA ?_) _)
          | exact vback (IH2 (k + 1, v, B2) ⟨by omega, by rw [restL_eq2 hki hj2]; omega, by rw [restL_eq2 hki hj2]; exact hown⟩ (by show m - _ < m - _; omega)) ⟨rfl, rfl, rfl, rfl, rfl, rfl, rfl, rfl, True.intro⟩ (by repeat first | exact .refl _ | refine .cons_cons _ ?_ | refine .cons _ ?_ | exact sl0 _ | refine slA ?_)
    · skip
      have hkm : js.length ≤ k := by omega
      rw [restL_all l js i k hkm] at hown
      have hll := hle
      rw [restL_all l js i k hkm] at hle
      obtain ⟨oa2, c2, rfl, hS2⟩ := hown.any (enc := encR) (size := 8) (fun _ => rfl) (by decide) rfl
      have hcl3 := hrest i (by omega)
      refine vexit (k' := _) rfl ?_
      refine vseq ?_
      refine vseq ?_
      refine vregion ?_
      refine vone rfl (vxq (vmv rfl) rfl rfl ?_)
      refine vone rfl (vxg (vcg rfl rfl rfl (@g_Clash _ oa2 _ c2 rfl (by omega) _ (hS2 _)) (fun o H' h => h)) rfl rfl ?_)
      rintro t132 _ ⟨B4, rfl, hc3⟩
      rw [hcl3] at hc3
      obtain ⟨oa3, m3, c3, rfl, hm3, hS3⟩ := hc3
      refine vone rfl (vxq (vmv rfl) rfl rfl ?_)
      refine vone rfl (vxq (vex rfl rfl) rfl rfl ?_)
      refine vone rfl (vxq (vex rfl rfl) rfl rfl ?_)
      refine vone rfl (vxq (vas rfl) rfl rfl ?_)
      refine vone rfl (vxq (vas rfl) rfl rfl ?_)
      refine vnil ?_
      refine vseq ?_
      refine vregion ?_
      refine vone rfl (vxq (vmv rfl) rfl rfl ?_)
      refine vone rfl (vxq (vneq rfl rfl) rfl rfl ?_)
      refine vknow (d := 136) (b' := false) rfl (by decide) ?_
      refine vone rfl (vxq (vmv rfl) rfl rfl ?_)
      refine vyes rfl rfl rfl (vxq (vmv rfl) rfl rfl ?_)
      refine vyes rfl rfl rfl (vxq (vlen rfl) rfl rfl ?_)
      refine vyes rfl rfl rfl (vxq (vneq rfl rfl) rfl rfl ?_)
      refine vknow (d := 140) (b' := false) rfl (decide_eq_false (fun h => h (len0 rfl hm3))) ?_
      refine vone rfl (vxq (vpkf rfl rfl) rfl rfl ?_)
      refine vnil ?_
      refine vcondf rfl ?_
      refine vskip ?_
      refine vseq ?_
      refine vdraw0 [(.q, 0), (.q, 1), (.q, 2), (.q, 3), (.q, 4), (.q, 5), (.q, 6), (.q, 7), (.q, 8), (.q, 9), (.q, 10), (.q, 11), (.q, 12), (.q, 13)] Try.mixed (by kernel_rfl) (by kernel_rfl) ?_
      refine vdq (mone rfl) (vmv rfl) rfl rfl ?_
      refine vdq (mone rfl) (vmv rfl) rfl rfl ?_
      refine vdq (mone rfl) (vmv rfl) rfl rfl ?_
      refine vdq (mone rfl) (visg (enc := encI) rfl rfl (by omega) (cast_get hj)) rfl rfl ?_
      refine vdq (mone rfl) (vldS1 (enc := encI) rfl (cast_get hj) rfl) rfl rfl ?_
      refine vdq (mone rfl) (visg (enc := encR) rfl rfl (by omega) hz) rfl rfl ?_
      refine vdq (mone rfl) (vldS (enc := encR) rfl hz) rfl rfl ?_
      refine vdq (mone rfl) (vldn rfl rfl) rfl rfl ?_
      refine vdq (mone rfl) (vcp rfl rfl rfl (c_Has z p)) rfl rfl ?_
      refine vdq (mone rfl) (vmv rfl) rfl rfl ?_
      refine vdq (mone rfl) (vex rfl rfl) rfl rfl ?_
      refine vdq (mone rfl) (vex rfl rfl) rfl rfl ?_
      refine vdq (mone rfl) (vas rfl) rfl rfl ?_
      refine vdq (mone rfl) (vas rfl) rfl rfl ?_
      refine vdend rfl ?_
      refine vregion ?_
      refine vone rfl (vxq (vmv rfl) rfl rfl ?_)
      refine vone rfl (vxq (vmv rfl) rfl rfl ?_)
      refine vsplit (d := 155) rfl (fun h155 => ?_) (fun h155 => ?_)
      · skip
        refine vyes rfl rfl rfl (vxq (vmv rfl) rfl rfl ?_)
        refine vone rfl (vxq (vpkt rfl rfl) rfl rfl ?_)
        refine vone rfl (vxq (vmv rfl) rfl rfl ?_)
        refine vsplit (d := 158) rfl (fun h158 => ?_) (fun h158 => ?_)
        · skip
          refine vyes rfl rfl rfl (vxq (vmv rfl) rfl rfl ?_)
          refine vyes rfl rfl rfl (vxq (veql rfl rfl) rfl rfl ?_)
          refine vone rfl (vxq (vpkt rfl rfl) rfl rfl ?_)
          refine vone rfl (vxq (vas rfl) rfl rfl ?_)
          refine vnil ?_
          refine vinblock ?_
          refine vregion ?_
          refine vone rfl (vxq (vmv rfl) rfl rfl ?_)
          refine vone rfl (vxq (vadd rfl rfl (by unfold InR; omega)) rfl rfl ?_)
          refine vone rfl (vxq (vas rfl) rfl rfl ?_)
          refine vnil ?_
          first
            | exact vback (IH (i + 1, decide ((hasE z p).2 = 0)) ⟨by omega, fun _ j' hj' => by rw [take_succ_of hj] at hj'; rcases List.mem_append.1 hj' with h | h; exact hall h155 j' h; rw [List.mem_singleton.1 h, hzz]; exact has_true h158⟩ (by show m - _ < m - _; omega)) ⟨rfl, rfl, rfl, rfl, rfl, rfl, True.intro⟩ (by repeat first | exact .refl _ | refine .cons_cons _ ?_ | refine .cons _ ?_ | exact sl0 _ | refine slA ?_)
            | exact vback (IH (i + 1, false) ⟨by omega, fun h => by cases h⟩ (by show m - _ < m - _; omega)) ⟨rfl, rfl, rfl, rfl, rfl, rfl, True.intro⟩ (by repeat first | exact .refl _ | refine .cons_cons _ ?_ | refine .cons _ ?_ | exact sl0 _ | refine slA ?_)
        · skip
          refine vno rfl rfl rfl rfl rfl ?_
          refine vno rfl rfl rfl rfl rfl ?_
          refine vone rfl (vxq (vpkf rfl rfl) rfl rfl ?_)
          refine vone rfl (vxq (vas rfl) rfl rfl ?_)
          refine vnil ?_
          refine vinblock ?_
          refine vregion ?_
          refine vone rfl (vxq (vmv rfl) rfl rfl ?_)
          refine vone rfl (vxq (vadd rfl rfl (by unfold InR; omega)) rfl rfl ?_)
          refine vone rfl (vxq (vas rfl) rfl rfl ?_)
          refine vnil ?_
          first
            | exact vback (IH (i + 1, decide ((hasE z p).2 = 0)) ⟨by omega, fun _ j' hj' => by rw [take_succ_of hj] at hj'; rcases List.mem_append.1 hj' with h | h; exact hall h155 j' h; rw [List.mem_singleton.1 h, hzz]; exact has_true h158⟩ (by show m - _ < m - _; omega)) ⟨rfl, rfl, rfl, rfl, rfl, rfl, True.intro⟩ (by repeat first | exact .refl _ | refine .cons_cons _ ?_ | refine .cons _ ?_ | exact sl0 _ | refine slA ?_)
            | exact vback (IH (i + 1, false) ⟨by omega, fun h => by cases h⟩ (by show m - _ < m - _; omega)) ⟨rfl, rfl, rfl, rfl, rfl, rfl, True.intro⟩ (by repeat first | exact .refl _ | refine .cons_cons _ ?_ | refine .cons _ ?_ | exact sl0 _ | refine slA ?_)
      · skip
        refine vno rfl rfl rfl rfl rfl ?_
        refine vone rfl (vxq (vpkf rfl rfl) rfl rfl ?_)
        refine vone rfl (vxq (vmv rfl) rfl rfl ?_)
        refine vno rfl rfl rfl rfl rfl ?_
        refine vno rfl rfl rfl rfl rfl ?_
        refine vone rfl (vxq (vpkf rfl rfl) rfl rfl ?_)
        refine vone rfl (vxq (vas rfl) rfl rfl ?_)
        refine vnil ?_
        refine vinblock ?_
        refine vregion ?_
        refine vone rfl (vxq (vmv rfl) rfl rfl ?_)
        refine vone rfl (vxq (vadd rfl rfl (by unfold InR; omega)) rfl rfl ?_)
        refine vone rfl (vxq (vas rfl) rfl rfl ?_)
        refine vnil ?_
        first
          | exact vback (IH (i + 1, decide ((hasE z p).2 = 0)) ⟨by omega, fun _ j' hj' => by rw [take_succ_of hj] at hj'; rcases List.mem_append.1 hj' with h | h; exact hall h155 j' h; rw [List.mem_singleton.1 h, hzz]; exact has_true h158⟩ (by show m - _ < m - _; omega)) ⟨rfl, rfl, rfl, rfl, rfl, rfl, True.intro⟩ (by repeat first | exact .refl _ | refine .cons_cons _ ?_ | refine .cons _ ?_ | exact sl0 _ | refine slA ?_)
          | exact vback (IH (i + 1, false) ⟨by omega, fun h => by cases h⟩ (by show m - _ < m - _; omega)) ⟨rfl, rfl, rfl, rfl, rfl, rfl, True.intro⟩ (by repeat first | exact .refl _ | refine .cons_cons _ ?_ | refine .cons _ ?_ | exact sl0 _ | refine slA ?_)
  · skip
    obtain rfl : A = false := by
                cases A with
                | false => rfl
                | true => exact absurd (fun j hj => hall rfl j (by rw [List.take_of_length_le (by simp at hm; omega)]; exact hj)) (hno p)
    refine vexit (k' := _) rfl ?_
    refine vseq ?_
    refine vregion ?_
    refine vone rfl (vxq (vmv rfl) rfl rfl ?_)
    refine vone rfl (vxq (vnot rfl) rfl rfl ?_)
    refine vknow (d := 163) (b' := true) rfl rfl ?_
    refine vone rfl (vxq (vmv rfl) rfl rfl ?_)
    refine vyes rfl rfl rfl (vxq (vcp rfl rfl rfl (c_works)) rfl rfl ?_)
    refine vone rfl (vxq (vpkt rfl rfl) rfl rfl ?_)
    refine vone rfl (vxq (vas rfl) rfl rfl ?_)
    refine vnil ?_
    refine vret (vr1 (H' := H) Try.func15 rfl (.tmp rfl) (by repeat first | exact .refl _ | refine .cons_cons _ ?_ | refine .cons _ ?_ | exact sl0 _ | refine slA ?_) ?_)
    exact ⟨rfl, [], rfl⟩

theorem l_RegionHelly (l : List Rg) (ol : Option Addr) (nl cl : Nat) (hnl : l.length = nl) (hmx : nl ≤ 9223372036854775807) (p : Pt) (H : Heap) [hSl : SlO H ol 8 encR l] : VCall Try.prog 15 [sli ol nl cl, vP p].toArray H (fun o H' => o = .val (.bool true) ∧ ∃ B, H' = B ++ H) := by
  rcases clash_cases l with ⟨e, hcl, h0, h4⟩ | ⟨hcl, _, hok, hc⟩ | ⟨js, hcl, _, hok, hlen, hI, hno, hrest⟩
  · exact l_Helly0 l ol nl cl hnl hmx p e hcl h0 h4 H
  · by_cases hl : l = []
    · exact l_Helly1 l ol nl cl hnl hmx p hcl (by rw [← hnl, hl]; rfl) H
    · obtain ⟨q, _, hq⟩ := hc hl
      cases l with
      | nil => exact absurd rfl hl
      | cons z0 l =>
        obtain ⟨t0, ht0, hm0⟩ := meetUp_one (l := l) (hok z0 (by simp)) (hq z0 (by simp))
        exact l_Helly2 (z0 :: l) ol nl cl hnl hmx p hcl (by rw [← hnl]; simp) hok q hq z0 t0 rfl ht0 hm0 H
  · exact l_Helly3 l ol nl cl hnl hmx p js hcl hlen hI hno (fun i hi => clash_rest hok hlen.2 hI hrest i hi) H

end Go.Proofs.Ytffpfcomikcimaa
