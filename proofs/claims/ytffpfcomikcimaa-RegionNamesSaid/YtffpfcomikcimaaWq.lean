/-
  Walks of Clone, Own and Clash.
-/
import Derived.Test.YtffpfcomikcimaaWp
namespace Go.Proofs.Ytffpfcomikcimaa
open Go
set_option maxRecDepth 100000

instance tAp51 : TAp Try.prog 51 3 1 8 := mkTAp (z := .int .i64 0) (by kernel_rfl) (by kernel_rfl) rfl


abbrev nilS : Value := .slice Option.none 0 0
theorem news_of {H : Heap} {a : Addr} {cs : List Int} [h : SlO H (some a) 1 encI cs] : ∀ j u, (cs.map (Value.int .i64))[j]? = some u → ∃ ob, (a.block, ob) ∈ H ∧ oCell ob (a.add j) = some u := by
  intro j u hu
  rw [List.getElem?_map] at hu
  cases hc : cs[j]? with
  | none => rw [hc] at hu; cases hu
  | some x =>
    rw [hc] at hu
    simp only [Option.map_some, Option.some.injEq] at hu
    subst hu
    obtain ⟨_, a', ob, e, hm, hcell⟩ := h.el j x hc
    cases e
    exact ⟨ob, hm, by have := hcell 0 (I x) rfl; simpa using this⟩
theorem one_of (cs : List Int) : ∀ u ∈ cs.map (Value.int .i64), u.oneCell' = true := by
  intro u hu
  obtain ⟨x, _, rfl⟩ := List.mem_map.1 hu
  rfl

/-- paravane/paravaneref00.Own -/
theorem c_Own_nil  : VPure Try.prog 150 [nilS] (nilS) := by
  intro H
  refine vcall_of_vrun Try.func150 rfl (N := 7) rfl rfl ?_
  refine vseq ?_
  refine vregion ?_
  refine vone rfl (vxq (vas rfl) rfl rfl ?_)
  refine vnil ?_
  refine vseq ?_
  refine vregion ?_
  refine vone rfl (vxq (vas rfl) rfl rfl ?_)
  refine vnil ?_
  refine vseq ?_
  refine vregion ?_
  refine vone rfl (vxq (vmv rfl) rfl rfl ?_)
  refine vone rfl (vxq (vmv rfl) rfl rfl ?_)
  refine vone rfl (vxq (vapp0 rfl rfl OwnS.nil) rfl rfl ?_)
  refine vone rfl (vxq (vas rfl) rfl rfl ?_)
  refine vnil ?_
  refine vret (vr1 (H' := H) Try.func150 rfl (.tmp rfl) (by repeat first | exact .refl _ | refine .cons_cons _ ?_ | refine .cons _ ?_ | exact sl0 _ | refine slA ?_) ?_)
  exact ⟨rfl, rfl⟩
/-- paravane/paravaneref00.Own -/
theorem g_Own (a : Addr) (n c : Nat) (cs : List Int) (hn : cs.length = n) (h0 : 0 < n) (hmax : n ≤ 1000) (H : Heap) [SlO H (some a) 1 encI cs] : VCall Try.prog 150 [sli (some a) n c].toArray H (fun o H' => ∃ v' B', o = .val v' ∧ OwnS 3 1 v' n (cs.map (Value.int .i64)) B' ∧ v' ≠ nilS ∧ H' = B' ++ H) := by
  refine vcall_of_vrun Try.func150 rfl (N := 7) rfl rfl ?_
  refine vseq ?_
  refine vregion ?_
  refine vone rfl (vxq (vas rfl) rfl rfl ?_)
  refine vnil ?_
  refine vseq ?_
  refine vregion ?_
  refine vone rfl (vxq (vas rfl) rfl rfl ?_)
  refine vnil ?_
  refine vseq ?_
  refine vregion ?_
  refine vone rfl (vxq (vmv rfl) rfl rfl ?_)
  refine vone rfl (vxq (vmv rfl) rfl rfl ?_)
  refine vone rfl (vxg (vapp (xs := []) (news := cs.map (Value.int .i64)) (B := []) (H0 := H) rfl rfl OwnS.nil (.refl _) (by simp [hn]) news_of (one_of cs) h0 (by simp only [maxLen]; omega) (by omega)) rfl rfl ?_)
  rintro u _ ⟨B', hown, hnn, rfl⟩
  refine vone rfl (vxq (vas rfl) rfl rfl ?_)
  refine vnil ?_
  refine vret (vr1 (H' := _) Try.func150 rfl (.tmp rfl) (by repeat first | exact .refl _ | refine .cons_cons _ ?_ | refine .cons _ ?_ | exact sl0 _ | refine slA ?_) ?_)
  exact ⟨u, B', rfl, by rw [Nat.zero_add, List.nil_append] at hown; exact hown, hnn, rfl⟩
/-- slices.Clone[[]int,int] -/
theorem c_Clone_nil  : VPure Try.prog 115 [nilS] (nilS) := by
  intro H
  refine vcall_of_vrun Try.func115 rfl (N := 8) rfl rfl ?_
  refine vseq ?_
  refine vregion ?_
  refine vone rfl (vxq (vas rfl) rfl rfl ?_)
  refine vnil ?_
  refine vseq ?_
  refine vseq ?_
  refine vregion ?_
  refine vone rfl (vxq (vmv rfl) rfl rfl ?_)
  refine vone rfl (vxq (veqsn rfl rfl) rfl rfl ?_)
  refine vnil ?_
  refine vcond rfl (fun h4 => ?_) (fun h4 => ?_)
  · skip
    refine vseq ?_
    refine vregion ?_
    refine vone rfl (vxq (vas rfl) rfl rfl ?_)
    refine vnil ?_
    refine vret (vr1 (H' := H) Try.func115 rfl (.tmp rfl) (by repeat first | exact .refl _ | refine .cons_cons _ ?_ | refine .cons _ ?_ | exact sl0 _ | refine slA ?_) ?_)
    first | exact ⟨rfl, rfl⟩ | (cases h4)
  · skip
    refine vskip ?_
    refine vseq ?_
    refine vregion ?_
    refine vone rfl (vxg vbs0 rfl rfl ?_)
    rintro _ _ ⟨b1, rfl, rfl⟩
    refine vone rfl (vxq (vmv rfl) rfl rfl ?_)
    refine vone rfl (vxq (vapp0 rfl (by rfl) OwnS.empty) rfl rfl ?_)
    refine vone rfl (vxq (vas rfl) rfl rfl ?_)
    refine vnil ?_
    refine vret (vr1 (H' := H) Try.func115 rfl (.tmp rfl) (by repeat first | exact .refl _ | refine .cons_cons _ ?_ | refine .cons _ ?_ | exact sl0 _ | refine slA ?_) ?_)
    first | exact ⟨rfl, rfl⟩ | (cases h4)
/-- slices.Clone[[]int,int] -/
theorem g_Clone (a : Addr) (n c : Nat) (cs : List Int) (hn : cs.length = n) (h0 : 0 < n) (hmax : n ≤ 1000) (H : Heap) [SlO H (some a) 1 encI cs] : VCall Try.prog 115 [sli (some a) n c].toArray H (fun o H' => ∃ v' B', o = .val v' ∧ OwnS 3 1 v' n (cs.map (Value.int .i64)) B' ∧ v' ≠ nilS ∧ H' = B' ++ H) := by
  refine vcall_of_vrun Try.func115 rfl (N := 8) rfl rfl ?_
  refine vseq ?_
  refine vregion ?_
  refine vone rfl (vxq (vas rfl) rfl rfl ?_)
  refine vnil ?_
  refine vseq ?_
  refine vseq ?_
  refine vregion ?_
  refine vone rfl (vxq (vmv rfl) rfl rfl ?_)
  refine vone rfl (vxq (veqsn rfl rfl) rfl rfl ?_)
  refine vnil ?_
  refine vcond rfl (fun h4 => ?_) (fun h4 => ?_)
  · skip
    refine vseq ?_
    refine vregion ?_
    refine vone rfl (vxq (vas rfl) rfl rfl ?_)
    refine vnil ?_
    refine vret (vr1 (H' := _) Try.func115 rfl (.tmp rfl) (by repeat first | exact .refl _ | refine .cons_cons _ ?_ | refine .cons _ ?_ | exact sl0 _ | refine slA ?_) ?_)
    first | (cases h4; done) | exact ⟨u, B', rfl, by rw [Nat.zero_add, List.nil_append] at hown; exact hown, hnn, rfl⟩
  · skip
    refine vskip ?_
    refine vseq ?_
    refine vregion ?_
    refine vone rfl (vxg vbs0 rfl rfl ?_)
    rintro _ _ ⟨b1, rfl, rfl⟩
    refine vone rfl (vxq (vmv rfl) rfl rfl ?_)
    refine vone rfl (vxg (vapp (xs := []) (news := cs.map (Value.int .i64)) (B := [(b1, blk [] 3)]) (H0 := H) rfl rfl OwnS.empty (.refl _) (by simp [hn]) (fun j u hu => let ⟨ob, hm, hc⟩ := news_of (H := H) (a := a) (cs := cs) j u hu; ⟨ob, List.mem_cons_of_mem _ hm, hc⟩) (one_of cs) h0 (by simp only [maxLen]; omega) (by omega)) rfl rfl ?_)
    rintro u _ ⟨B', hown, hnn, rfl⟩
    refine vone rfl (vxq (vas rfl) rfl rfl ?_)
    refine vnil ?_
    refine vret (vr1 (H' := _) Try.func115 rfl (.tmp rfl) (by repeat first | exact .refl _ | refine .cons_cons _ ?_ | refine .cons _ ?_ | exact sl0 _ | refine slA ?_) ?_)
    first | (cases h4; done) | exact ⟨u, B', rfl, by rw [Nat.zero_add, List.nil_append] at hown; exact hown, hnn, rfl⟩
end Go.Proofs.Ytffpfcomikcimaa
