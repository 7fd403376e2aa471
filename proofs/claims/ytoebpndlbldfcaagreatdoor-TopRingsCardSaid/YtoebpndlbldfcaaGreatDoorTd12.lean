/-
  Parts of the proof: rules of the engine, walks of functions, plain Lean. No condition.
-/
import Derived.Test.YtoebpndlbldfcaaGreatDoorTd11
namespace Go.Proofs.YtoebpndlbldfcaaGreatDoor
open Go
set_option maxRecDepth 100000
attribute [local irreducible] tightP hullP rootP farP rows endsOf
noncomputable def bestE (w : Wn) (s : Sc) : List Int × Int × Int := if (dangerE w s).2 ≠ 0 then ([], 0, (dangerE w s).2) else (bestF ⟨w, s, (dangerE w s).1⟩ s.ship.length 0 sta0, mostF ⟨w, s, (dangerE w s).1⟩ s.ship.length 0 sta0, 0)
theorem best_e {w : Wn} {s : Sc} (h : (dangerE w s).2 ≠ 0) : bestE w s = ([], 0, (dangerE w s).2) := if_pos h
theorem best_y {w : Wn} {s : Sc} (h : ¬ (dangerE w s).2 ≠ 0) : bestE w s = (bestF ⟨w, s, (dangerE w s).1⟩ s.ship.length 0 sta0, mostF ⟨w, s, (dangerE w s).1⟩ s.ship.length 0 sta0, 0) := if_neg h
theorem bestM_min (g : Lg) (hs : 0 ≤ g.w.soft) (n : Nat) (t : Int) (x : Sta) : ∃ b : Nat, bestM g n t x = b ∧ b < g.w.soft.toNat + 2 ∧ gainF g n t x b = mostF g (n + 1) t x ∧ ∀ j : Nat, j < b → gainF g n t x j ≠ mostF g (n + 1) t x := by
  obtain ⟨m, hm, hg⟩ := gain_at g hs n t x
  unfold bestM modesL at *
  rw [List.find?_map]
  obtain ⟨j, hj, rfl⟩ := List.mem_map.1 hm
  cases hf : (List.range (g.w.soft.toNat + 2)).find? ((fun m => decide (gainF g n t x m = mostF g (n + 1) t x)) ∘ fun (j : Nat) => (j : Int)) with
  | none =>
    have := List.find?_eq_none.1 hf j hj
    simp [hg] at this
  | some b =>
    obtain ⟨h1, h2, h3⟩ := List.find?_range_eq_some.1 hf
    refine ⟨b, rfl, List.mem_range.1 h2, by simpa using h1, fun j hj => ?_⟩
    have := h3 j hj
    simpa using this
theorem d_Best (w : Wn) (h : SH) (s : Sc) (H : Heap) [hsc : ScO H h s] [hgl : Glob H] : VCall Tryz.prog 41 [vWn w, vSc h s].toArray H (fun o H' => ∃ v, o = .val v ∧ ∃ B, H' = B ++ H ∧ ∃ oa c, v = tup [.slice oa (bestE w s).1.length c, I (bestE w s).2.1, I (bestE w s).2.2] ∧ SlO B oa 1 encI (bestE w s).1) := by
 refine CV 63 Tryz.func41 ?_
 refine KK2 (BX fun b1 => ?_)
 refine BX fun b2 => ?_
 refine QA ?_
 refine QA ?_
 refine QA (KK3 ?_)
 refine QN ?_
 refine QN ?_
 refine vone rfl (vxg (vcg rfl rfl rfl (d_logOf w h s _) (fun o H' h => h)) rfl rfl ?_)
 rintro _ _ ⟨B, rfl, ⟨oa1, c1, rfl, hle, hsl⟩⟩
 refine QM ?_
 refine QX ?_
 refine QX ?_
 refine AL fun b3 => ?_
 refine SN ?_
 refine QA (vnil (vseq (KK2 ?_)))
 refine QM ?_
 refine QG (vnil ?_)
 refine vcondd rfl (fun h20 => ?_) (fun h20 => ?_)
 ·
  refine KK2 (QM ?_)
  refine QA ?_
  refine QA ?_
  refine QA (vnil ?_)
  refine vret (vr3 (H' := B ++ H) Tryz.func41 rfl (.tmp rfl) (.tmp rfl) (.tmp rfl) sb2 ?_)
  (rw [best_e h20]; exact ⟨_, rfl, B, rfl, Option.none, 0, rfl, SlO.nil⟩)
 ·
  obtain ⟨hw0, hs0, _, hdl⟩ := danger_0 (Classical.not_not.1 h20)
  haveI hlg : LgO (B ++ ((b2, blk (clSc h s) 83) :: (b1, blk (clWn w) 78) :: H)) ⟨h, oa1, c1⟩ ⟨w, s, (dangerE w s).1⟩ := LgO.of (Classical.not_not.1 h20) hle hsl
  have hn64 := hs0.1
  have hwu := hw0
  unfold okW at hwu
  refine vskip (KK2 ?_)
  refine vone rfl (vxg (vmm (ek := evPc) (ev' := evI) rfl) rfl rfl ?_)
  rintro _ _ ⟨bm, rfl, rfl⟩
  refine AL fun b4 => ?_
  refine SU (KK3 ?_)
  refine AL fun b5 => (KK3 ?_)
  refine QQ (vmf rfl) rfl ?_
  refine AL fun b6 => ?_
  refine SU (KK3 ?_)
  refine QQ (vmf rfl) rfl ?_
  refine SU (KK3 ?_)
  refine QQ (vglF rfl) rfl ?_
  refine QB ?_
  refine AL fun b7 => ?_
  refine SN (KK3 ?_)
  refine QL ?_
  have hB : ∀ C : Heap, BsO ((b6, blk [.func (.func 57) #[] #[ptr b3, ptr b5]] 123) :: (b5, blk [.func (.func 61) #[] #[ptr b3, ptr b4, ptr b6]] 115) :: (b4, blk [.map (some bm)] 114) :: (b3, blk (clLg ⟨h, oa1, c1⟩ ⟨w, s, (dangerE w s).1⟩) 111) :: (C ++ (B ++ ((b2, blk (clSc h s) 83) :: (b1, blk (clWn w) 78) :: H)))) ⟨h, oa1, c1⟩ ⟨w, s, (dangerE w s).1⟩ b3 b4 b5 b6 bm := fun C => ⟨inferInstance, inferInstance, inferInstance, inferInstance, inferInstance⟩
  refine QN ?_
  refine vone rfl (vxg (vcg (R := fun v H' => v = I (mostF ⟨w, s, (dangerE w s).1⟩ s.ship.length 0 sta0) ∧ ∃ l' c', H' = (b7, blk [I 0, I sta0.md, I sta0.qu] 119) :: (b6, blk [.func (.func 57) #[] #[ptr b3, ptr b5]] 123) :: (b5, blk [.func (.func 61) #[] #[ptr b3, ptr b4, ptr b6]] 115) :: (b4, blk [.map (some bm)] 114) :: (bm, mPc l' c') :: (b3, blk (clLg ⟨h, oa1, c1⟩ ⟨w, s, (dangerE w s).1⟩) 111) :: (B ++ ((b2, blk (clSc h s) 83) :: (b1, blk (clWn w) 78) :: H)) ∧ MK ⟨w, s, (dangerE w s).1⟩ l') rfl rfl rfl (VCall.atO (most_all ⟨w, s, (dangerE w s).1⟩ s.ship.length ((b7, blk [I 0, I sta0.md, I sta0.qu] 119) :: (b6, blk [.func (.func 57) #[] #[ptr b3, ptr b5]] 123) :: (b5, blk [.func (.func 61) #[] #[ptr b3, ptr b4, ptr b6]] 115) :: (b4, blk [.map (some bm)] 114) :: (b3, blk (clLg ⟨h, oa1, c1⟩ ⟨w, s, (dangerE w s).1⟩) 111) :: (B ++ ((b2, blk (clSc h s) 83) :: (b1, blk (clWn w) 78) :: H))) ⟨h, oa1, c1⟩ b3 b4 b5 b6 bm 0 sta0 [] 0 (hB []).cons (by omega) (by simp) sta0_ok MK.nil)) (fun o H' ⟨o', h1, h2, l', c', h3, h4⟩ => ⟨_, h2, rfl, l', c', by subst h3; exact h1, h4⟩)) rfl rfl ?_)
  rintro _ _ ⟨rfl, l0, c0, rfl, hmk0⟩
  refine QA (vnil (vseq (vblock ?_)))
  refine VRun.perm (H' := (bm, mPc l0 c0) :: (b7, blk [I 0, I sta0.md, I sta0.qu] 119) :: (b6, blk [.func (.func 57) #[] #[ptr b3, ptr b5]] 123) :: (b5, blk [.func (.func 61) #[] #[ptr b3, ptr b4, ptr b6]] 115) :: (b4, blk [.map (some bm)] 114) :: (b3, blk (clLg ⟨h, oa1, c1⟩ ⟨w, s, (dangerE w s).1⟩) 111) :: (B ++ ((b2, blk (clSc h s) 83) :: (b1, blk (clWn w) 78) :: H))) (List.perm_middle (l₁ := [(b7, blk [I 0, I sta0.md, I sta0.qu] 119), (b6, blk [.func (.func 57) #[] #[ptr b3, ptr b5]] 123), (b5, blk [.func (.func 61) #[] #[ptr b3, ptr b4, ptr b6]] 115), (b4, blk [.map (some bm)] 114)])) ?_
  refine vwhile (σ := Nat × Sta × List EnP × Nat × Option Addr × Nat × Heap × List Int) (fun ⟨i, x, l, c, oa, cp, C, pre⟩ => s.ship.length - i) (fun ⟨i, x, l, c, oa, cp, C, pre⟩ => [(4, .slice oa i cp), (5, I (mostF ⟨w, s, (dangerE w s).1⟩ s.ship.length 0 sta0)), (7, ptr b3), (9, ptr b5), (10, ptr b6), (11, ptr b7)]) (fun ⟨i, x, l, c, oa, cp, C, pre⟩ => (bm, mPc l c) :: (b7, blk [I (i : Int), I x.md, I x.qu] 119) :: (b6, blk [.func (.func 57) #[] #[ptr b3, ptr b5]] 123) :: (b5, blk [.func (.func 61) #[] #[ptr b3, ptr b4, ptr b6]] 115) :: (b4, blk [.map (some bm)] 114) :: (b3, blk (clLg ⟨h, oa1, c1⟩ ⟨w, s, (dangerE w s).1⟩) 111) :: (C ++ (B ++ ((b2, blk (clSc h s) 83) :: (b1, blk (clWn w) 78) :: H)))) (fun ⟨i, x, l, c, oa, cp, C, pre⟩ => i ≤ s.ship.length ∧ okSt x ∧ MK ⟨w, s, (dangerE w s).1⟩ l ∧ pre.length = i ∧ OwnS 3 1 (.slice oa i cp) i (pre.flatMap encI) C ∧ pre ++ bestF ⟨w, s, (dangerE w s).1⟩ (s.ship.length - i) i x = bestF ⟨w, s, (dangerE w s).1⟩ s.ship.length 0 sta0) (0, sta0, l0, c0, Option.none, 0, [], []) ⟨Nat.zero_le _, sta0_ok, hmk0, rfl, OwnS.nil, rfl⟩ ⟨rfl, rfl, rfl, rfl, rfl, rfl, True.intro⟩ sb ?_
  rintro ⟨i, x, l, c, oa, cp, C, pre⟩ ⟨hin, hx, hmk, hpl, hown, hbf⟩ IH
  change VRun _ _ _ _ _ [(4, .slice oa i cp), (5, I (mostF ⟨w, s, (dangerE w s).1⟩ s.ship.length 0 sta0)), (7, ptr b3), (9, ptr b5), (10, ptr b6), (11, ptr b7)] _ ((bm, mPc l c) :: (b7, blk [I (i : Int), I x.md, I x.qu] 119) :: (b6, blk [.func (.func 57) #[] #[ptr b3, ptr b5]] 123) :: (b5, blk [.func (.func 61) #[] #[ptr b3, ptr b4, ptr b6]] 115) :: (b4, blk [.map (some bm)] 114) :: (b3, blk (clLg ⟨h, oa1, c1⟩ ⟨w, s, (dangerE w s).1⟩) 111) :: (C ++ (B ++ ((b2, blk (clSc h s) 83) :: (b1, blk (clWn w) 78) :: H)))) _
  refine vseq (vseq ?_)
  refine DR [(.q, 0), (.q, 1), (.q, 2), (.q, 3), (.q, 4), (.q, 5)] Tryz.mixed ?_
  refine DF ?_
  refine DL ?_
  refine DF ?_
  refine DN ?_
  refine DD (vcp rfl rfl rfl (c_steps h s)) rfl ?_
  refine DS (vdend rfl ?_)
  refine vcondd rfl (fun h35 => ?_) (fun h35 => ?_)
  ·
   obtain ⟨n', hn'⟩ : ∃ n', s.ship.length - i = n' + 1 := ⟨s.ship.length - i - 1, by omega⟩
   obtain ⟨b, hbM, hbl, hbg, hbmin⟩ := bestM_min ⟨w, s, (dangerE w s).1⟩ (by simp only; omega) n' i x
   have hbl2 : b < w.soft.toNat + 2 := hbl
   refine vskip (vblock (KK2 (QA (vnil (vseq (vblock ?_))))))
   refine vwhile (σ := Nat × List EnP × Nat) (fun ⟨m, l1, c3⟩ => b - m) (fun ⟨m, l1, c3⟩ => [(4, .slice oa i cp), (5, I (mostF ⟨w, s, (dangerE w s).1⟩ s.ship.length 0 sta0)), (7, ptr b3), (9, ptr b5), (10, ptr b6), (11, ptr b7), (12, I (m : Int))]) (fun ⟨m, l1, c3⟩ => (bm, mPc l1 c3) :: (b7, blk [I (i : Int), I x.md, I x.qu] 119) :: (b6, blk [.func (.func 57) #[] #[ptr b3, ptr b5]] 123) :: (b5, blk [.func (.func 61) #[] #[ptr b3, ptr b4, ptr b6]] 115) :: (b4, blk [.map (some bm)] 114) :: (b3, blk (clLg ⟨h, oa1, c1⟩ ⟨w, s, (dangerE w s).1⟩) 111) :: (C ++ (B ++ ((b2, blk (clSc h s) 83) :: (b1, blk (clWn w) 78) :: H)))) (fun ⟨m, l1, c3⟩ => m ≤ b ∧ MK ⟨w, s, (dangerE w s).1⟩ l1) (0, l, c) ⟨Nat.zero_le _, hmk⟩ ⟨rfl, rfl, rfl, rfl, rfl, rfl, rfl, True.intro⟩ sb ?_
   rintro ⟨m, l1, c3⟩ ⟨hm, hmk1⟩ IH1
   change VRun _ _ _ _ _ [(4, .slice oa i cp), (5, I (mostF ⟨w, s, (dangerE w s).1⟩ s.ship.length 0 sta0)), (7, ptr b3), (9, ptr b5), (10, ptr b6), (11, ptr b7), (12, I (m : Int))] _ ((bm, mPc l1 c3) :: (b7, blk [I (i : Int), I x.md, I x.qu] 119) :: (b6, blk [.func (.func 57) #[] #[ptr b3, ptr b5]] 123) :: (b5, blk [.func (.func 61) #[] #[ptr b3, ptr b4, ptr b6]] 115) :: (b4, blk [.map (some bm)] 114) :: (b3, blk (clLg ⟨h, oa1, c1⟩ ⟨w, s, (dangerE w s).1⟩) 111) :: (C ++ (B ++ ((b2, blk (clSc h s) 83) :: (b1, blk (clWn w) 78) :: H)))) _
   refine vseq (vseq ?_)
   refine vdrawP (G0 := [(bm, mPc l1 c3)]) (H0 := (b7, blk [I (i : Int), I x.md, I x.qu] 119) :: (b6, blk [.func (.func 57) #[] #[ptr b3, ptr b5]] 123) :: (b5, blk [.func (.func 61) #[] #[ptr b3, ptr b4, ptr b6]] 115) :: (b4, blk [.map (some bm)] 114) :: (b3, blk (clLg ⟨h, oa1, c1⟩ ⟨w, s, (dangerE w s).1⟩) 111) :: (C ++ (B ++ ((b2, blk (clSc h s) 83) :: (b1, blk (clWn w) 78) :: H)))) (.refl _) [(.q, 0), (.q, 1), (.q, 2), (.q, 4), (.q, 5), (.e, 3), (.e, 6), (.q, 7)] Tryz.mixed (by kernel_rfl) (allocOk_of _ (by kernel_rfl)) ?_
   refine DL ?_
   refine DN ?_
   refine DM ?_
   refine DL ?_
   refine DN ?_
   refine vde (mone rfl) (vcg (R := fun v H' => ∃ G2, H' = G2 ++ ((b7, blk [I (i : Int), I x.md, I x.qu] 119) :: (b6, blk [.func (.func 57) #[] #[ptr b3, ptr b5]] 123) :: (b5, blk [.func (.func 61) #[] #[ptr b3, ptr b4, ptr b6]] 115) :: (b4, blk [.map (some bm)] 114) :: (b3, blk (clLg ⟨h, oa1, c1⟩ ⟨w, s, (dangerE w s).1⟩) 111) :: (C ++ (B ++ ((b2, blk (clSc h s) 83) :: (b1, blk (clWn w) 78) :: H)))) ∧ (v = I (gainF ⟨w, s, (dangerE w s).1⟩ n' i x m) ∧ ∃ l' c', G2 = [(bm, mPc l' c')] ∧ MK ⟨w, s, (dangerE w s).1⟩ l')) rfl rfl rfl (gain_all ⟨w, s, (dangerE w s).1⟩ n' ((b7, blk [I (i : Int), I x.md, I x.qu] 119) :: (b6, blk [.func (.func 57) #[] #[ptr b3, ptr b5]] 123) :: (b5, blk [.func (.func 61) #[] #[ptr b3, ptr b4, ptr b6]] 115) :: (b4, blk [.map (some bm)] 114) :: (b3, blk (clLg ⟨h, oa1, c1⟩ ⟨w, s, (dangerE w s).1⟩) 111) :: (C ++ (B ++ ((b2, blk (clSc h s) 83) :: (b1, blk (clWn w) 78) :: H)))) ⟨h, oa1, c1⟩ b3 b4 b5 b6 bm i x m l1 c3 (hB C).cons (by omega) (by simp only; omega) hx hmk1) (fun o H' ⟨o', h1, h2, l', c', h3, h4⟩ => ⟨_, h2, [(bm, o')], h1, rfl, l', c', by rw [h3], h4⟩)) rfl rfl ?_
   rintro _ _ ⟨rfl, lg, cg, rfl, hmk2⟩
   refine vde (mone rfl) (vcg (R := fun v H' => ∃ G2, H' = G2 ++ ((b7, blk [I (i : Int), I x.md, I x.qu] 119) :: (b6, blk [.func (.func 57) #[] #[ptr b3, ptr b5]] 123) :: (b5, blk [.func (.func 61) #[] #[ptr b3, ptr b4, ptr b6]] 115) :: (b4, blk [.map (some bm)] 114) :: (b3, blk (clLg ⟨h, oa1, c1⟩ ⟨w, s, (dangerE w s).1⟩) 111) :: (C ++ (B ++ ((b2, blk (clSc h s) 83) :: (b1, blk (clWn w) 78) :: H)))) ∧ (v = I (mostF ⟨w, s, (dangerE w s).1⟩ (n' + 1) i x) ∧ ∃ l' c', G2 = [(bm, mPc l' c')] ∧ MK ⟨w, s, (dangerE w s).1⟩ l')) rfl rfl rfl (most_all ⟨w, s, (dangerE w s).1⟩ (n' + 1) ((b7, blk [I (i : Int), I x.md, I x.qu] 119) :: (b6, blk [.func (.func 57) #[] #[ptr b3, ptr b5]] 123) :: (b5, blk [.func (.func 61) #[] #[ptr b3, ptr b4, ptr b6]] 115) :: (b4, blk [.map (some bm)] 114) :: (b3, blk (clLg ⟨h, oa1, c1⟩ ⟨w, s, (dangerE w s).1⟩) 111) :: (C ++ (B ++ ((b2, blk (clSc h s) 83) :: (b1, blk (clWn w) 78) :: H)))) ⟨h, oa1, c1⟩ b3 b4 b5 b6 bm i x lg cg (hB C).cons (by omega) (by simp only; omega) hx hmk2) (fun o H' ⟨o', h1, h2, l', c', h3, h4⟩ => ⟨_, h2, [(bm, o')], h1, rfl, l', c', by rw [h3], h4⟩)) rfl rfl ?_
   rintro _ _ ⟨rfl, l2, c2, rfl, hmk3⟩
   refine DG (vdend rfl ?_)
   refine vcondd rfl (fun h43 => ?_) (fun h43 => ?_)
   ·
    refine vskip (vblock (vregion (QM ?_)))
    refine QQ (vadd rfl rfl (by unfold InR; omega)) rfl ?_
    refine QA (vnil (vinblock ?_))
    have hmb : m ≠ b := fun e => h43 (e ▸ hbg)
    exact vback (IH1 (m + 1, l2, c2) ⟨by omega, hmk3⟩ (by show _ - (m + 1) < _ - m; omega)) ⟨rfl, rfl, rfl, rfl, rfl, rfl, rfl, True.intro⟩ sb2
   ·
    have hmb : m = b := by rcases Nat.lt_or_ge m b with hlt | hge; exact absurd (Classical.not_not.1 h43) (hbmin m hlt); omega
    refine vexit (k' := _) rfl ?_
    refine KK2 (QM ?_)
    refine QM ?_
    refine vone rfl (vxg (vbs rfl rfl rfl rfl rfl rfl) rfl rfl ?_)
    rintro _ _ ⟨bn, rfl, rfl⟩
    refine vone rfl (vxg (vappF (a := ⟨bn, 0, Option.none⟩) (m := 1) (c := 1) (size := 1) (bytes := 8) (F := fun X => (bn, blk [I (m : Int)] 3) :: (bm, mPc l2 c2) :: (b7, blk [I (i : Int), I x.md, I x.qu] 119) :: (b6, blk [.func (.func 57) #[] #[ptr b3, ptr b5]] 123) :: (b5, blk [.func (.func 61) #[] #[ptr b3, ptr b4, ptr b6]] 115) :: (b4, blk [.map (some bm)] 114) :: (b3, blk (clLg ⟨h, oa1, c1⟩ ⟨w, s, (dangerE w s).1⟩) 111) :: (X ++ (B ++ ((b2, blk (clSc h s) 83) :: (b1, blk (clWn w) 78) :: H)))) (B := C) (xs := pre.flatMap encI) (news := [I (m : Int)]) (fun X => perm_mid [(bn, blk [I (m : Int)] 3), (bm, mPc l2 c2), (b7, blk [I (i : Int), I x.md, I x.qu] 119), (b6, blk [.func (.func 57) #[] #[ptr b3, ptr b5]] 123), (b5, blk [.func (.func 61) #[] #[ptr b3, ptr b4, ptr b6]] 115), (b4, blk [.map (some bm)] 114), (b3, blk (clLg ⟨h, oa1, c1⟩ ⟨w, s, (dangerE w s).1⟩) 111)] X (B ++ ((b2, blk (clSc h s) 83) :: (b1, blk (clWn w) 78) :: H))) rfl rfl hown rfl (news_blk (b := bn) (List.Mem.head _)) (fun u hu => by rw [List.mem_singleton.1 hu]; rfl) (by omega) (by simp only [maxLen]; omega) (by omega)) rfl rfl ?_)
    rintro _ _ ⟨C2, hown2, _, rfl⟩
    obtain ⟨oa2, cp2, rfl, hle2⟩ := hown2.shape
    refine QA (vnil ?_)
    refine DR [(.q, 0), (.q, 1), (.q, 2), (.q, 3), (.q, 4), (.q, 5), (.q, 6), (.q, 7), (.q, 8), (.q, 9), (.q, 10), (.c, 11)] Tryz.mixed ?_
    refine DF ?_
    refine DL ?_
    refine DD (vadd rfl rfl (by unfold InR; omega)) rfl ?_
    refine DN ?_
    refine DF ?_
    refine DL ?_
    refine DF ?_
    refine DN ?_
    refine DM ?_
    refine DD (vcq rfl rfl rfl (c_after ⟨h, oa1, c1⟩ ⟨w, s, (dangerE w s).1⟩ _ i (by simp only; omega) x hx m)) rfl ?_
    refine DB ?_
    refine vdcs (mone rfl) (vstn rfl rfl rfl rfl rfl) rfl ?_
    refine vdend rfl (vinblock ?_)
    exact vback (IH (i + 1, afterP ⟨w, s, (dangerE w s).1⟩ i x m, l2, c2, oa2, cp2, C2, pre ++ [(m : Int)]) ⟨by omega, after_okSt hw0 _ _ _, hmk3, by simp [hpl], by rw [List.flatMap_append]; exact hown2, by rw [← hbf, hn', bestF_succ, hbM, ← hmb, List.append_assoc, show s.ship.length - (i + 1) = n' by omega]; rfl⟩ (by show _ - (i + 1) < _ - i; omega)) ⟨rfl, rfl, rfl, rfl, rfl, rfl, True.intro⟩ sb2
  ·
   refine vexit (k' := _) rfl ?_
   refine KK2 (QM ?_)
   refine QM ?_
   refine QA ?_
   refine QA ?_
   refine QA (vnil ?_)
   refine vret (vr3 (H' := C ++ (B ++ H)) Tryz.func41 rfl (.tmp rfl) (.tmp rfl) (.tmp rfl) sb2 ?_)
   (have hi : i = s.ship.length := (by omega); subst hi; rw [best_y h20, ← hbf, Nat.sub_self]; simp only [bestF, List.append_nil]; exact ⟨_, rfl, C ++ B, by rw [List.append_assoc], oa, cp, by rw [hpl], (OwnS.slo (enc := encI) (l := pre) hown encI_len (by decide) rfl hpl).appLB⟩)
end Go.Proofs.YtoebpndlbldfcaaGreatDoor
namespace Go.Proofs.YtoebpndlbldfcaaGreatDoor
open Go
set_option maxRecDepth 100000
def wT : Wn := ⟨5, 2, 3, 1, 0, 1, 0⟩
def scT : Sc := ⟨[zR, zR, zR], [zR, zR, zR], [true, true, true], [false, false, false], []⟩
theorem smallT : smallR zR := by
  refine ⟨by unfold zR Rg.ok; decide, by decide, by decide, by kernel_rfl⟩
theorem okW_T : okW wT := by unfold okW wT; decide
theorem okSc_T : okSc scT := by
  refine ⟨by decide, by decide, by decide, by decide, by decide, ?_, ?_, ?_, ?_⟩
  · intro r hr; rw [show r = zR by simp [scT] at hr; exact hr]; exact smallT
  · intro r hr; rw [show r = zR by simp [scT] at hr; exact hr]; exact smallT
  · intro x hx; cases hx
  · intro i x y hx hy; cases hx
theorem chkS_T : chkS scT = 0 := chkS_t okSc_T
theorem both_T : ¬ bothE wT (chkS scT) ≠ 0 := by rw [chkS_T]; unfold bothE; rw [if_pos (chkW_t okW_T)]; simp
theorem risk_T : riskP wT scT = some [false, false, false] := by kernel_rfl
theorem danger_T : dangerE wT scT = ([false, false, false], 0) := danger_y both_T risk_T
theorem dang0_T : ¬ (dangerE wT scT).2 ≠ 0 := by rw [danger_T]; simp
def gT : Lg := ⟨wT, scT, [false, false, false]⟩
theorem best_T : bestE wT scT = ([0, 1, 2], 1, 0) := by
  rw [best_y dang0_T, danger_T]
  have h1 : bestF gT 3 0 sta0 = [0, 1, 2] := by kernel_rfl
  have h2 : mostF gT 3 0 sta0 = 1 := by kernel_rfl
  show (bestF gT 3 0 sta0, mostF gT 3 0 sta0, (0 : Int)) = _
  rw [h1, h2]
theorem guard_T : guardE wT 20 1 = (4, 0) := by kernel_rfl
end Go.Proofs.YtoebpndlbldfcaaGreatDoor
namespace Go.Proofs.YtoebpndlbldfcaaGreatDoor
open Go
set_option maxRecDepth 100000
attribute [local irreducible] tightP hullP rootP farP rows endsOf meetE gapE winR goV tabE bestE guardE
theorem veqK {P : Program} {N : Nat} {E : Env} {D : List Deferred} {H : Heap} {d : Nat} {x y : Operand} {T ty T' : TypeId} {pos : String} {af : Array Edge} {g : Option (Nat × Bool)} {u v : Value} {b : Bool} (hx : ev E x = some u) (hy : ev E y = some v) (h1 : ∀ w, (eqGuard .eql T x y u v).run P w = .ok () w) (h2 : ∀ w, (binOp .eql T u v).run P w = .ok (.bool b) w) :
    OQ P N E D H ⟨some d, .binOp .eql T x y T', ty, pos, af, g⟩ (.bool b) :=
  ov (by simp) (fun t w hA hE => by
    simp only [execOp, ev_eval hA hx, ev_eval hA hy, Sem.run_bind, h1, Result.andThen, h2, Sem.run_pure])
theorem vmksP {P : Program} {N : Nat} {E : Env} {D : List Deferred} {d : Nat} {x y : Operand} {T ty : TypeId} {pos : String} {af : Array Edge} {g : Option (Nat × Bool)} {n e esz by_ : Nat} {zs : List Value} [hT : TMs P T e esz by_ zs] (hx : ev E x = some (.int .i64 (n : Int))) (hy : ev E y = some (.int .i64 (n : Int))) (hz : zs.length = esz) (h0 : 0 < esz) (hn : by_ * n ≤ 281474976710656) (h6 : n ≤ 9223372036854775807) :
    ∀ t, Agree N E t → Psh P D ⟨some d, .makeSlice T x y, ty, pos, af, g⟩ t (fun b => .slice (some ⟨b, 0, Option.none⟩) n n) (blk (rep n zs) e) := by
  intro t hA w
  obtain ⟨i, z, h1, h2, h3, h4, h5⟩ := hT.inf
  have hb' : (i.bytes : Int) * (n : Int) ≤ 281474976710656 := by
    have h : ((i.bytes * n : Nat) : Int) ≤ 281474976710656 := by rw [h5]; omega
    rwa [Int.natCast_mul] at h
  have hr := run_make (P := P) w T e i z hT.und h1 h2 .i64 .i64 n n (by omega) (Int.le_refl _) hb' (by omega)
  have hm : madeCells z.cells (n * i.size) = (rep n zs).toArray := by
    unfold madeCells
    apply Array.ext'
    rw [h3, h4]
    refine List.ext_getElem? fun j => ?_
    by_cases hj : j < n * esz
    · have hp := Nat.mod_lt j h0
      simp only [Array.toList_map, Array.toList_range, List.getElem?_map, List.getElem?_range hj, Option.map_some]
      rw [rep_get _ _ _ (by rw [hz]; exact hj)]
      simp only [List.size_toArray, hz]
      rw [getElem!_pos _ _ (by simp [hz, hp])]
      simp [hz, hp]
    · have h5 : (rep n zs)[j]? = Option.none := List.getElem?_eq_none (by rw [rep_len, hz]; omega)
      have h6 : ((Array.range (n * esz)).map (fun i => zs.toArray[i % zs.toArray.size]!)).toList[j]? = Option.none := List.getElem?_eq_none (by simp; omega)
      rw [h6, h5]
  simp only [Int.toNat_natCast, hm] at hr
  simp only [execOp, ev_eval hA hx, ev_eval hA hy, hr, Sem.run_bind, Result.andThen, Sem.run_pure]
  rfl
instance tMsR : TMs Tryz.prog 79 134 8 64 [I 0, I 0, I 0, I 0, I 0, I 0, I 0, I 0] := mkTMs (z := .agg [I 0, I 0, I 0, I 0, I 0, I 0, I 0, I 0].toArray) (by kernel_rfl) (by kernel_rfl) rfl
instance tMsB : TMs Tryz.prog 80 4 1 1 [.bool false] := mkTMs (z := .bool false) (by kernel_rfl) (by kernel_rfl) rfl
abbrev encSh (x : Int × Int × Bool) : List Value := [I x.1, I x.2.1, .bool x.2.2]
abbrev shT (b1 b2 b3 b4 : Nat) : SH := ⟨some ⟨b1, 0, Option.none⟩, 3, some ⟨b2, 0, Option.none⟩, 3, some ⟨b3, 0, Option.none⟩, 3, some ⟨b4, 0, Option.none⟩, 3, Option.none, 0⟩
theorem sc_T {H : Heap} {b1 b2 b3 b4 : Nat} {T1 T2 T3 T4 : TypeId} {cr cr' cb cb' : List Value} (h1 : (b1, blk cr T1) ∈ H) (h2 : (b2, blk cr' T2) ∈ H) (h3 : (b3, blk cb T3) ∈ H) (h4 : (b4, blk cb' T4) ∈ H)
    (e1 : cr = [zR, zR, zR].flatMap clR) (e2 : cr' = [zR, zR, zR].flatMap clR) (e3 : cb = [true, true, true].flatMap encB) (e4 : cb' = [false, false, false].flatMap encB) : ScO H (shT b1 b2 b3 b4) scT := by
  haveI a1 : HAt H b1 cr T1 := ⟨h1⟩
  haveI a2 : HAt H b2 cr' T2 := ⟨h2⟩
  haveI a3 : HAt H b3 cb T3 := ⟨h3⟩
  haveI a4 : HAt H b4 cb' T4 := ⟨h4⟩
  exact ⟨SlO.flat (fun _ => rfl) e1, SlO.flat (fun _ => rfl) e2, SlO.flat (fun _ => rfl) e3, SlO.flat (fun _ => rfl) e4, SlO.nil, ⟨Nat.le_refl 3, Nat.le_refl 3⟩, (fun x hx => by cases hx), by decide⟩
theorem w_BestT (h : SH) (H : Heap) [hsc : ScO H h scT] [hgl : Glob H] : VCall Tryz.prog 41 [vWn wT, vSc h scT].toArray H (fun o H' => ∃ v, o = .val v ∧ ∃ B, H' = B ++ H ∧ ∃ oa c, v = tup [.slice oa 3 c, I 1, I 0] ∧ SlO B oa 1 encI [0, 1, 2]) := by
  refine (d_Best wT h scT H).mono fun o H' ⟨v, h1, B, h2, oa, c, h3, h5⟩ => ⟨v, h1, B, h2, oa, c, ?_, ?_⟩
  · rw [h3, best_T]; rfl
  · rw [best_T] at h5; exact h5
theorem w_GuardT : VPure Tryz.prog 42 [vWn wT, I 20, I 1] (tup [I 4, I 0]) := by
  have := c_Guard wT 20 1
  rw [guard_T] at this; exact this
theorem q_watched (H : Heap) [hgl : Glob H] : VHas Tryz.prog 31 [] (.bool true) H H := by
 refine CV 72 Tryz.func31 ?_
 refine KK2 (QA (KK3 ?_))
 refine QB ?_
 refine AL fun b1 => ?_
 refine SN (vnil (vseq ?_))
 refine vdraw [(.m, 0), (.m, 1), (.m, 2), (.m, 3), (.q, 4), (.a (blk [.slice Option.none 0 0, .slice Option.none 0 0, .slice Option.none 0 0, .slice Option.none 0 0, .slice Option.none 0 0] (83)), 5), (.s, 6)] Tryz.mixed (by kernel_rfl) ⟨⟨_, _, _, _, _, rfl, _, inferInstance, rfl⟩, True.intro⟩ ?_
 refine vdm (mone rfl) (vmksP (n := 3) (esz := 8) (by_ := 64) (zs := [I 0, I 0, I 0, I 0, I 0, I 0, I 0, I 0]) rfl rfl rfl (by decide) (by decide) (by decide)) rfl rfl (fun n1 => ?_)
 refine vdm (mone rfl) (vmksP (n := 3) (esz := 8) (by_ := 64) (zs := [I 0, I 0, I 0, I 0, I 0, I 0, I 0, I 0]) rfl rfl rfl (by decide) (by decide) (by decide)) rfl rfl (fun n2 => ?_)
 refine vdm (mone rfl) (vbsP rfl rfl rfl rfl rfl rfl) rfl rfl (fun n3 => ?_)
 refine vdm (mone rfl) (vmksP (n := 3) (esz := 1) (by_ := 1) (zs := [.bool false]) rfl rfl rfl (by decide) (by decide) (by decide)) rfl rfl (fun n4 => ?_)
 refine DB ?_
 refine vda rfl rfl (fun b2 => ?_)
 refine vds (mone rfl) (vstn rfl rfl rfl rfl rfl) rfl ?_
 refine vdend rfl (KK2 (QN ?_))
 refine QN ?_
 refine vone rfl (vxg (vcg rfl rfl rfl (w_BestT (hsc := sc_T (b1 := n1) (b2 := n2) (b3 := n3) (b4 := n4) (by repeat first | exact List.Mem.head _ | refine List.Mem.tail _ ?_) (by repeat first | exact List.Mem.head _ | refine List.Mem.tail _ ?_) (by repeat first | exact List.Mem.head _ | refine List.Mem.tail _ ?_) (by repeat first | exact List.Mem.head _ | refine List.Mem.tail _ ?_) rfl rfl rfl rfl) (shT n1 n2 n3 n4) _) (fun o H' h => h)) rfl rfl ?_)
 rintro _ _ ⟨BB, rfl, ⟨oa4, c4, rfl, hk5⟩⟩
 refine QM ?_
 refine QX ?_
 refine QX ?_
 refine QX ?_
 refine QA ?_
 refine QA ?_
 refine QA (KK3 ?_)
 refine QN ?_
 refine QQ (vcp rfl rfl rfl (w_GuardT)) rfl ?_
 refine QM ?_
 refine QX ?_
 refine QX ?_
 refine QA ?_
 refine QA (KK3 ?_)
 refine QB ?_
 refine vone rfl (vxg (vbs rfl rfl rfl rfl rfl rfl) rfl rfl ?_)
 rintro _ _ ⟨n5, rfl, rfl⟩
 refine vone rfl (vxg (vcg (R := fun v H' => ∃ oa' c' B, v = tup [.slice oa' 1 c', I 0] ∧ H' = B ++ _ ∧ OwnS 93 3 (.slice oa' 1 c') 1 [I 1, I 0, .bool false] B) rfl rfl rfl (d_Fire0 (hs := SlO.flat (b := n5) (fun _ => rfl) (by rfl)) (some ⟨n5, 0, Option.none⟩) 2 _) (fun o H' ⟨oa', c', B, e1, e2, e3⟩ => ⟨_, e1, oa', c', B, rfl, e2, e3⟩)) rfl rfl ?_)
 rintro _ _ ⟨oa5, c5, BF, rfl, rfl, hown⟩
 haveI hsF : SlO BF oa5 3 encSh [(1, 0, false)] := OwnS.slo (enc := encSh) (l := [(1, 0, false)]) hown (fun _ => rfl) (by decide) rfl rfl
 refine QM ?_
 refine QX ?_
 refine QX ?_
 refine QA ?_
 refine QA (KK3 ?_)
 refine QM ?_
 refine QE ?_
 refine vknow (d := 35) (b' := true) rfl rfl ?_
 refine QM ?_
 refine YM ?_
 refine YE ?_
 refine vknow (d := 38) (b' := true) rfl rfl ?_
 refine QT ?_
 refine QM ?_
 refine YM ?_
 refine YE ?_
 refine vknow (d := 42) (b' := true) rfl rfl ?_
 refine QT ?_
 refine QM ?_
 refine YM ?_
 refine vyes rfl rfl rfl (vxg (vbs rfl rfl rfl rfl rfl rfl) rfl rfl ?_)
 rintro _ _ ⟨n6, rfl, rfl⟩
 refine YY (vcq rfl rfl rfl (c_AlikeI (SlO0 := inferInstance) (SlO1 := SlO.flat (b := n6) (fun _ => rfl) (by rfl)) [0, 1, 2] [0, 1, 2] oa4 (some ⟨n6, 0, Option.none⟩) 3 3 c4 3 rfl rfl (by decide) _)) rfl ?_
 refine vknow (d := 47) (b' := true) rfl (by decide) ?_
 refine QT ?_
 refine QM ?_
 refine YM ?_
 refine YE ?_
 refine vknow (d := 51) (b' := true) rfl rfl ?_
 refine QT ?_
 refine QM ?_
 refine YM ?_
 refine YE ?_
 refine vknow (d := 55) (b' := true) rfl rfl ?_
 refine QT ?_
 refine QM ?_
 refine YM ?_
 refine YY (vlen rfl) rfl ?_
 refine YE ?_
 refine vknow (d := 60) (b' := true) rfl rfl ?_
 refine QT ?_
 refine QM ?_
 refine YM ?_
 refine YY (visg (enc := encSh) (xs := [(1, 0, false)]) (z := (1, 0, false)) rfl rfl (by decide) rfl) rfl ?_
 refine YY (vldS (enc := encSh) (xs := [(1, 0, false)]) (z := (1, 0, false)) rfl rfl) rfl ?_
 refine YB ?_
 refine YY (veqK (b := true) rfl rfl (fun w => by kernel_rfl) (fun w => by kernel_rfl)) rfl ?_
 refine vknow (d := 67) (b' := true) rfl rfl ?_
 refine QT ?_
 refine QM ?_
 refine YY (vcq rfl rfl rfl (q_steered _)) rfl ?_
 refine vknow (d := 70) (b' := true) rfl rfl ?_
 refine QT ?_
 refine QA (vnil ?_)
 refine vret (V1 (H) Tryz.func31 ?_)
 exact ⟨rfl, rfl⟩
end Go.Proofs.YtoebpndlbldfcaaGreatDoor
namespace Go.Proofs.YtoebpndlbldfcaaGreatDoor
open Go
set_option maxRecDepth 100000
attribute [local irreducible] tightP hullP rootP farP rows endsOf valM ringF unF addR
abbrev exL : List Int := [8, 0, 0, 4, 0]
theorem exR : ringF exL (2 : Int).toNat 32 exL.length = [8, 0, 4, 4, 2] := by kernel_rfl
theorem exG : gdR exL 2 32 := ⟨of_decide_eq_true (by kernel_rfl), by rw [exR]; exact of_decide_eq_true (by kernel_rfl)⟩
theorem exW : gdW exL 2 32 := ⟨of_decide_eq_true (by kernel_rfl), by rw [exR]; exact of_decide_eq_true (by kernel_rfl)⟩
theorem d_RingE (oa : Option Addr) (H : Heap) (hsl : SlO H oa 1 encI exL) : VCall Tryz.prog 4 [.slice oa 5 5, I 2, I 32].toArray H (fun o H' => ∃ v, o = .val v ∧ ∃ B, H' = B ++ H ∧ ∃ oo co, v = tup [.slice oo 5 co, I 0] ∧ SlO B oo 1 encI [8, 0, 4, 4, 2]) :=
  (d_Ring exL oa 5 H (hsl := hsl) (by decide) 2 32).mono fun o H' ⟨v, h1, B, h2, h3⟩ => by
    rcases h3 with ⟨h4, _⟩ | ⟨_, oo, co, h5, h6⟩
    · exact absurd exG h4
    · rw [exR] at h6; exact ⟨v, h1, B, h2, oo, co, h5, h6⟩
theorem d_WithE (oa : Option Addr) (H : Heap) (hsl : SlO H oa 1 encI exL) : VCall Tryz.prog 5 [.slice oa 5 5, I 2, I 32].toArray H (fun o H' => ∃ v, o = .val v ∧ ∃ B, H' = B ++ H ∧ ∃ oo co, v = tup [.slice oo 5 co, I 0] ∧ SlO B oo 1 encI [8, 0, 4, 4, 2]) :=
  (d_With exL oa 5 H (hsl := hsl) (by decide) 2 32).mono fun o H' ⟨v, h1, B, h2, h3⟩ => by
    rcases h3 with ⟨h4, _⟩ | ⟨_, oo, co, h5, h6⟩
    · exact absurd exW h4
    · rw [exR] at h6; exact ⟨v, h1, B, h2, oo, co, h5, h6⟩
theorem d_Again1 (oa : Option Addr) (H : Heap) (hs0 : SlO H oa 1 encI [3, 5]) : VCall Tryz.prog 29 [.slice oa 2 2, I 1, I 9].toArray H (fun o H' => ∃ v, o = .val v ∧ ∃ B, H' = B ++ H ∧ ∃ oo co, v = tup [.slice oo 1 co, I 4, I 0] ∧ SlO B oo 2 (fun l : List Value => l) [[I 3, I 5]]) :=
  (d_Again0 oa 2 H (hs0 := hs0)).mono fun o H' ⟨oo, co, B, h1, h2, h3⟩ => ⟨_, h1, B, h2, oo, co, rfl, ⟨fun i x hx => by
    have h4 : SlO B oo 2 (fun p : Int × Int => [I p.1, I p.2]) [(3, 5)] := OwnS.slo (enc := fun p : Int × Int => [I p.1, I p.2]) (l := [(3, 5)]) h3 (fun _ => rfl) (by decide) rfl rfl
    cases i with
    | zero => cases hx; exact h4.el 0 (3, 5) rfl
    | succ i => cases hx⟩⟩
theorem q_taped (H : Heap) [hgl : Glob H] [hg : Tabs H] : VHas Tryz.prog 21 [] (.bool true) H H := by
 refine CV 68 Tryz.func21 ?_
 refine KK2 (QA (KK3 ?_))
 refine QB ?_
 refine QB ?_
 refine vone rfl (vxg (vbs rfl rfl rfl rfl rfl rfl) rfl rfl ?_)
 rintro _ _ ⟨b1, rfl, rfl⟩
 refine QQ (vcq rfl rfl rfl (q_PrintMarks0 (hm := HAt.head) b1 _)) rfl ?_
 refine QM ?_
 refine QX ?_
 refine QX ?_
 refine QA ?_
 refine QA (KK3 ?_)
 refine vone rfl (vxg (vbs rfl rfl rfl rfl rfl rfl) rfl rfl ?_)
 rintro _ _ ⟨b2, rfl, rfl⟩
 refine vone rfl (vxg (vcg rfl rfl rfl (d_Again1 (some ⟨b2, 0, Option.none⟩) _ (SlO.flat (b := b2) (fun _ => rfl) (by rfl))) (fun o H' h => h)) rfl rfl ?_)
 rintro _ _ ⟨BA, rfl, ⟨oo, co, rfl, hsA⟩⟩
 refine QM ?_
 refine QX ?_
 refine QX ?_
 refine QX ?_
 refine QA ?_
 refine QA ?_
 refine QA (KK3 ?_)
 refine QB ?_
 refine vone rfl (vxg (vbs rfl rfl rfl rfl rfl rfl) rfl rfl ?_)
 rintro _ _ ⟨b3, rfl, rfl⟩
 refine QB ?_
 refine QB ?_
 refine QB ?_
 refine QQ (vcq rfl rfl rfl (q_Cell0 (hs0 := (SlO.flat (b := b3) (fun _ => rfl) (by rfl))) (some ⟨b3, 0, Option.none⟩) 1 _)) rfl ?_
 refine QM ?_
 refine QX ?_
 refine QX ?_
 refine AL fun b4 => ?_
 refine SN ?_
 refine QA (KK3 ?_)
 refine QM ?_
 refine QKb (.bool true) ?_
 refine QM ?_
 refine YM ?_
 refine YY (vbinK (r := .bool true) rfl rfl (fun _ => by kernel_rfl) (fun _ => by kernel_rfl)) rfl ?_
 refine QT ?_
 refine QM ?_
 refine YM ?_
 refine YY (vbinK (r := .bool true) rfl rfl (fun _ => by kernel_rfl) (fun _ => by kernel_rfl)) rfl ?_
 refine QT ?_
 refine QM ?_
 refine YM ?_
 refine YY (vbinK (r := .bool true) rfl rfl (fun _ => by kernel_rfl) (fun _ => by kernel_rfl)) rfl ?_
 refine QT ?_
 refine QM ?_
 refine YM ?_
 refine YY (vlen rfl) rfl ?_
 refine YE ?_
 refine QT ?_
 refine QM ?_
 refine YM ?_
 refine YY (visg (enc := fun l : List Value => l) (xs := [[I 3, I 5]]) (z := [I 3, I 5]) rfl rfl (by decide) rfl) rfl ?_
 refine YY (vldS (enc := fun l : List Value => l) (xs := [[I 3, I 5]]) (z := [I 3, I 5]) rfl rfl) rfl ?_
 refine YB ?_
 refine YY (veqs rfl rfl rfl rfl rfl rfl) rfl ?_
 refine vknow (d := 54) (b' := true) rfl (by decide) ?_
 refine QT ?_
 refine QM ?_
 refine YM ?_
 refine YY (vbinK (r := .bool true) rfl rfl (fun _ => by kernel_rfl) (fun _ => by kernel_rfl)) rfl ?_
 refine QT ?_
 refine QM ?_
 refine YN ?_
 refine YB ?_
 refine YY (veqs rfl rfl rfl rfl rfl rfl) rfl ?_
 refine vknow (d := 63) (b' := true) rfl (by decide) ?_
 refine QT ?_
 refine QM ?_
 refine YY (vcq rfl rfl rfl (q_watched _)) rfl ?_
 refine vknow (d := 66) (b' := true) rfl rfl ?_
 refine QT ?_
 refine QA (vnil ?_)
 refine vret (V1 (H) Tryz.func21 ?_)
 exact ⟨rfl, rfl⟩
theorem q_imaged (H : Heap) [hgl : Glob H] [hg : Tabs H] : VHas Tryz.prog 9 [] (.bool true) H H := by
 refine CV 62 Tryz.func9 ?_
 refine KK2 (QA (KK3 ?_))
 refine QQ (vcp rfl rfl rfl (c_Time0)) rfl ?_
 refine QM ?_
 refine QX ?_
 refine QX ?_
 refine QA ?_
 refine QA (KK3 ?_)
 refine vone rfl (vxg (vbs rfl rfl rfl rfl rfl rfl) rfl rfl ?_)
 rintro _ _ ⟨b1, rfl, rfl⟩
 refine vone rfl (vxg (vcg rfl rfl rfl (d_RingE (some ⟨b1, 0, Option.none⟩) _ (SlO.flat (b := b1) (fun _ => rfl) (by rfl))) (fun o H' h => h)) rfl rfl ?_)
 rintro _ _ ⟨BR, rfl, ⟨o1, c1, rfl, hs1⟩⟩
 refine QM ?_
 refine QX ?_
 refine QX ?_
 refine QA ?_
 refine QA (KK3 ?_)
 refine vone rfl (vxg (vbs rfl rfl rfl rfl rfl rfl) rfl rfl ?_)
 rintro _ _ ⟨b2, rfl, rfl⟩
 refine vone rfl (vxg (vcg rfl rfl rfl (d_WithE (some ⟨b2, 0, Option.none⟩) _ (SlO.flat (b := b2) (fun _ => rfl) (by rfl))) (fun o H' h => h)) rfl rfl ?_)
 rintro _ _ ⟨BW, rfl, ⟨o2, c2, rfl, hs2⟩⟩
 refine QM ?_
 refine QX ?_
 refine QX ?_
 refine QA ?_
 refine QA (KK3 ?_)
 refine QQ (vcp rfl rfl rfl (c_Arrive0)) rfl ?_
 refine QM ?_
 refine QX ?_
 refine QX ?_
 refine QA ?_
 refine QA (KK3 ?_)
 refine QM ?_
 refine QE ?_
 refine vknow (d := 28) (b' := true) rfl rfl ?_
 refine QM ?_
 refine YM ?_
 refine YE ?_
 refine vknow (d := 31) (b' := true) rfl rfl ?_
 refine QT ?_
 refine QM ?_
 refine YM ?_
 refine YE ?_
 refine vknow (d := 35) (b' := true) rfl rfl ?_
 refine QT ?_
 refine QM ?_
 refine YM ?_
 refine YE ?_
 refine vknow (d := 39) (b' := true) rfl rfl ?_
 refine QT ?_
 refine QM ?_
 refine YM ?_
 refine YE ?_
 refine vknow (d := 43) (b' := true) rfl rfl ?_
 refine QT ?_
 refine QM ?_
 refine YM ?_
 refine YE ?_
 refine vknow (d := 47) (b' := true) rfl rfl ?_
 refine QT ?_
 refine QM ?_
 refine YM ?_
 refine vyes rfl rfl rfl (vxg (vbs rfl rfl rfl rfl rfl rfl) rfl rfl ?_)
 rintro _ _ ⟨b3, rfl, rfl⟩
 refine YY (vcq rfl rfl rfl (c_AlikeI (SlO0 := inferInstance) (SlO1 := (SlO.flat (b := b3) (fun _ => rfl) (by rfl))) [8, 0, 4, 4, 2] [8, 0, 4, 4, 2] _ _ 5 5 _ _ rfl rfl (by decide) _)) rfl ?_
 refine vknow (d := 52) (b' := true) rfl (by decide) ?_
 refine QT ?_
 refine QM ?_
 refine YM ?_
 refine YM ?_
 refine YY (vcq rfl rfl rfl (c_AlikeI (SlO0 := inferInstance) (SlO1 := inferInstance) [8, 0, 4, 4, 2] [8, 0, 4, 4, 2] _ _ 5 5 _ _ rfl rfl (by decide) _)) rfl ?_
 refine vknow (d := 57) (b' := true) rfl (by decide) ?_
 refine QT ?_
 refine QM ?_
 refine YY (vcq rfl rfl rfl (q_taped _)) rfl ?_
 refine vknow (d := 60) (b' := true) rfl rfl ?_
 refine QT ?_
 refine QA (vnil ?_)
 refine vret (V1 (H) Tryz.func9 ?_)
 exact ⟨rfl, rfl⟩
end Go.Proofs.YtoebpndlbldfcaaGreatDoor
namespace Go.Proofs.YtoebpndlbldfcaaGreatDoor
open Go
set_option maxRecDepth 100000
attribute [local irreducible] tightP hullP rootP farP rows endsOf valM ringF unF addR gdR gdW rgOk stOk
section
variable {P : Program} {f : FuncId} {ro : Option Nat} {N : Nat} {k k' : List Item} {E E' : Env} {D : List Deferred} {H H' : Heap} {Q : Out → Heap → Prop}
theorem vjoin {C : Prop} (h2 : (C → VRun P f ro N k' E' D H' Q) → VRun P f ro N k E D H Q) (h1 : C → VRun P f ro N k' E' D H' Q) : VRun P f ro N k E D H Q := h2 h1
end
theorem w_Rings (l : List Int) (oa : Option Addr) (c : Nat) (H : Heap) [hsl : SlO H oa 1 encI l] (hll : l.length ≤ 9223372036854775807) (p q : Int) [hgl : Glob H] [hg : Tabs H] : VHas Tryz.prog 3 [.slice oa l.length c, I p, I q] (.bool true) H H := by
 refine CV 65 Tryz.func3 ?_
 refine KK2 (QA (vnil (vseq ?_)))
 apply vjoin (C := True) (E' := [(0, .slice oa l.length c), (1, I p), (2, I q)]) (H' := H)
 ·
  intro hJ36
  refine vregion (QM ?_)
  refine QM ?_
  refine QM ?_
  refine vone rfl (vxg (vcg rfl rfl rfl (d_Ring l oa c _ hll p q) (fun o H' h => h)) rfl rfl ?_)
  rintro _ _ ⟨B15, rfl, h15⟩
  rcases h15 with ⟨hb15, e15, he15, rfl⟩ | ⟨hb15, o15, c15, rfl, hs15⟩
  ·
   refine QM ?_
   refine QX ?_
   refine QX ?_
   refine QA ?_
   refine QA (KK3 ?_)
   refine QM ?_
   refine QM ?_
   refine QM ?_
   refine vone rfl (vxg (vcg rfl rfl rfl (d_With l oa c _ hll p q) (fun o H' h => h)) rfl rfl ?_)
   rintro _ _ ⟨B22, rfl, h22⟩
   rcases h22 with ⟨hb22, e22, he22, rfl⟩ | ⟨hb22, o22, c22, rfl, hs22⟩
   ·
    refine QM ?_
    refine QX ?_
    refine QX ?_
    refine QA ?_
    refine QA (vnil (vseq (KK2 ?_)))
    refine QM ?_
    refine QE ?_
    refine vknow (d := 26) (b' := false) rfl (decide_eq_false he15) ?_
    refine QM ?_
    refine NO2 ?_
    refine QU ?_
    refine QM ?_
    refine NO4 ?_
    refine QU (vnil ?_)
    refine vcondf rfl ?_
    exact vback (hJ36 True.intro) ⟨rfl, rfl, rfl, True.intro⟩ sb2
   ·
    refine QM ?_
    refine QX ?_
    refine QX ?_
    refine QA ?_
    refine QA (vnil (vseq (KK2 ?_)))
    refine QM ?_
    refine QE ?_
    refine vknow (d := 26) (b' := false) rfl (decide_eq_false he15) ?_
    refine QM ?_
    refine NO2 ?_
    refine QU ?_
    refine QM ?_
    refine NO4 ?_
    refine QU (vnil ?_)
    refine vcondf rfl ?_
    exact vback (hJ36 True.intro) ⟨rfl, rfl, rfl, True.intro⟩ sb2
  ·
   refine QM ?_
   refine QX ?_
   refine QX ?_
   refine QA ?_
   refine QA (KK3 ?_)
   refine QM ?_
   refine QM ?_
   refine QM ?_
   refine vone rfl (vxg (vcg rfl rfl rfl (d_With l oa c _ hll p q) (fun o H' h => h)) rfl rfl ?_)
   rintro _ _ ⟨B22, rfl, h22⟩
   rcases h22 with ⟨hb22, e22, he22, rfl⟩ | ⟨hb22, o22, c22, rfl, hs22⟩
   ·
    refine QM ?_
    refine QX ?_
    refine QX ?_
    refine QA ?_
    refine QA (vnil (vseq (KK2 ?_)))
    refine QM ?_
    refine QE ?_
    refine vknow (d := 26) (b' := true) rfl rfl ?_
    refine QM ?_
    refine YM ?_
    refine YE ?_
    refine vknow (d := 29) (b' := false) rfl (decide_eq_false he22) ?_
    refine QT ?_
    refine QM ?_
    refine NO4 ?_
    refine QU (vnil ?_)
    refine vcondf rfl ?_
    exact vback (hJ36 True.intro) ⟨rfl, rfl, rfl, True.intro⟩ sb2
   ·
    refine QM ?_
    refine QX ?_
    refine QX ?_
    refine QA ?_
    refine QA (vnil (vseq (KK2 ?_)))
    refine QM ?_
    refine QE ?_
    refine vknow (d := 26) (b' := true) rfl rfl ?_
    refine QM ?_
    refine YM ?_
    refine YE ?_
    refine vknow (d := 29) (b' := true) rfl rfl ?_
    refine QT ?_
    refine QM ?_
    refine YM ?_
    refine YM ?_
    refine YY (vcq rfl rfl rfl (c_AlikeI (ringF l p.toNat q l.length) (ringF l p.toNat q l.length) _ _ _ _ _ _ (ring_len l p.toNat q _) (ring_len l p.toNat q _) hll _)) rfl ?_
    refine vknow (d := 34) (b' := true) rfl (decide_eq_true rfl) ?_
    refine YY (vnot rfl) rfl ?_
    refine QT (vnil ?_)
    refine vcondf rfl ?_
    exact vback (hJ36 True.intro) ⟨rfl, rfl, rfl, True.intro⟩ sb2
 ·
  intro hC36
  refine vskip (KK2 (QM ?_))
  refine QM ?_
  refine QM ?_
  refine vone rfl (vxg (vcg rfl rfl rfl (d_Unring l oa c _ hll p q) (fun o H' h => h)) rfl rfl ?_)
  rintro _ _ ⟨B41, rfl, h41⟩
  rcases h41 with ⟨hb41, e41, he41, rfl⟩ | ⟨hb41, o41, c41, rfl, hs41⟩
  ·
   refine QM ?_
   refine QX ?_
   refine QX ?_
   refine QA ?_
   refine QA (KK3 ?_)
   refine QM ?_
   refine QM ?_
   refine QM ?_
   refine vone rfl (vxg (vcg rfl rfl rfl (d_Without l oa c _ hll p q) (fun o H' h => h)) rfl rfl ?_)
   rintro _ _ ⟨B48, rfl, h48⟩
   rcases h48 with ⟨hb48, e48, he48, rfl⟩ | ⟨hb48, o48, c48, rfl, hs48⟩
   ·
    refine QM ?_
    refine QX ?_
    refine QX ?_
    refine QA ?_
    refine QA (KK3 ?_)
    refine QM ?_
    refine QG ?_
    refine vknow (d := 52) (b' := true) rfl (decide_eq_true he41) ?_
    refine QM ?_
    refine NO2 ?_
    refine QT ?_
    refine QM ?_
    refine NO3 ?_
    refine QT ?_
    refine QM ?_
    refine YY (vcq rfl rfl rfl (q_imaged _)) rfl ?_
    refine vknow (d := 63) (b' := true) rfl rfl ?_
    refine QT ?_
    refine QA (vnil ?_)
    refine vret (V1 (H) Tryz.func3 ?_)
    exact ⟨rfl, rfl⟩
   ·
    refine QM ?_
    refine QX ?_
    refine QX ?_
    refine QA ?_
    refine QA (KK3 ?_)
    refine QM ?_
    refine QG ?_
    refine vknow (d := 52) (b' := true) rfl (decide_eq_true he41) ?_
    refine QM ?_
    refine NO2 ?_
    refine QT ?_
    refine QM ?_
    refine NO3 ?_
    refine QT ?_
    refine QM ?_
    refine YY (vcq rfl rfl rfl (q_imaged _)) rfl ?_
    refine vknow (d := 63) (b' := true) rfl rfl ?_
    refine QT ?_
    refine QA (vnil ?_)
    refine vret (V1 (H) Tryz.func3 ?_)
    exact ⟨rfl, rfl⟩
  ·
   refine QM ?_
   refine QX ?_
   refine QX ?_
   refine QA ?_
   refine QA (KK3 ?_)
   refine QM ?_
   refine QM ?_
   refine QM ?_
   refine vone rfl (vxg (vcg rfl rfl rfl (d_Without l oa c _ hll p q) (fun o H' h => h)) rfl rfl ?_)
   rintro _ _ ⟨B48, rfl, h48⟩
   rcases h48 with ⟨hb48, e48, he48, rfl⟩ | ⟨hb48, o48, c48, rfl, hs48⟩
   ·
    refine QM ?_
    refine QX ?_
    refine QX ?_
    refine QA ?_
    refine QA (KK3 ?_)
    refine QM ?_
    refine QG ?_
    refine vknow (d := 52) (b' := false) rfl rfl ?_
    refine QM ?_
    refine YM ?_
    refine YG ?_
    refine vknow (d := 55) (b' := true) rfl (decide_eq_true he48) ?_
    refine QU ?_
    refine QM ?_
    refine NO3 ?_
    refine QT ?_
    refine QM ?_
    refine YY (vcq rfl rfl rfl (q_imaged _)) rfl ?_
    refine vknow (d := 63) (b' := true) rfl rfl ?_
    refine QT ?_
    refine QA (vnil ?_)
    refine vret (V1 (H) Tryz.func3 ?_)
    exact ⟨rfl, rfl⟩
   ·
    refine QM ?_
    refine QX ?_
    refine QX ?_
    refine QA ?_
    refine QA (KK3 ?_)
    refine QM ?_
    refine QG ?_
    refine vknow (d := 52) (b' := false) rfl rfl ?_
    refine QM ?_
    refine YM ?_
    refine YG ?_
    refine vknow (d := 55) (b' := false) rfl rfl ?_
    refine QU ?_
    refine QM ?_
    refine YM ?_
    refine YM ?_
    refine YY (vcq rfl rfl rfl (c_AlikeI (unF l p.toNat q l.length) (unF l p.toNat q l.length) _ _ _ _ _ _ (un_len l p.toNat q _) (un_len l p.toNat q _) hll _)) rfl ?_
    refine vknow (d := 60) (b' := true) rfl (decide_eq_true rfl) ?_
    refine QU ?_
    refine QM ?_
    refine YY (vcq rfl rfl rfl (q_imaged _)) rfl ?_
    refine vknow (d := 63) (b' := true) rfl rfl ?_
    refine QT ?_
    refine QA (vnil ?_)
    refine vret (V1 (H) Tryz.func3 ?_)
    exact ⟨rfl, rfl⟩
end Go.Proofs.YtoebpndlbldfcaaGreatDoor
namespace Go.Proofs.YtoebpndlbldfcaaGreatDoor
open Go
set_option maxRecDepth 100000
open Go.ChangeShapes Go.WideShapes Go.ChangeAt Go.RowKit
theorem Tryz.enterK : Tryz.prog.mayEnter = true := by kernel_rfl
theorem Tryz.liftsK : (Rows.topRingsRow.lifted == Tryz.prog.liftsFinal) = true := by kernel_rfl
theorem Tryz.makeK : (Tryz.prog.make == some Rows.topRingsRow.make) = true := by kernel_rfl
section
variable {HH : Type} {enc : TypeId × Value → HH} {P : Program} {W : World}
theorem cells_i {ks : List CK} {l : List Value} (h : CellsAre enc P W (.i :: ks) l) : ∃ n r, l = I n :: r ∧ InR n ∧ CellsAre enc P W ks r := by
  cases l with
  | nil => exact h.elim
  | cons v r => obtain ⟨⟨n, rfl, hn⟩, h2⟩ := h; exact ⟨n, r, rfl, hn, h2⟩
theorem cells_nil {l : List Value} (h : CellsAre enc P W [] l) : l = [] := by
  cases l with
  | nil => rfl
  | cons v r => exact h.elim
theorem trodAll_below (hl : laidOutB P = true) {W' : World} (hb : Below W.heap.size W W') : ∀ {ts : List TypeId} {vs : List Value} {ds : List (DataW HH)} {ps : List MemPlace}, (∀ t ∈ ts, P.readableRec t = true ∧ t < P.types.size) → (∀ x ∈ ps, x.block < W.heap.size) →
    DataW.TrodAll enc P W 0 (fun _ => true) true ts vs ds ps → DataW.TrodAll enc P W' 0 (fun b => decide (b < W.heap.size)) true ts vs ds ps
  | [], vs, ds, ps, _, _, h => by
    obtain ⟨rfl, rfl, rfl⟩ := Go.ChangeShapes.trodAll_nil h
    exact trodAll_mk0
  | t :: ts, vs, ds, ps, ht, hps, h => by
    obtain ⟨v, vs', d, ds', p, q, rfl, rfl, rfl, h1, h2⟩ := Go.ChangeShapes.trodAll_cons h
    exact trodAll_cons_mk (Below.trod hl (ht t (by simp)).1 (ht t (by simp)).2 h1 hb (fun x hx => hps x (by simp [hx]))) (trodAll_below hl hb (fun u hu => ht u (by simp [hu])) (fun x hx => hps x (by simp [hx])) h2)
end
def restFacts (P : Program) (fn : Func) (s : ChangeSpec) (c : OpenClaim) : Bool :=
  c.wf (OpenSpec.ofChange s) && (fn.params.all (P.readableRec ·) && (namedTie P c.named s.vars &&
  ((c.stops == []) && ((c.knobs == []) &&
  ((c.maps == (fn.params.toList ++ s.plain.varTypes P).any (P.mapsRec ·)) && ((c.ifaces == (fn.params.toList ++ s.plain.varTypes P).any (P.ifacesRec ·)) && ((c.mapsOut == P.mapsAmong fn.resultTypes.toList) &&
  ((c.loops == (fn.params.toList ++ s.plain.varTypes P).any (P.loopsFrom ·)) && ((c.wideKeys == (fn.params.toList ++ s.plain.varTypes P ++ fn.resultTypes.toList).any (P.wideKeysFrom ·)) &&
  (s.vars.all (P.varReadable ·) && (fn.resultTypes.all (fun t => P.readableRec t && decide (t < P.types.size)) && ((c.ifacesOut == fn.resultTypes.toList.any (P.ifacesRec ·)) && ((c.loopsOut == fn.resultTypes.toList.any (P.loopsFrom ·)) && (c.shortTexts.isNone &&
  ((c.veiled == (fn.params.toList ++ s.plain.varTypes P ++ fn.resultTypes.toList).any (P.veiledRec ·)) && c.veiledFits P fn.params.toList (fn.params.toList ++ s.plain.varTypes P ++ fn.resultTypes.toList))))))))))))))))
theorem joined_of {P : Program} {f : FuncId} {fn : Func} {s : ChangeSpec} {c : OpenClaim} (h1 : laidOutB P = true) (h2 : mapsRowed P = true) (h3 : (P.stops == []) = true) (h4 : (P.stopKnobs == []) = true) (h5 : (c.plainKeys == P.plainKeys) = true) (h6 : P.stopsHeard = true)
    (i1 : (c.inPlace == P.inPlace f) = true) (i2 : (c.unfollowed == P.unfollowed f) = true) (i3 : (c.recurses == P.recurses f) = true) (i4 : (c.named == P.varsNamed f) = true) (rest : restFacts P fn s c = true)
    (j0 : c.domain.isEmpty = true) (j1 : (c.kinds == []) = true) (j2 : P.mayEnter = true) (j3 : (c.lifted == P.liftsFinal) = true) (j4 : (P.make == some c.make) = true) (j5 : (c.pinned == c.pinnedBy) = true) : joinedFacts P f fn s c = true := by
  simp only [restFacts, Bool.and_eq_true] at rest
  obtain ⟨r1, r2, r3, r4, r5, r6, r7, r8, r9, r10, r11, r12, r13, r14, r15, r16, r17⟩ := rest
  unfold joinedFacts
  simp only [h1, h2, h3, h4, h5, h6, i1, i2, i3, i4, r1, r2, r3, r4, r5, r6, r7, r8, r9, r10, r11, r12, r13, r14, r15, r16, r17, j0, j1, j2, j3, j4, j5, if_true, Bool.and_self, Bool.and_true, Bool.true_and]
theorem Tryz.ownK : ownKnob Tryz.prog.godebug = none := by kernel_rfl
theorem Tryz.laidOutK : laidOutB Tryz.prog = true := by kernel_rfl
theorem Tryz.mapsK : mapsRowed Tryz.prog = true := by kernel_rfl
theorem Tryz.stopsK : (Tryz.prog.stops == []) = true := by kernel_rfl
theorem Tryz.knobsK : (Tryz.prog.stopKnobs == []) = true := by kernel_rfl
theorem Tryz.heardK : Tryz.prog.stopsHeard = true := by kernel_rfl
theorem sl_I {HH : Type} {enc : TypeId × Value → HH} {W : World} {v : Value} (h : CellIs enc Tryz.prog W (.sl 3) v) : ∃ (oa : Option Addr) (m c : Nat) (l : List Int), v = .slice oa m c ∧ l.length = m ∧ m ≤ 9223372036854775807 ∧ (∀ x ∈ l, (fun n => InR n) x) ∧ (oa = Option.none → m = 0 ∧ c = 0) ∧ SlO (allH W) oa 1 encI l ∧ m ≤ c :=
  slice_of2 (n := 9) (ks := [.i]) encI (fun n => InR n) (by kernel_rfl) (by kernel_rfl) (by decide) (fun row hr hl => by
    obtain ⟨x0, row, rfl, b0, hr⟩ := cells_i hr
    obtain rfl := cells_nil hr
    exact ⟨x0, rfl, b0⟩) h
theorem rd_22 {HH : Type} {enc : TypeId × Value → HH} {W : World} {base : Nat} {v : Value} {d : DataW HH} {ps : List MemPlace} (h : DataW.Trod enc Tryz.prog W 0 (fun _ => true) true 22 v d ps) (hv : Value.okWide Tryz.prog W .any base 22 v) : ∃ (oa : Option Addr) (c : Nat) (l : List Int), v = .slice oa l.length c ∧ l.length ≤ 9223372036854775807 ∧ (∀ x ∈ l, (fun n => InR n) x) ∧ SlO (allH W) oa 1 encI l := by
  obtain ⟨a0, len, cap, rfl⟩ := okWide_slice Tryz.underlying22 hv
  have hc := trod_cells (n := 9) (ks := [.sl 3]) (by kernel_rfl) h
  obtain ⟨oa, m, c, l, e, rfl, h2, h3, _, h5, _⟩ := sl_I hc.1
  exact ⟨oa, c, l, e, h2, h3, h5⟩
end Go.Proofs.YtoebpndlbldfcaaGreatDoor
