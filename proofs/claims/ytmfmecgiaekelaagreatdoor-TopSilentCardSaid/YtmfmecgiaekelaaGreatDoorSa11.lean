/-
  Parts of the proof: rules of the engine, walks of functions, plain Lean. No condition.
-/
import Derived.Test.YtmfmecgiaekelaaGreatDoorSa10
namespace Go.Proofs.YtmfmecgiaekelaaGreatDoor
open Go
set_option maxRecDepth 100000
attribute [local irreducible] tightP hullP rootP farP rows endsOf meetE gapE winR
theorem fx_fixed1 (g1 k1 g2 k2 bx bo bn : Nat) (rest rest2 : List Value) (H : Heap) [hat0 : HAt H bx [.slice (some ⟨g1, 0, Option.none⟩) 2 k1, .slice (some ⟨g2, 0, Option.none⟩) 1 k2] 197] [hat1 : HAt H g2 (.iface 272 (.agg #[I 0, I 1, I 0, I 2]) :: rest2) 234] [hat2 : HAt H bo [.slice Option.none 0 0] 39] : VCall Tryz.prog 118 [ptr bx, ptr bo, ptr bn].toArray ((g1, blk (c2 zR r9 rest) 28) :: (bn, blk [.slice Option.none 0 0] 39) :: H) (fun o H' => o = .val (.tuple #[]) ∧ ∃ sa sc, H' = (g1, blk (c2 zR rb rest) 28) :: (bn, blk [.slice sa 1 sc] 39) :: H) := by
 refine CV 7 Tryz.func118 ?_
 refine vregion ?_
 refine QN ?_
 refine QQ (vmf rfl) rfl ?_
 refine QQ (vmf rfl) rfl ?_
 refine vone rfl (vxg (vcg rfl rfl rfl (fx_narrow g1 k1 g2 k2 bo bn rest rest2 H) (fun o H' h => h)) rfl rfl ?_)
 rintro _ _ ⟨sa, sc, rfl, rfl⟩
 refine vnil ?_
 refine vend (vr0 (H' := (g1, blk (c2 zR rb rest) 28) :: (bn, blk [.slice sa 1 sc] 39) :: H) Tryz.func118 rfl  sb2 ?_)
 exact ⟨rfl, _, _, rfl⟩
theorem fx_fixed (oa : Option Addr) (ca g2 k2 : Nat) (rest2 : List Value) (H : Heap) [hs : SlO H oa 8 clR [zR, r9]] [hat1 : HAt H g2 (.iface 272 (.agg #[I 0, I 1, I 0, I 2]) :: rest2) 234] : VCall Tryz.prog 82 [.agg #[.slice oa 2 ca, .slice (some ⟨g2, 0, Option.none⟩) 1 k2], .slice Option.none 0 0].toArray H (fun o H' => ∃ v, o = .val v ∧ ∃ gb kb rs sa sc, v = tup [.slice (some ⟨gb, 0, Option.none⟩) 2 kb, .slice sa 1 sc, .bool true] ∧ H' = (gb, blk (c2 zR rb rs) 28) :: H) := by
 refine CV 19 Tryz.func82 ?_
 refine KK2 ?_
 refine BX fun b1 => ?_
 refine BX fun b2 => ?_
 refine QA ?_
 refine AL fun b3 => ?_
 refine QA ?_
 refine KK3 ?_
 refine QF ?_
 refine QL ?_
 refine vone rfl (vxg (vcg rfl rfl rfl (fx_clone2 zR r9 oa ca _) (fun o H' h => h)) rfl rfl ?_)
 rintro _ _ ⟨gb, kb, rs, rfl, rfl⟩
 refine QF ?_
 refine SU ?_
 refine KK3 ?_
 refine QQ (vmf rfl) rfl ?_
 refine vone rfl (vxg (vcg rfl rfl rfl (fx_failed (R := fun H' => ∃ sa sc, H' = (gb, blk (c2 zR rb rs) 28) :: (b3, blk [.slice sa 1 sc] 39) :: (b2, blk [.slice Option.none 0 0] 39) :: (b1, blk [.slice (some ⟨gb, 0, Option.none⟩) 2 kb, .slice (some ⟨g2, 0, Option.none⟩) 1 k2] 197) :: H) _ (fx_fixed1 gb kb g2 k2 b1 b2 b3 rs rest2 ((b2, blk [.slice Option.none 0 0] 39) :: (b1, blk [.slice (some ⟨gb, 0, Option.none⟩) 2 kb, .slice (some ⟨g2, 0, Option.none⟩) 1 k2] 197) :: H))) (fun o H' h => h)) rfl rfl ?_)
 rintro _ _ ⟨rfl, sa, sc, rfl⟩
 refine QA ?_
 refine vnil (vseq ?_)
 refine DR [(.q, 0), (.q, 1), (.q, 2), (.q, 3), (.q, 4), (.q, 5), (.q, 6), (.q, 7)] Tryz.mixed ?_
 refine DF ?_
 refine DL ?_
 refine DL ?_
 refine DM ?_
 refine DD (vnot rfl) rfl ?_
 refine DA ?_
 refine vdqn (mone rfl) (vst1s rfl rfl rfl rfl) rfl ?_
 refine DA ?_
 refine vdend rfl ?_
 refine vret (vr3 (H' := (gb, blk (c2 zR rb rs) 28) :: H) Tryz.func82 rfl (.tmp rfl) (.cell1 rfl rfl) (.tmp rfl) sb2 ?_)
 exact ⟨_, rfl, gb, kb, rs, sa, sc, rfl, rfl⟩
end Go.Proofs.YtmfmecgiaekelaaGreatDoor
namespace Go.Proofs.YtmfmecgiaekelaaGreatDoor
open Go
set_option maxRecDepth 100000
attribute [local irreducible] tightP hullP rootP farP rows endsOf meetE gapE winR
def encOb (_ : Unit) : List Value := [I 1, I 0, I 1, I 0, I 2, I 0, I 0, I 0, I 0, I 0, I 0, I 0, I 0, I 0]
instance tApSd : TAp Tryz.prog 195 234 1 16 := mkTAp (z := .nilIface) (by kernel_rfl) (by kernel_rfl) rfl
theorem fx_tightA : VPure Tryz.prog 100 [vR zR] (tup [vR zR, I 0]) := by
  have := c_Tight ⟨⟨0, 0⟩, ⟨0, 0⟩, ⟨0, 0⟩, ⟨0, 0⟩⟩
  rw [show tightE ⟨⟨0, 0⟩, ⟨0, 0⟩, ⟨0, 0⟩, ⟨0, 0⟩⟩ = (zR, 0) by kernel_rfl] at this; exact this
theorem fx_tightB : VPure Tryz.prog 100 [vR r9] (tup [vR r9, I 0]) := by
  have := c_Tight ⟨⟨0, 9⟩, ⟨0, 9⟩, ⟨0, 18⟩, ⟨-9, 9⟩⟩
  rw [show tightE ⟨⟨0, 9⟩, ⟨0, 9⟩, ⟨0, 18⟩, ⟨-9, 9⟩⟩ = (r9, 0) by kernel_rfl] at this; exact this
theorem OG.mono {P : Program} {N : Nat} {E : Env} {D : List Deferred} {H : Heap} {o : Oper} {R R' : Value → Heap → Prop} (h : OG P N E D H o R) (hr : ∀ v H', R v H' → R' v H') : OG P N E D H o R' :=
  ⟨h.nodef, fun t w hA hE => let ⟨n, w1, e, hn⟩ := h.go t w hA hE; ⟨n, w1, e, hn.mono fun v w2 ⟨H', hF, hR⟩ => ⟨H', hF, hr v H' hR⟩⟩⟩
theorem own_cons {e size n : Nat} {u : Value} {xs : List Value} {B : Heap} (h : OwnS e size u (n + 1) xs B) : ∃ g cap cur, u = .slice (some ⟨g, 0, Option.none⟩) (n + 1) cap ∧ B = [(g, blk cur e)] ∧ OwnS e size (.slice (some ⟨g, 0, Option.none⟩) (n + 1) cap) (n + 1) xs [(g, blk cur e)] := by
  rcases h with ⟨_, hn, _⟩ | ⟨g, cap, cur, h1, h2, h3, h4, h5, h6⟩
  · omega
  · exact ⟨g, cap, cur, h1, h2, .inr ⟨g, cap, cur, rfl, rfl, h3, h4, h5, h6⟩⟩
theorem own_c2 {e n g cap : Nat} {cur : List Value} {u : Value} {a b : Rg} (h : OwnS e 8 u n (clR a ++ clR b) [(g, blk cur e)]) (hn : n = 2) : cur = c2 a b (cur.drop 16) := by
  subst hn
  rcases h with ⟨_, h, _⟩ | ⟨g', cap', cur', h1, h2, h3, h4, h5, h6⟩
  · cases h
  · simp only [List.cons.injEq, Prod.mk.injEq, and_true] at h2
    obtain ⟨rfl, h2⟩ := h2
    have : cur = cur' := by
      have := congrArg (fun o : Obj => match o with | .cells c _ _ => c.toList | _ => []) h2
      simpa [blk] using this
    subst this
    have ht := List.take_append_drop (2 * 8) cur
    rw [h6] at ht
    unfold c2
    rw [← List.append_assoc]
    exact ht.symm
theorem own_1 {e g : Nat} {cur : List Value} {u x : Value} (h : OwnS e 1 u 1 [x] [(g, blk cur e)]) : ∃ r, cur = x :: r := by
  rcases h with ⟨_, h, _⟩ | ⟨g', cap', cur', h1, h2, h3, h4, h5, h6⟩
  · cases h
  · simp only [List.cons.injEq, Prod.mk.injEq, and_true] at h2
    obtain ⟨rfl, h2⟩ := h2
    have : cur = cur' := by
      have := congrArg (fun o : Obj => match o with | .cells c _ _ => c.toList | _ => []) h2
      simpa [blk] using this
    subst this
    cases cur with
    | nil => simp at h6
    | cons y r => simp at h6; exact ⟨r, by rw [h6]⟩
theorem fx_netOf (oa ob : Option Addr) (ca cb : Nat) (H : Heap) [hs1 : SlO H oa 8 clR [zR, r9]] [hs2 : SlO H ob 14 encOb [()]] : VCall Tryz.prog 81 [.agg #[.slice oa 2 ca, .slice ob 1 cb]].toArray H (fun o H' => ∃ v, o = .val v ∧ ∃ gb kb rs gc kc rc, v = tup [.agg #[.slice (some ⟨gb, 0, Option.none⟩) 2 kb, .slice (some ⟨gc, 0, Option.none⟩) 1 kc], I 0] ∧ H' = (gc, blk (.iface 272 (.agg #[I 0, I 1, I 0, I 2]) :: rc) 234) :: (gb, blk (c2 zR r9 rs) 28) :: H) := by
 refine CV 83 Tryz.func81 ?_
 refine KK2 ?_
 refine BX fun b1 => ?_
 refine AL fun b2 => ?_
 refine QA ?_
 refine vnil (vseq (KK2 ?_))
 refine QF ?_
 refine QL ?_
 refine QQ (vlen rfl) rfl ?_
 refine QQ (vcp rfl rfl rfl (c_fwithin _ _ _)) rfl ?_
 refine vknow (d := 16) (b' := true) rfl (by decide) ?_
 refine QQ (vnot rfl) rfl ?_
 refine QM ?_
 refine YF ?_
 refine YL ?_
 refine YY (vlen rfl) rfl ?_
 refine YY (vgtr rfl rfl) rfl ?_
 refine QU ?_
 refine vnil (vcondf rfl (vskip (KK2 ?_)))
 refine AL fun b3 => ?_
 refine vnil (vseq (KK2 ?_))
 refine QF ?_
 refine QL ?_
 refine QQ (vlen rfl) rfl ?_
 refine QM ?_
 refine vnil (vblock ?_)
 refine vloop1 ?_
 refine KK2 ?_
 refine QS ?_
 refine vnil (vseq (vcondt rfl (vskip (vseq (vblock (KK2 ?_))))))
 refine QQ (visg (enc := clR) (xs := [zR, r9]) (z := zR) rfl rfl (by decide) rfl) rfl ?_
 refine QQ (vldS (enc := clR) (xs := [zR, r9]) (z := zR) rfl rfl) rfl ?_
 refine AL fun b4 => ?_
 refine SN ?_
 refine KK3 ?_
 refine QN ?_
 refine QQ (vcp rfl rfl rfl fx_tightA) rfl ?_
 refine QM ?_
 refine QX ?_
 refine QX ?_
 refine AL fun b5 => ?_
 refine SN ?_
 refine QA ?_
 refine vnil (vseq (KK2 ?_))
 refine QM ?_
 refine QG ?_
 refine vknow (d := 38) (b' := false) rfl rfl ?_
 refine QM ?_
 refine YF ?_
 refine YN ?_
 refine YY (vcp rfl rfl rfl (c_wide 0 0 (by unfold InR; decide))) rfl ?_
 refine vknow (d := 42) (b' := false) rfl (by decide) ?_
 refine QU ?_
 refine QM ?_
 refine YF ?_
 refine YN ?_
 refine YY (vcp rfl rfl rfl (c_wide 0 0 (by unfold InR; decide))) rfl ?_
 refine vknow (d := 47) (b' := false) rfl (by decide) ?_
 refine QU ?_
 refine vnil (vcondf rfl (vskip (vregion ?_)))
 refine QF ?_
 refine QL ?_
 refine QN ?_
 refine vone rfl (vxg (vbs rfl rfl rfl rfl rfl rfl) rfl rfl ?_)
 rintro _ _ ⟨b6, rfl, rfl⟩
 refine vone rfl (vxg ((vappF (F := fun C => C ++ ((b6, blk (clR zR) 28) :: (b5, blk (clR zR) 28) :: (b4, blk (clR zR) 28) :: (b3, blk [.slice Option.none 0 0, .slice Option.none 0 0] 197) :: (b2, blk [.slice Option.none 0 0, .slice Option.none 0 0] 197) :: (b1, blk [.slice oa 2 ca, .slice ob 1 cb] 151) :: H)) (H0 := (b6, blk (clR zR) 28) :: (b5, blk (clR zR) 28) :: (b4, blk (clR zR) 28) :: (b3, blk [.slice Option.none 0 0, .slice Option.none 0 0] 197) :: (b2, blk [.slice Option.none 0 0, .slice Option.none 0 0] 197) :: (b1, blk [.slice oa 2 ca, .slice ob 1 cb] 151) :: H) (B := []) (xs := []) (a := ⟨b6, 0, Option.none⟩) (m := 1) (c := 1) (news := clR zR) (fun C => .refl _) rfl rfl OwnS.nil rfl (news_blk (b := b6) (List.Mem.head _)) (fun u hu => by simp at hu; rcases hu with rfl | rfl | rfl | rfl | rfl | rfl | rfl | rfl <;> rfl) (by omega) (by simp only [maxLen]; omega) (by omega)).mono (R' := fun u H' => ∃ ga ka cura, u = .slice (some ⟨ga, 0, Option.none⟩) (0 + 1) ka ∧ OwnS 28 8 (.slice (some ⟨ga, 0, Option.none⟩) (0 + 1) ka) (0 + 1) (clR zR) [(ga, blk cura 28)] ∧ H' = (ga, blk cura 28) :: (b6, blk (clR zR) 28) :: (b5, blk (clR zR) 28) :: (b4, blk (clR zR) 28) :: (b3, blk [.slice Option.none 0 0, .slice Option.none 0 0] 197) :: (b2, blk [.slice Option.none 0 0, .slice Option.none 0 0] 197) :: (b1, blk [.slice oa 2 ca, .slice ob 1 cb] 151) :: H) (fun u H' ⟨B', h1, _, h3⟩ => by obtain ⟨g, cap, cur, e1, e2, e3⟩ := own_cons h1; subst e1; subst e2; exact ⟨g, cap, cur, rfl, e3, h3⟩)) rfl rfl ?_)
 rintro _ _ ⟨ga, ka, cura, rfl, howa, rfl⟩
 refine QF ?_
 refine SU ?_
 refine vnil (vinblock (vregion ?_))
 refine QQ (vadd rfl rfl (by unfold InR; decide)) rfl ?_
 refine QM ?_
 refine vnil ?_
 refine vinloop1 ?_
 refine KK2 ?_
 refine QS ?_
 refine vnil (vseq (vcondt rfl (vskip (vseq (vblock (KK2 ?_))))))
 refine QQ (visg (enc := clR) (xs := [zR, r9]) (z := r9) rfl rfl (by decide) rfl) rfl ?_
 refine QQ (vldS (enc := clR) (xs := [zR, r9]) (z := r9) rfl rfl) rfl ?_
 refine AL fun b7 => ?_
 refine SN ?_
 refine KK3 ?_
 refine QN ?_
 refine QQ (vcp rfl rfl rfl fx_tightB) rfl ?_
 refine QM ?_
 refine QX ?_
 refine QX ?_
 refine AL fun b8 => ?_
 refine SN ?_
 refine QA ?_
 refine vnil (vseq (KK2 ?_))
 refine QM ?_
 refine QG ?_
 refine vknow (d := 38) (b' := false) rfl rfl ?_
 refine QM ?_
 refine YF ?_
 refine YN ?_
 refine YY (vcp rfl rfl rfl (c_wide 0 9 (by unfold InR; decide))) rfl ?_
 refine vknow (d := 42) (b' := false) rfl (by decide) ?_
 refine QU ?_
 refine QM ?_
 refine YF ?_
 refine YN ?_
 refine YY (vcp rfl rfl rfl (c_wide 0 9 (by unfold InR; decide))) rfl ?_
 refine vknow (d := 47) (b' := false) rfl (by decide) ?_
 refine QU ?_
 refine vnil (vcondf rfl (vskip (vregion ?_)))
 refine QF ?_
 refine QL ?_
 refine QN ?_
 refine vone rfl (vxg (vbs rfl rfl rfl rfl rfl rfl) rfl rfl ?_)
 rintro _ _ ⟨b9, rfl, rfl⟩
 refine vone rfl (vxg ((vappF (F := fun C => [(b9, blk (clR r9) 28), (b8, blk (clR r9) 28), (b7, blk (clR r9) 28)] ++ (C ++ ((b6, blk (clR zR) 28) :: (b5, blk (clR zR) 28) :: (b4, blk (clR zR) 28) :: (b3, blk [.slice (some ⟨ga, 0, Option.none⟩) (0 + 1) ka, .slice Option.none 0 0] 197) :: (b2, blk [.slice Option.none 0 0, .slice Option.none 0 0] 197) :: (b1, blk [.slice oa 2 ca, .slice ob 1 cb] 151) :: H))) (H0 := [(b9, blk (clR r9) 28), (b8, blk (clR r9) 28), (b7, blk (clR r9) 28)] ++ ((b6, blk (clR zR) 28) :: (b5, blk (clR zR) 28) :: (b4, blk (clR zR) 28) :: (b3, blk [.slice (some ⟨ga, 0, Option.none⟩) (0 + 1) ka, .slice Option.none 0 0] 197) :: (b2, blk [.slice Option.none 0 0, .slice Option.none 0 0] 197) :: (b1, blk [.slice oa 2 ca, .slice ob 1 cb] 151) :: H)) (B := [(ga, blk cura 28)]) (xs := clR zR) (a := ⟨b9, 0, Option.none⟩) (m := 1) (c := 1) (news := clR r9) (fun C => perm_mid [(b9, blk (clR r9) 28), (b8, blk (clR r9) 28), (b7, blk (clR r9) 28)] C ((b6, blk (clR zR) 28) :: (b5, blk (clR zR) 28) :: (b4, blk (clR zR) 28) :: (b3, blk [.slice (some ⟨ga, 0, Option.none⟩) (0 + 1) ka, .slice Option.none 0 0] 197) :: (b2, blk [.slice Option.none 0 0, .slice Option.none 0 0] 197) :: (b1, blk [.slice oa 2 ca, .slice ob 1 cb] 151) :: H)) rfl rfl howa rfl (news_blk (b := b9) (List.Mem.head _)) (fun u hu => by simp at hu; rcases hu with rfl | rfl | rfl | rfl | rfl | rfl | rfl | rfl <;> rfl) (by omega) (by simp only [maxLen]; omega) (by omega)).mono (R' := fun u H' => ∃ gb kb rs, u = .slice (some ⟨gb, 0, Option.none⟩) (0 + 1 + 1) kb ∧ H' = (b9, blk (clR r9) 28) :: (b8, blk (clR r9) 28) :: (b7, blk (clR r9) 28) :: (gb, blk (c2 zR r9 rs) 28) :: (b6, blk (clR zR) 28) :: (b5, blk (clR zR) 28) :: (b4, blk (clR zR) 28) :: (b3, blk [.slice (some ⟨ga, 0, Option.none⟩) (0 + 1) ka, .slice Option.none 0 0] 197) :: (b2, blk [.slice Option.none 0 0, .slice Option.none 0 0] 197) :: (b1, blk [.slice oa 2 ca, .slice ob 1 cb] 151) :: H) (fun u H' ⟨B', h1, _, h3⟩ => by obtain ⟨g, cap, cur, e1, e2, e3⟩ := own_cons h1; subst e1; subst e2; have e4 := own_c2 (cap := cap) e3 rfl; exact ⟨g, cap, cur.drop 16, rfl, by rw [h3, ← e4]; rfl⟩)) rfl rfl ?_)
 rintro _ _ ⟨gb, kb, rs, rfl, rfl⟩
 refine QF ?_
 refine SU ?_
 refine vnil (vinblock (vregion ?_))
 refine QQ (vadd rfl rfl (by unfold InR; decide)) rfl ?_
 refine QM ?_
 refine vnil ?_
 refine vinloop1 ?_
 refine KK2 ?_
 refine QS ?_
 refine vnil (vseq (vcondf rfl ?_))
 refine vexit (k' := _) rfl ?_
 refine vseq (KK2 ?_)
 refine QF ?_
 refine QL ?_
 refine QQ (vlen rfl) rfl ?_
 refine QM ?_
 refine vnil (vblock ?_)
 refine vloop1 ?_
 refine KK2 ?_
 refine QS ?_
 refine vnil (vseq (vcondt rfl (vskip (vseq (vblock (KK2 ?_))))))
 refine QQ (visg (enc := encOb) (xs := [()]) (z := ()) rfl rfl (by decide) rfl) rfl ?_
 refine QQ (vldS (enc := encOb) (xs := [()]) (z := ()) rfl rfl) rfl ?_
 refine AL fun b10 => ?_
 refine SN ?_
 refine KK3 ?_
 refine QN ?_
 refine QF ?_
 refine QL ?_
 refine QQ (vlen rfl) rfl ?_
 refine QQ (vcp rfl rfl rfl fx_read) rfl ?_
 refine QM ?_
 refine QX ?_
 refine QX ?_
 refine QA ?_
 refine QA ?_
 refine vnil (vseq (KK2 ?_))
 refine QM ?_
 refine QQ (vnot rfl) rfl ?_
 refine vnil (vcondf rfl (vskip (vregion ?_)))
 refine QF ?_
 refine QL ?_
 refine QM ?_
 refine vone rfl (vxg (vbs rfl rfl rfl rfl rfl rfl) rfl rfl ?_)
 rintro _ _ ⟨b11, rfl, rfl⟩
 refine vone rfl (vxg ((vappF (F := fun C => C ++ ((b11, blk [.iface 272 (.agg #[I 0, I 1, I 0, I 2])] 234) :: (b10, blk (encOb ()) 148) :: (b9, blk (clR r9) 28) :: (b8, blk (clR r9) 28) :: (b7, blk (clR r9) 28) :: (gb, blk (c2 zR r9 rs) 28) :: (b6, blk (clR zR) 28) :: (b5, blk (clR zR) 28) :: (b4, blk (clR zR) 28) :: (b3, blk [.slice (some ⟨gb, 0, Option.none⟩) (0 + 1 + 1) kb, .slice Option.none 0 0] 197) :: (b2, blk [.slice Option.none 0 0, .slice Option.none 0 0] 197) :: (b1, blk [.slice oa 2 ca, .slice ob 1 cb] 151) :: H)) (H0 := (b11, blk [.iface 272 (.agg #[I 0, I 1, I 0, I 2])] 234) :: (b10, blk (encOb ()) 148) :: (b9, blk (clR r9) 28) :: (b8, blk (clR r9) 28) :: (b7, blk (clR r9) 28) :: (gb, blk (c2 zR r9 rs) 28) :: (b6, blk (clR zR) 28) :: (b5, blk (clR zR) 28) :: (b4, blk (clR zR) 28) :: (b3, blk [.slice (some ⟨gb, 0, Option.none⟩) (0 + 1 + 1) kb, .slice Option.none 0 0] 197) :: (b2, blk [.slice Option.none 0 0, .slice Option.none 0 0] 197) :: (b1, blk [.slice oa 2 ca, .slice ob 1 cb] 151) :: H) (B := []) (xs := []) (a := ⟨b11, 0, Option.none⟩) (m := 1) (c := 1) (news := [.iface 272 (.agg #[I 0, I 1, I 0, I 2])]) (fun C => .refl _) rfl rfl OwnS.nil rfl (news_blk (b := b11) (List.Mem.head _)) (fun u hu => by simp at hu; subst hu; rfl) (by omega) (by simp only [maxLen]; omega) (by omega)).mono (R' := fun u H' => ∃ gc kc rc, u = .slice (some ⟨gc, 0, Option.none⟩) (0 + 1) kc ∧ H' = (gc, blk (.iface 272 (.agg #[I 0, I 1, I 0, I 2]) :: rc) 234) :: (b11, blk [.iface 272 (.agg #[I 0, I 1, I 0, I 2])] 234) :: (b10, blk (encOb ()) 148) :: (b9, blk (clR r9) 28) :: (b8, blk (clR r9) 28) :: (b7, blk (clR r9) 28) :: (gb, blk (c2 zR r9 rs) 28) :: (b6, blk (clR zR) 28) :: (b5, blk (clR zR) 28) :: (b4, blk (clR zR) 28) :: (b3, blk [.slice (some ⟨gb, 0, Option.none⟩) (0 + 1 + 1) kb, .slice Option.none 0 0] 197) :: (b2, blk [.slice Option.none 0 0, .slice Option.none 0 0] 197) :: (b1, blk [.slice oa 2 ca, .slice ob 1 cb] 151) :: H) (fun u H' ⟨B', h1, _, h3⟩ => by obtain ⟨g, cap, cur, e1, e2, e3⟩ := own_cons h1; subst e1; subst e2; obtain ⟨r, e4⟩ := own_1 e3; exact ⟨g, cap, r, rfl, by rw [h3, e4]; rfl⟩)) rfl rfl ?_)
 rintro _ _ ⟨gc, kc, rc, rfl, rfl⟩
 refine QF ?_
 refine SU ?_
 refine vnil (vinblock (vregion ?_))
 refine QQ (vadd rfl rfl (by unfold InR; decide)) rfl ?_
 refine QM ?_
 refine vnil ?_
 refine vinloop1 ?_
 refine KK2 ?_
 refine QS ?_
 refine vnil (vseq (vcondf rfl ?_))
 refine vexit (k' := _) rfl ?_
 refine KK2 ?_
 refine QN ?_
 refine SN ?_
 refine QA ?_
 refine vnil ?_
 refine vret (vr2 (H' := (gc, blk (.iface 272 (.agg #[I 0, I 1, I 0, I 2]) :: rc) 234) :: (gb, blk (c2 zR r9 rs) 28) :: H) Tryz.func81 rfl (.celln rfl rfl) (.tmp rfl) sb2 ?_)
 exact ⟨_, rfl, gb, kb, rs, gc, kc, rc, rfl, rfl⟩
end Go.Proofs.YtmfmecgiaekelaaGreatDoor
namespace Go.Proofs.YtmfmecgiaekelaaGreatDoor
open Go
set_option maxRecDepth 100000
def c0L : Pt × Pt := (⟨0, 0⟩, ⟨10, 0⟩)
def c0D : List Bd := [⟨7, 100⟩]
def c0 : Cz := ⟨[c0L], [], [], zR, ⟨⟨0, 0⟩, 0⟩, 2, 3, [c0D]⟩
theorem c0_tight : (tightE c0.spread).2 = 0 := by kernel_rfl
theorem c0_swept : (sweptE c0.spread ⟨0, 0⟩ ⟨10, 0⟩).2 = 0 := by kernel_rfl
theorem c0_swept' : (sweptE c0.spread ⟨10, 0⟩ ⟨0, 0⟩).2 = 0 := by kernel_rfl
theorem c0_clear : clearB c0 ⟨0, 0⟩ ⟨10, 0⟩ = true := by unfold clearB; rw [decide_eq_true c0_swept]; rfl
theorem c0_clear' : clearB c0 ⟨10, 0⟩ ⟨0, 0⟩ = true := by unfold clearB; rw [decide_eq_true c0_swept']; rfl
theorem c0_steps : stepsC c0 ⟨0, 0⟩ ⟨10, 0⟩ = 5 := by kernel_rfl
theorem c0_steps' : stepsC c0 ⟨10, 0⟩ ⟨0, 0⟩ = 5 := by kernel_rfl
theorem c0_cost0 : costV c0 c0.start (fromV (wayV c0L 0)) = 0 := by kernel_rfl
theorem c0_pass1 : passP c0 c0.start (fromV (wayV c0L 1)) = [([⟨0, 0⟩, ⟨10, 0⟩], 14)] := by
  have h1 : triedP c0 c0.start (fromV (wayV c0L 1)) = [[⟨0, 0⟩, ⟨10, 0⟩]] := by kernel_rfl
  unfold passP
  rw [h1]
  have h2 : costP c0 [⟨0, 0⟩, ⟨10, 0⟩] c0.start.oc (fromV (wayV c0L 1)).oc = some 14 := by
    show costL c0 (fromV (wayV c0L 1)).oc ⟨0, 0⟩ [⟨10, 0⟩] 0 0 = some 14
    simp only [costL]
    rw [if_neg (by rw [c0_clear]; decide), c0_steps]
    kernel_rfl
  simp only [List.filterMap_cons, List.filterMap_nil, h2, Option.map_some]
theorem c0_cost1 : costV c0 c0.start (fromV (wayV c0L 1)) = 14 := by
  unfold costV bestP
  rw [if_pos (by unfold okPs Pt.ok c0; decide), c0_pass1]; rfl
theorem c0_go0 : goV c0 (c0.start, 0) (wayV c0L 0) c0D = some (7, 12) := by
  unfold goV
  rw [c0_cost0, if_neg (by decide)]
  show shotV c0 (⟨0, 0⟩, ⟨10, 0⟩) c0D 0 = _
  unfold shotV
  rw [c0_clear, if_neg (by decide), c0_steps]; rfl
theorem c0_go1 : goV c0 (c0.start, 0) (wayV c0L 1) c0D = some (14, 19) := by
  unfold goV
  rw [c0_cost1, if_neg (by decide)]
  show shotV c0 (⟨10, 0⟩, ⟨0, 0⟩) c0D 14 = _
  unfold shotV
  rw [c0_clear', if_neg (by decide), c0_steps']; rfl
theorem c0_tab1 : tabE c0 c0L c0D 1 = 19 := by
  apply tab_s; unfold earE; simp only [List.flatMap_cons, List.flatMap_nil, List.append_nil]; rw [goL_s c0_go1]; rfl
theorem c0_ok : okCz c0 := by
  refine ⟨by decide, by decide, by decide, by decide, fun l hl => ?_, fun l hl => ?_, (fun f hf => by cases hf), (fun p hp => by cases hp), c0_tight, by decide, by decide, by unfold okPs Pt.ok c0; decide, by decide, by decide⟩
  · rw [List.mem_singleton.1 hl]; unfold Pt.ok c0L; decide
  · rw [List.mem_singleton.1 hl]; rfl
end Go.Proofs.YtmfmecgiaekelaaGreatDoor
namespace Go.Proofs.YtmfmecgiaekelaaGreatDoor
open Go
set_option maxRecDepth 100000
attribute [local irreducible] tightP hullP rootP farP rows endsOf meetE gapE winR goV tabE
theorem c_AlikeI (l m : List Int) (oa ob : Option Addr) (n k c d : Nat) (hn : l.length = n) (hk : m.length = k) (hmax : n ≤ 9223372036854775807) (H : Heap) [SlO0 : SlO H oa 1 encI l] [SlO1 : SlO H ob 1 encI m] : VHas Tryz.prog 20 [sli oa n c, sli ob k d] (.bool (decide (l = m))) (H) (H) := by
 refine CV 26 Tryz.func20 ?_
 refine KK2 ?_
 refine QA ?_
 refine vnil (vseq (KK2 ?_))
 refine QM ?_
 refine QQ (vlen rfl) rfl ?_
 refine QM ?_
 refine QQ (vlen rfl) rfl ?_
 refine QG ?_
 refine vnil ?_
 refine vcondd rfl (fun h10 => ?_) (fun h10 => ?_)
 ·
  refine KK2 ?_
  refine QA ?_
  refine vnil ?_
  refine vret (V1 (H) Tryz.func20 ?_)
  (have hne : ¬ l = m := (fun e => h10 (by rw [e] at hn; omega)); rw [decide_eq_false hne]; exact ⟨rfl, rfl⟩)
 ·
  refine vskip (vseq (KK2 ?_))
  refine QA ?_
  refine vnil (vblock ?_)
  refine vwhile (σ := Int) (fun i => (n - i).toNat) (fun i => [(0, sli oa n c), (1, sli ob k d), (5, I i)]) (fun i => H) (fun i => (0 ≤ i ∧ i ≤ n) ∧ ∀ j : Nat, (j : Int) < i → l[j]? = m[j]?) 0 ⟨⟨by omega, by omega⟩, fun j hj => by omega⟩ ⟨rfl, rfl, rfl, True.intro⟩ sb ?_
  rintro i ⟨⟨hi0, hin⟩, hall⟩ IH
  change VRun _ _ _ _ _ [(0, sli oa n c), (1, sli ob k d), (5, I i)] _ (H) _
  refine vseq (KK2 ?_)
  refine QM ?_
  refine QM ?_
  refine QQ (vlen rfl) rfl ?_
  refine QS ?_
  refine vnil ?_
  refine vcondd rfl (fun h14 => ?_) (fun h14 => ?_)
  ·
   obtain ⟨x, hx⟩ := get_of_lt l (i := i.toNat) (by omega)
   obtain ⟨y, hy⟩ := get_of_lt m (i := i.toNat) (by omega)
   refine vskip (vseq (vblock (vseq ?_)))
   refine DR [(.q, 0), (.q, 1), (.q, 2), (.q, 3), (.q, 4), (.q, 5), (.q, 6), (.q, 7), (.q, 8)] Tryz.mixed ?_
   refine DM ?_
   refine DM ?_
   refine DD (visg (enc := encI) rfl rfl (by omega) hx) rfl ?_
   refine DD (vldS1 (enc := encI) rfl hx rfl) rfl ?_
   refine DM ?_
   refine DM ?_
   refine DD (visg (enc := encI) rfl rfl (by omega) hy) rfl ?_
   refine DD (vldS1 (enc := encI) rfl hy rfl) rfl ?_
   refine DG ?_
   refine vdend rfl ?_
   refine vcondd rfl (fun h25 => ?_) (fun h25 => ?_)
   ·
    refine KK2 ?_
    refine QA ?_
    refine vnil ?_
    refine vret (V1 (H) Tryz.func20 ?_)
    (have hne : ¬ l = m := (fun e => by subst e; rw [hx] at hy; cases hy; first | exact h25 rfl | (simp at h25; done)); rw [decide_eq_false hne]; exact ⟨rfl, rfl⟩)
   ·
    refine vskip (vinblock (vregion ?_))
    refine QM ?_
    refine QQ (vadd rfl rfl (by unfold InR; omega)) rfl ?_
    refine QA ?_
    refine vnil ?_
    exact vback (IH (i + 1) ⟨⟨by omega, by omega⟩, lt_snoc (n := 0) hi0 hall (by rw [hx, hy]; exact congrArg some (Classical.not_not.1 h25))⟩ (by show (_ : Int).toNat < (_ : Int).toNat; omega)) ⟨rfl, rfl, rfl, True.intro⟩ sb
  ·
   refine vexit (k' := _) rfl ?_
   refine KK2 ?_
   refine QA ?_
   refine vnil ?_
   refine vret (V1 (H) Tryz.func20 ?_)
   (have he : l = m := (List.ext_getElem? fun j => (by rcases Nat.lt_or_ge j n with hj | hj; exact hall j (by omega); rw [List.getElem?_eq_none (by omega), List.getElem?_eq_none (by omega)])); rw [decide_eq_true he]; exact ⟨rfl, rfl⟩)
theorem fx_Fix (oa ob : Option Addr) (ca cb : Nat) (H : Heap) [hs1 : SlO H oa 8 clR [zR, r9]] [hs2 : SlO H ob 14 encOb [()]] : VCall Tryz.prog 51 [.agg #[.slice oa 2 ca, .slice ob 1 cb]].toArray H (fun o H' => ∃ v, o = .val v ∧ ∃ gb kb rs, v = tup [.slice (some ⟨gb, 0, Option.none⟩) 2 kb, I 0] ∧ H' = (gb, blk (c2 zR rb rs) 28) :: H) := by
 refine CV 26 Tryz.func51 ?_
 refine KK2 ?_
 refine BX fun b1 => ?_
 refine QA ?_
 refine QA ?_
 refine KK3 ?_
 refine QN ?_
 refine vone rfl (vxg (vcg rfl rfl rfl (fx_netOf oa ob ca cb _) (fun o H' h => h)) rfl rfl ?_)
 rintro _ _ ⟨gb, kb, rs, gc, kc, rc, rfl, rfl⟩
 refine QM ?_
 refine QX ?_
 refine QX ?_
 refine AL fun b2 => ?_
 refine SN ?_
 refine QA ?_
 refine vnil (vseq (KK2 ?_))
 refine QM ?_
 refine QG ?_
 refine vknow (d := 15) (b' := false) rfl rfl ?_
 refine vnil (vcondf rfl (vskip (KK2 ?_)))
 refine QN ?_
 refine vone rfl (vxg (vcg rfl rfl rfl (fx_fixed (some ⟨gb, 0, Option.none⟩) kb gc kc rc _) (fun o H' h => h)) rfl rfl ?_)
 rintro _ _ ⟨gx, kx, rx, sa, sc, rfl, rfl⟩
 refine QM ?_
 refine QX ?_
 refine QX ?_
 refine QX ?_
 refine QA ?_
 refine QA ?_
 refine QA ?_
 refine vnil (vseq (KK2 ?_))
 refine QM ?_
 refine QQ (vnot rfl) rfl ?_
 refine vnil (vcondf rfl (vskip (KK2 ?_)))
 refine QM ?_
 refine QA ?_
 refine QA ?_
 refine vnil ?_
 refine vret (vr2 (H' := (gx, blk (c2 zR rb rx) 28) :: H) Tryz.func51 rfl (.tmp rfl) (.tmp rfl) sb2 ?_)
 exact ⟨_, rfl, gx, kx, rx, rfl, rfl⟩
theorem sub8 (a b : Rg) (rest : List Value) : sub (c2 a b rest) 8 2 = some [I b.x.lo, I b.x.hi] := by simp [sub, tak, c2]
theorem cz_c0 {H : Heap} {b1 b2 b3 : Nat} {T1 T2 T3 : TypeId} (h1 : (b1, blk (encLg c0L) T1) ∈ H) (h2 : (b2, blk (encBd ⟨7, 100⟩) T2) ∈ H) (h3 : (b3, blk [.slice (some ⟨b2, 0, Option.none⟩) 1 1] T3) ∈ H) :
    CzO H ⟨some ⟨b1, 0, Option.none⟩, 1, Option.none, 0, [], Option.none, 0, some ⟨b3, 0, Option.none⟩, 1, [⟨some ⟨b2, 0, Option.none⟩, 1, c0D⟩]⟩ c0 := by
  haveI a1 : HAt H b1 (encLg c0L) T1 := ⟨h1⟩
  haveI a2 : HAt H b2 (encBd ⟨7, 100⟩) T2 := ⟨h2⟩
  haveI a3 : HAt H b3 [.slice (some ⟨b2, 0, Option.none⟩) 1 1] T3 := ⟨h3⟩
  refine ⟨SlO.flat (fun _ => rfl) (by rfl), SlO.nil, (fun d hd => by cases hd), rfl, SlO.nil, SlO.flat (fun _ => rfl) (by rfl), (fun d hd => ?_), rfl, ⟨Nat.le_of_ble_eq_true rfl, Nat.le_of_ble_eq_true rfl, Nat.le_of_ble_eq_true rfl, Nat.le_of_ble_eq_true rfl⟩⟩
  rw [List.mem_singleton.1 hd]
  exact ⟨SlO.flat (fun _ => rfl) (by rfl), Nat.le_of_ble_eq_true rfl⟩
theorem q_steered (H : Heap) : VHas Tryz.prog 21 [] (.bool true) H H := by
 refine CV 78 Tryz.func21 ?_
 refine KK2 ?_
 refine QA ?_
 refine KK3 ?_
 refine QB ?_
 refine QB ?_
 refine vone rfl (vxg (vbs rfl rfl rfl rfl rfl rfl) rfl rfl ?_)
 rintro _ _ ⟨b1, rfl, rfl⟩
 refine QB ?_
 refine vone rfl (vxg (vbs rfl rfl rfl rfl rfl rfl) rfl rfl ?_)
 rintro _ _ ⟨b2, rfl, rfl⟩
 refine vone rfl (vxg (vbs rfl rfl rfl rfl rfl rfl) rfl rfl ?_)
 rintro _ _ ⟨b3, rfl, rfl⟩
 refine QB ?_
 refine AL fun b4 => ?_
 refine SN ?_
 refine KK3 ?_
 refine QN ?_
 refine vone rfl (vxg (haveI hcz : CzO ((b4, blk (clCz (⟨some ⟨b1, 0, Option.none⟩, 1, Option.none, 0, [], Option.none, 0, some ⟨b3, 0, Option.none⟩, 1, [⟨some ⟨b2, 0, Option.none⟩, 1, c0D⟩]⟩ : CH) c0) 35) :: (b3, blk [.slice (some ⟨b2, 0, Option.none⟩) 1 1] 141) :: (b2, blk (encBd ⟨7, 100⟩) 26) :: (b1, blk (encLg c0L) 140) :: H) (⟨some ⟨b1, 0, Option.none⟩, 1, Option.none, 0, [], Option.none, 0, some ⟨b3, 0, Option.none⟩, 1, [⟨some ⟨b2, 0, Option.none⟩, 1, c0D⟩]⟩ : CH) c0 := cz_c0 (T1 := 140) (T2 := 26) (T3 := 141) (by simp) (by simp) (by simp); vcg (R := fun v H' => ∃ B sl, v = tup [sl, I 12, I 0] ∧ H' = B ++ ((b4, blk (clCz (⟨some ⟨b1, 0, Option.none⟩, 1, Option.none, 0, [], Option.none, 0, some ⟨b3, 0, Option.none⟩, 1, [⟨some ⟨b2, 0, Option.none⟩, 1, c0D⟩]⟩ : CH) c0) 35) :: (b3, blk [.slice (some ⟨b2, 0, Option.none⟩) 1 1] 141) :: (b2, blk (encBd ⟨7, 100⟩) 26) :: (b1, blk (encLg c0L) 140) :: H)) rfl rfl rfl (d_Best1 (⟨some ⟨b1, 0, Option.none⟩, 1, Option.none, 0, [], Option.none, 0, some ⟨b3, 0, Option.none⟩, 1, [⟨some ⟨b2, 0, Option.none⟩, 1, c0D⟩]⟩ : CH) c0 ((b4, blk (clCz (⟨some ⟨b1, 0, Option.none⟩, 1, Option.none, 0, [], Option.none, 0, some ⟨b3, 0, Option.none⟩, 1, [⟨some ⟨b2, 0, Option.none⟩, 1, c0D⟩]⟩ : CH) c0) 35) :: (b3, blk [.slice (some ⟨b2, 0, Option.none⟩) 1 1] 141) :: (b2, blk (encBd ⟨7, 100⟩) 26) :: (b1, blk (encLg c0L) 140) :: H) c0L rfl rfl c0D rfl c0_ok (7, 12) c0_go0 (by decide) (.inr (by rw [c0_tab1]; decide))) (fun o H' ⟨B, sl, e1, e2⟩ => ⟨_, e2, B, sl, rfl, e1⟩)) rfl rfl ?_)
 rintro _ _ ⟨B1, sl, rfl, rfl⟩
 refine QM ?_
 refine QX ?_
 refine QX ?_
 refine QX ?_
 refine QA ?_
 refine QA ?_
 refine QA ?_
 refine KK3 ?_
 refine QB ?_
 refine QB ?_
 refine QB ?_
 refine QB ?_
 refine QB ?_
 refine QB ?_
 refine vone rfl (vxg (vbs rfl rfl rfl rfl rfl rfl) rfl rfl ?_)
 rintro _ _ ⟨b5, rfl, rfl⟩
 refine QB ?_
 refine vone rfl (vxg (vbs rfl rfl rfl rfl rfl rfl) rfl rfl ?_)
 rintro _ _ ⟨b6, rfl, rfl⟩
 refine QB ?_
 refine vone rfl (vxg (vcg rfl rfl rfl (fx_Fix (hs1 := SlO.flat (b := b5) clR_len (by rfl)) (hs2 := SlO.flat (b := b6) (fun _ => rfl) (by rfl)) (some ⟨b5, 0, Option.none⟩) (some ⟨b6, 0, Option.none⟩) 2 1 _) (fun o H' h => h)) rfl rfl ?_)
 rintro _ _ ⟨gx, kx, rx, rfl, rfl⟩
 refine QM ?_
 refine QX ?_
 refine QX ?_
 refine QA ?_
 refine QA ?_
 refine KK3 ?_
 refine QB ?_
 refine vone rfl (vxg (vbs rfl rfl rfl rfl rfl rfl) rfl rfl ?_)
 rintro _ _ ⟨b7, rfl, rfl⟩
 refine QB ?_
 refine QB ?_
 refine vone rfl (vxg (vbs rfl rfl rfl rfl rfl rfl) rfl rfl ?_)
 rintro _ _ ⟨b8, rfl, rfl⟩
 refine vone rfl (vxg (vbs rfl rfl rfl rfl rfl rfl) rfl rfl ?_)
 rintro _ _ ⟨b9, rfl, rfl⟩
 refine vone rfl (vxg (vcg (R := fun v H' => ∃ b, v = tup [.slice (some ⟨b, 0, Option.none⟩) 1 1, I 0] ∧ H' = (b, blk [I 5] 3) :: _) rfl rfl rfl (d_tow0 (hs0 := SlO.flat (b := b7) (fun _ => rfl) (by rfl)) (hs2 := SlO.flat (b := b9) (fun _ => rfl) (by rfl)) (hs3 := SlO.flat (b := b8) (fun _ => rfl) (by rfl)) (some ⟨b7, 0, Option.none⟩) (some ⟨b9, 0, Option.none⟩) (some ⟨b8, 0, Option.none⟩) 1 1 1 _) (fun o H' ⟨b, e1, e2⟩ => ⟨_, e1, b, rfl, e2⟩)) rfl rfl ?_)
 rintro _ _ ⟨gt, rfl, rfl⟩
 refine QM ?_
 refine QX ?_
 refine QX ?_
 refine QA ?_
 refine QA ?_
 refine KK3 ?_
 refine QM ?_
 refine QE ?_
 refine vknow (d := 47) (b' := true) rfl rfl ?_
 refine QM ?_
 refine YM ?_
 refine YE ?_
 refine vknow (d := 50) (b' := true) rfl rfl ?_
 refine QT ?_
 refine QM ?_
 refine YM ?_
 refine YE ?_
 refine vknow (d := 54) (b' := true) rfl rfl ?_
 refine QT ?_
 refine QM ?_
 refine YM ?_
 refine YE ?_
 refine vknow (d := 58) (b' := true) rfl rfl ?_
 refine QT ?_
 refine QM ?_
 refine YM ?_
 refine YY (vlen rfl) rfl ?_
 refine YE ?_
 refine QT ?_
 refine QM ?_
 refine YM ?_
 refine YY (vis rfl rfl (by decide)) rfl ?_
 refine YF ?_
 refine YY (vldn rfl (sub8 _ _ _)) rfl ?_
 refine YB ?_
 refine YY (veqs rfl rfl rfl rfl rfl rfl) rfl ?_
 refine vknow (d := 71) (b' := true) rfl (by decide) ?_
 refine QT ?_
 refine QM ?_
 refine YM ?_
 refine vyes rfl rfl rfl (vxg (vbs rfl rfl rfl rfl rfl rfl) rfl rfl ?_)
 rintro _ _ ⟨b10, rfl, rfl⟩
 refine YY (vcq rfl rfl rfl (c_AlikeI (SlO0 := SlO.flat (b := gt) (fun _ => rfl) (by rfl)) (SlO1 := SlO.flat (b := b10) (fun _ => rfl) (by rfl)) [5] [5] (some ⟨gt, 0, Option.none⟩) (some ⟨b10, 0, Option.none⟩) 1 1 1 1 rfl rfl (by decide) _)) rfl ?_
 refine vknow (d := 76) (b' := true) rfl rfl ?_
 refine QT ?_
 refine QA ?_
 refine vnil ?_
 refine vret (V1 (H) Tryz.func21 ?_)
 exact ⟨rfl, rfl⟩
end Go.Proofs.YtmfmecgiaekelaaGreatDoor
namespace Go.Proofs.YtmfmecgiaekelaaGreatDoor
open Go
set_option maxRecDepth 100000
attribute [local irreducible] tightP hullP rootP farP rows endsOf
noncomputable def bestE (w : Wn) (s : Sc) : List Int × Int × Int := if (dangerE w s).2 ≠ 0 then ([], 0, (dangerE w s).2) else (bestF ⟨w, s, (dangerE w s).1⟩ s.ship.length 0 sta0, mostF ⟨w, s, (dangerE w s).1⟩ s.ship.length 0 sta0, 0)
theorem best_e {w : Wn} {s : Sc} (h : (dangerE w s).2 ≠ 0) : bestE w s = ([], 0, (dangerE w s).2) := if_pos h
theorem best_y {w : Wn} {s : Sc} (h : ¬ (dangerE w s).2 ≠ 0) : bestE w s = (bestF ⟨w, s, (dangerE w s).1⟩ s.ship.length 0 sta0, mostF ⟨w, s, (dangerE w s).1⟩ s.ship.length 0 sta0, 0) := if_neg h
theorem bestM_min (g : Lg) (hs : 0 ≤ g.w.soft) (n : Nat) (t : Int) (x : Sta) : ∃ b : Nat, bestM g n t x = b ∧ b < g.w.soft.toNat + 2 ∧ gainF g n t x b = mostF g (n + 1) t x ∧ ∀ j : Nat, j < b → gainF g n t x j ≠ mostF g (n + 1) t x := by
  obtain ⟨m, hm, hg⟩ := gain_at g hs n t x
  unfold bestM modesL at *
  rw [List.find?_map]
  obtain ⟨j, hj, rfl⟩ := List.mem_map.1 hm
  cases hf : (List.range (g.w.soft.toNat + 2)).find? ((fun m => decide (gainF g n t x m = mostF g (n + 1) t x)) ∘ fun (j : Nat) => (j : Int)) with
  | none =>
    have := List.find?_eq_none.1 hf j hj
    simp [hg] at this
  | some b =>
    obtain ⟨h1, h2, h3⟩ := List.find?_range_eq_some.1 hf
    refine ⟨b, rfl, List.mem_range.1 h2, by simpa using h1, fun j hj => ?_⟩
    have := h3 j hj
    simpa using this
theorem d_Best (w : Wn) (h : SH) (s : Sc) (H : Heap) [hsc : ScO H h s] [hgl : Glob H] : VCall Tryz.prog 12 [vWn w, vSc h s].toArray H (fun o H' => ∃ v, o = .val v ∧ ∃ B, H' = B ++ H ∧ ∃ oa c, v = tup [.slice oa (bestE w s).1.length c, I (bestE w s).2.1, I (bestE w s).2.2] ∧ SlO B oa 1 encI (bestE w s).1) := by
 refine CV 63 Tryz.func12 ?_
 refine KK2 ?_
 refine BX fun b1 => ?_
 refine BX fun b2 => ?_
 refine QA ?_
 refine QA ?_
 refine QA ?_
 refine KK3 ?_
 refine QN ?_
 refine QN ?_
 refine vone rfl (vxg (vcg rfl rfl rfl (d_logOf w h s _) (fun o H' h => h)) rfl rfl ?_)
 rintro _ _ ⟨B, rfl, ⟨oa1, c1, rfl, hle, hsl⟩⟩
 refine QM ?_
 refine QX ?_
 refine QX ?_
 refine AL fun b3 => ?_
 refine SN ?_
 refine QA ?_
 refine vnil (vseq (KK2 ?_))
 refine QM ?_
 refine QG ?_
 refine vnil ?_
 refine vcondd rfl (fun h20 => ?_) (fun h20 => ?_)
 ·
  refine KK2 ?_
  refine QM ?_
  refine QA ?_
  refine QA ?_
  refine QA ?_
  refine vnil ?_
  refine vret (vr3 (H' := B ++ H) Tryz.func12 rfl (.tmp rfl) (.tmp rfl) (.tmp rfl) sb2 ?_)
  (rw [best_e h20]; exact ⟨_, rfl, B, rfl, Option.none, 0, rfl, SlO.nil⟩)
 ·
  obtain ⟨hw0, hs0, _, hdl⟩ := danger_0 (Classical.not_not.1 h20)
  haveI hlg : LgO (B ++ ((b2, blk (clSc h s) 59) :: (b1, blk (clWn w) 37) :: H)) ⟨h, oa1, c1⟩ ⟨w, s, (dangerE w s).1⟩ := LgO.of (Classical.not_not.1 h20) hle hsl
  have hn64 := hs0.1
  have hwu := hw0
  unfold okW at hwu
  refine vskip (KK2 ?_)
  refine vone rfl (vxg (vmm (ek := evPc) (ev' := evI) rfl) rfl rfl ?_)
  rintro _ _ ⟨bm, rfl, rfl⟩
  refine AL fun b4 => ?_
  refine SU ?_
  refine KK3 ?_
  refine AL fun b5 => ?_
  refine KK3 ?_
  refine QQ (vmf rfl) rfl ?_
  refine AL fun b6 => ?_
  refine SU ?_
  refine KK3 ?_
  refine QQ (vmf rfl) rfl ?_
  refine SU ?_
  refine KK3 ?_
  refine QQ (vglF rfl) rfl ?_
  refine QB ?_
  refine AL fun b7 => ?_
  refine SN ?_
  refine KK3 ?_
  refine QL ?_
  have hB : ∀ C : Heap, BsO ((b6, blk [.func (.func 31) #[] #[ptr b3, ptr b5]] 114) :: (b5, blk [.func (.func 35) #[] #[ptr b3, ptr b4, ptr b6]] 106) :: (b4, blk [.map (some bm)] 105) :: (b3, blk (clLg ⟨h, oa1, c1⟩ ⟨w, s, (dangerE w s).1⟩) 102) :: (C ++ (B ++ ((b2, blk (clSc h s) 59) :: (b1, blk (clWn w) 37) :: H)))) ⟨h, oa1, c1⟩ ⟨w, s, (dangerE w s).1⟩ b3 b4 b5 b6 bm := fun C => ⟨inferInstance, inferInstance, inferInstance, inferInstance, inferInstance⟩
  refine QN ?_
  refine vone rfl (vxg (vcg (R := fun v H' => v = I (mostF ⟨w, s, (dangerE w s).1⟩ s.ship.length 0 sta0) ∧ ∃ l' c', H' = (b7, blk [I 0, I sta0.md, I sta0.qu] 110) :: (b6, blk [.func (.func 31) #[] #[ptr b3, ptr b5]] 114) :: (b5, blk [.func (.func 35) #[] #[ptr b3, ptr b4, ptr b6]] 106) :: (b4, blk [.map (some bm)] 105) :: (bm, mPc l' c') :: (b3, blk (clLg ⟨h, oa1, c1⟩ ⟨w, s, (dangerE w s).1⟩) 102) :: (B ++ ((b2, blk (clSc h s) 59) :: (b1, blk (clWn w) 37) :: H)) ∧ MK ⟨w, s, (dangerE w s).1⟩ l') rfl rfl rfl (VCall.atO (most_all ⟨w, s, (dangerE w s).1⟩ s.ship.length ((b7, blk [I 0, I sta0.md, I sta0.qu] 110) :: (b6, blk [.func (.func 31) #[] #[ptr b3, ptr b5]] 114) :: (b5, blk [.func (.func 35) #[] #[ptr b3, ptr b4, ptr b6]] 106) :: (b4, blk [.map (some bm)] 105) :: (b3, blk (clLg ⟨h, oa1, c1⟩ ⟨w, s, (dangerE w s).1⟩) 102) :: (B ++ ((b2, blk (clSc h s) 59) :: (b1, blk (clWn w) 37) :: H))) ⟨h, oa1, c1⟩ b3 b4 b5 b6 bm 0 sta0 [] 0 (hB []).cons (by omega) (by simp) sta0_ok MK.nil)) (fun o H' ⟨o', h1, h2, l', c', h3, h4⟩ => ⟨_, h2, rfl, l', c', by subst h3; exact h1, h4⟩)) rfl rfl ?_)
  rintro _ _ ⟨rfl, l0, c0, rfl, hmk0⟩
  refine QA ?_
  refine vnil (vseq (vblock ?_))
  refine VRun.perm (H' := (bm, mPc l0 c0) :: (b7, blk [I 0, I sta0.md, I sta0.qu] 110) :: (b6, blk [.func (.func 31) #[] #[ptr b3, ptr b5]] 114) :: (b5, blk [.func (.func 35) #[] #[ptr b3, ptr b4, ptr b6]] 106) :: (b4, blk [.map (some bm)] 105) :: (b3, blk (clLg ⟨h, oa1, c1⟩ ⟨w, s, (dangerE w s).1⟩) 102) :: (B ++ ((b2, blk (clSc h s) 59) :: (b1, blk (clWn w) 37) :: H))) (List.perm_middle (l₁ := [(b7, blk [I 0, I sta0.md, I sta0.qu] 110), (b6, blk [.func (.func 31) #[] #[ptr b3, ptr b5]] 114), (b5, blk [.func (.func 35) #[] #[ptr b3, ptr b4, ptr b6]] 106), (b4, blk [.map (some bm)] 105)])) ?_
  refine vwhile (σ := Nat × Sta × List EnP × Nat × Option Addr × Nat × Heap × List Int) (fun ⟨i, x, l, c, oa, cp, C, pre⟩ => s.ship.length - i) (fun ⟨i, x, l, c, oa, cp, C, pre⟩ => [(4, .slice oa i cp), (5, I (mostF ⟨w, s, (dangerE w s).1⟩ s.ship.length 0 sta0)), (7, ptr b3), (9, ptr b5), (10, ptr b6), (11, ptr b7)]) (fun ⟨i, x, l, c, oa, cp, C, pre⟩ => (bm, mPc l c) :: (b7, blk [I (i : Int), I x.md, I x.qu] 110) :: (b6, blk [.func (.func 31) #[] #[ptr b3, ptr b5]] 114) :: (b5, blk [.func (.func 35) #[] #[ptr b3, ptr b4, ptr b6]] 106) :: (b4, blk [.map (some bm)] 105) :: (b3, blk (clLg ⟨h, oa1, c1⟩ ⟨w, s, (dangerE w s).1⟩) 102) :: (C ++ (B ++ ((b2, blk (clSc h s) 59) :: (b1, blk (clWn w) 37) :: H)))) (fun ⟨i, x, l, c, oa, cp, C, pre⟩ => i ≤ s.ship.length ∧ okSt x ∧ MK ⟨w, s, (dangerE w s).1⟩ l ∧ pre.length = i ∧ OwnS 3 1 (.slice oa i cp) i (pre.flatMap encI) C ∧ pre ++ bestF ⟨w, s, (dangerE w s).1⟩ (s.ship.length - i) i x = bestF ⟨w, s, (dangerE w s).1⟩ s.ship.length 0 sta0) (0, sta0, l0, c0, Option.none, 0, [], []) ⟨Nat.zero_le _, sta0_ok, hmk0, rfl, OwnS.nil, rfl⟩ ⟨rfl, rfl, rfl, rfl, rfl, rfl, True.intro⟩ sb ?_
  rintro ⟨i, x, l, c, oa, cp, C, pre⟩ ⟨hin, hx, hmk, hpl, hown, hbf⟩ IH
  change VRun _ _ _ _ _ [(4, .slice oa i cp), (5, I (mostF ⟨w, s, (dangerE w s).1⟩ s.ship.length 0 sta0)), (7, ptr b3), (9, ptr b5), (10, ptr b6), (11, ptr b7)] _ ((bm, mPc l c) :: (b7, blk [I (i : Int), I x.md, I x.qu] 110) :: (b6, blk [.func (.func 31) #[] #[ptr b3, ptr b5]] 114) :: (b5, blk [.func (.func 35) #[] #[ptr b3, ptr b4, ptr b6]] 106) :: (b4, blk [.map (some bm)] 105) :: (b3, blk (clLg ⟨h, oa1, c1⟩ ⟨w, s, (dangerE w s).1⟩) 102) :: (C ++ (B ++ ((b2, blk (clSc h s) 59) :: (b1, blk (clWn w) 37) :: H)))) _
  refine vseq (vseq ?_)
  refine DR [(.q, 0), (.q, 1), (.q, 2), (.q, 3), (.q, 4), (.q, 5)] Tryz.mixed ?_
  refine DF ?_
  refine DL ?_
  refine DF ?_
  refine DN ?_
  refine DD (vcp rfl rfl rfl (c_steps h s)) rfl ?_
  refine DS ?_
  refine vdend rfl ?_
  refine vcondd rfl (fun h35 => ?_) (fun h35 => ?_)
  ·
   obtain ⟨n', hn'⟩ : ∃ n', s.ship.length - i = n' + 1 := ⟨s.ship.length - i - 1, by omega⟩
   obtain ⟨b, hbM, hbl, hbg, hbmin⟩ := bestM_min ⟨w, s, (dangerE w s).1⟩ (by simp only; omega) n' i x
   have hbl2 : b < w.soft.toNat + 2 := hbl
   refine vskip (vblock (KK2 ?_))
   refine QA ?_
   refine vnil (vseq (vblock ?_))
   refine vwhile (σ := Nat × List EnP × Nat) (fun ⟨m, l1, c3⟩ => b - m) (fun ⟨m, l1, c3⟩ => [(4, .slice oa i cp), (5, I (mostF ⟨w, s, (dangerE w s).1⟩ s.ship.length 0 sta0)), (7, ptr b3), (9, ptr b5), (10, ptr b6), (11, ptr b7), (12, I (m : Int))]) (fun ⟨m, l1, c3⟩ => (bm, mPc l1 c3) :: (b7, blk [I (i : Int), I x.md, I x.qu] 110) :: (b6, blk [.func (.func 31) #[] #[ptr b3, ptr b5]] 114) :: (b5, blk [.func (.func 35) #[] #[ptr b3, ptr b4, ptr b6]] 106) :: (b4, blk [.map (some bm)] 105) :: (b3, blk (clLg ⟨h, oa1, c1⟩ ⟨w, s, (dangerE w s).1⟩) 102) :: (C ++ (B ++ ((b2, blk (clSc h s) 59) :: (b1, blk (clWn w) 37) :: H)))) (fun ⟨m, l1, c3⟩ => m ≤ b ∧ MK ⟨w, s, (dangerE w s).1⟩ l1) (0, l, c) ⟨Nat.zero_le _, hmk⟩ ⟨rfl, rfl, rfl, rfl, rfl, rfl, rfl, True.intro⟩ sb ?_
   rintro ⟨m, l1, c3⟩ ⟨hm, hmk1⟩ IH1
   change VRun _ _ _ _ _ [(4, .slice oa i cp), (5, I (mostF ⟨w, s, (dangerE w s).1⟩ s.ship.length 0 sta0)), (7, ptr b3), (9, ptr b5), (10, ptr b6), (11, ptr b7), (12, I (m : Int))] _ ((bm, mPc l1 c3) :: (b7, blk [I (i : Int), I x.md, I x.qu] 110) :: (b6, blk [.func (.func 31) #[] #[ptr b3, ptr b5]] 114) :: (b5, blk [.func (.func 35) #[] #[ptr b3, ptr b4, ptr b6]] 106) :: (b4, blk [.map (some bm)] 105) :: (b3, blk (clLg ⟨h, oa1, c1⟩ ⟨w, s, (dangerE w s).1⟩) 102) :: (C ++ (B ++ ((b2, blk (clSc h s) 59) :: (b1, blk (clWn w) 37) :: H)))) _
   refine vseq (vseq ?_)
   refine vdrawP (G0 := [(bm, mPc l1 c3)]) (H0 := (b7, blk [I (i : Int), I x.md, I x.qu] 110) :: (b6, blk [.func (.func 31) #[] #[ptr b3, ptr b5]] 114) :: (b5, blk [.func (.func 35) #[] #[ptr b3, ptr b4, ptr b6]] 106) :: (b4, blk [.map (some bm)] 105) :: (b3, blk (clLg ⟨h, oa1, c1⟩ ⟨w, s, (dangerE w s).1⟩) 102) :: (C ++ (B ++ ((b2, blk (clSc h s) 59) :: (b1, blk (clWn w) 37) :: H)))) (.refl _) [(.q, 0), (.q, 1), (.q, 2), (.q, 4), (.q, 5), (.e, 3), (.e, 6), (.q, 7)] Tryz.mixed (by kernel_rfl) (allocOk_of _ (by kernel_rfl)) ?_
   refine DL ?_
   refine DN ?_
   refine DM ?_
   refine DL ?_
   refine DN ?_
   refine vde (mone rfl) (vcg (R := fun v H' => ∃ G2, H' = G2 ++ ((b7, blk [I (i : Int), I x.md, I x.qu] 110) :: (b6, blk [.func (.func 31) #[] #[ptr b3, ptr b5]] 114) :: (b5, blk [.func (.func 35) #[] #[ptr b3, ptr b4, ptr b6]] 106) :: (b4, blk [.map (some bm)] 105) :: (b3, blk (clLg ⟨h, oa1, c1⟩ ⟨w, s, (dangerE w s).1⟩) 102) :: (C ++ (B ++ ((b2, blk (clSc h s) 59) :: (b1, blk (clWn w) 37) :: H)))) ∧ (v = I (gainF ⟨w, s, (dangerE w s).1⟩ n' i x m) ∧ ∃ l' c', G2 = [(bm, mPc l' c')] ∧ MK ⟨w, s, (dangerE w s).1⟩ l')) rfl rfl rfl (gain_all ⟨w, s, (dangerE w s).1⟩ n' ((b7, blk [I (i : Int), I x.md, I x.qu] 110) :: (b6, blk [.func (.func 31) #[] #[ptr b3, ptr b5]] 114) :: (b5, blk [.func (.func 35) #[] #[ptr b3, ptr b4, ptr b6]] 106) :: (b4, blk [.map (some bm)] 105) :: (b3, blk (clLg ⟨h, oa1, c1⟩ ⟨w, s, (dangerE w s).1⟩) 102) :: (C ++ (B ++ ((b2, blk (clSc h s) 59) :: (b1, blk (clWn w) 37) :: H)))) ⟨h, oa1, c1⟩ b3 b4 b5 b6 bm i x m l1 c3 (hB C).cons (by omega) (by simp only; omega) hx hmk1) (fun o H' ⟨o', h1, h2, l', c', h3, h4⟩ => ⟨_, h2, [(bm, o')], h1, rfl, l', c', by rw [h3], h4⟩)) rfl rfl ?_
   rintro _ _ ⟨rfl, lg, cg, rfl, hmk2⟩
   refine vde (mone rfl) (vcg (R := fun v H' => ∃ G2, H' = G2 ++ ((b7, blk [I (i : Int), I x.md, I x.qu] 110) :: (b6, blk [.func (.func 31) #[] #[ptr b3, ptr b5]] 114) :: (b5, blk [.func (.func 35) #[] #[ptr b3, ptr b4, ptr b6]] 106) :: (b4, blk [.map (some bm)] 105) :: (b3, blk (clLg ⟨h, oa1, c1⟩ ⟨w, s, (dangerE w s).1⟩) 102) :: (C ++ (B ++ ((b2, blk (clSc h s) 59) :: (b1, blk (clWn w) 37) :: H)))) ∧ (v = I (mostF ⟨w, s, (dangerE w s).1⟩ (n' + 1) i x) ∧ ∃ l' c', G2 = [(bm, mPc l' c')] ∧ MK ⟨w, s, (dangerE w s).1⟩ l')) rfl rfl rfl (most_all ⟨w, s, (dangerE w s).1⟩ (n' + 1) ((b7, blk [I (i : Int), I x.md, I x.qu] 110) :: (b6, blk [.func (.func 31) #[] #[ptr b3, ptr b5]] 114) :: (b5, blk [.func (.func 35) #[] #[ptr b3, ptr b4, ptr b6]] 106) :: (b4, blk [.map (some bm)] 105) :: (b3, blk (clLg ⟨h, oa1, c1⟩ ⟨w, s, (dangerE w s).1⟩) 102) :: (C ++ (B ++ ((b2, blk (clSc h s) 59) :: (b1, blk (clWn w) 37) :: H)))) ⟨h, oa1, c1⟩ b3 b4 b5 b6 bm i x lg cg (hB C).cons (by omega) (by simp only; omega) hx hmk2) (fun o H' ⟨o', h1, h2, l', c', h3, h4⟩ => ⟨_, h2, [(bm, o')], h1, rfl, l', c', by rw [h3], h4⟩)) rfl rfl ?_
   rintro _ _ ⟨rfl, l2, c2, rfl, hmk3⟩
   refine DG ?_
   refine vdend rfl ?_
   refine vcondd rfl (fun h43 => ?_) (fun h43 => ?_)
   ·
    refine vskip (vblock (vregion ?_))
    refine QM ?_
    refine QQ (vadd rfl rfl (by unfold InR; omega)) rfl ?_
    refine QA ?_
    refine vnil (vinblock ?_)
    have hmb : m ≠ b := fun e => h43 (e ▸ hbg)
    exact vback (IH1 (m + 1, l2, c2) ⟨by omega, hmk3⟩ (by show _ - (m + 1) < _ - m; omega)) ⟨rfl, rfl, rfl, rfl, rfl, rfl, rfl, True.intro⟩ sb2
   ·
    have hmb : m = b := by rcases Nat.lt_or_ge m b with hlt | hge; exact absurd (Classical.not_not.1 h43) (hbmin m hlt); omega
    refine vexit (k' := _) rfl ?_
    refine KK2 ?_
    refine QM ?_
    refine QM ?_
    refine vone rfl (vxg (vbs rfl rfl rfl rfl rfl rfl) rfl rfl ?_)
    rintro _ _ ⟨bn, rfl, rfl⟩
    refine vone rfl (vxg (vappF (a := ⟨bn, 0, Option.none⟩) (m := 1) (c := 1) (size := 1) (bytes := 8) (F := fun X => (bn, blk [I (m : Int)] 3) :: (bm, mPc l2 c2) :: (b7, blk [I (i : Int), I x.md, I x.qu] 110) :: (b6, blk [.func (.func 31) #[] #[ptr b3, ptr b5]] 114) :: (b5, blk [.func (.func 35) #[] #[ptr b3, ptr b4, ptr b6]] 106) :: (b4, blk [.map (some bm)] 105) :: (b3, blk (clLg ⟨h, oa1, c1⟩ ⟨w, s, (dangerE w s).1⟩) 102) :: (X ++ (B ++ ((b2, blk (clSc h s) 59) :: (b1, blk (clWn w) 37) :: H)))) (B := C) (xs := pre.flatMap encI) (news := [I (m : Int)]) (fun X => perm_mid [(bn, blk [I (m : Int)] 3), (bm, mPc l2 c2), (b7, blk [I (i : Int), I x.md, I x.qu] 110), (b6, blk [.func (.func 31) #[] #[ptr b3, ptr b5]] 114), (b5, blk [.func (.func 35) #[] #[ptr b3, ptr b4, ptr b6]] 106), (b4, blk [.map (some bm)] 105), (b3, blk (clLg ⟨h, oa1, c1⟩ ⟨w, s, (dangerE w s).1⟩) 102)] X (B ++ ((b2, blk (clSc h s) 59) :: (b1, blk (clWn w) 37) :: H))) rfl rfl hown rfl (news_blk (b := bn) (List.Mem.head _)) (fun u hu => by rw [List.mem_singleton.1 hu]; rfl) (by omega) (by simp only [maxLen]; omega) (by omega)) rfl rfl ?_)
    rintro _ _ ⟨C2, hown2, _, rfl⟩
    obtain ⟨oa2, cp2, rfl, hle2⟩ := hown2.shape
    refine QA ?_
    refine vnil ?_
    refine DR [(.q, 0), (.q, 1), (.q, 2), (.q, 3), (.q, 4), (.q, 5), (.q, 6), (.q, 7), (.q, 8), (.q, 9), (.q, 10), (.c, 11)] Tryz.mixed ?_
    refine DF ?_
    refine DL ?_
    refine DD (vadd rfl rfl (by unfold InR; omega)) rfl ?_
    refine DN ?_
    refine DF ?_
    refine DL ?_
    refine DF ?_
    refine DN ?_
    refine DM ?_
    refine DD (vcq rfl rfl rfl (c_after ⟨h, oa1, c1⟩ ⟨w, s, (dangerE w s).1⟩ _ i (by simp only; omega) x hx m)) rfl ?_
    refine DB ?_
    refine vdcs (mone rfl) (vstn rfl rfl rfl rfl rfl) rfl ?_
    refine vdend rfl (vinblock ?_)
    exact vback (IH (i + 1, afterP ⟨w, s, (dangerE w s).1⟩ i x m, l2, c2, oa2, cp2, C2, pre ++ [(m : Int)]) ⟨by omega, after_okSt hw0 _ _ _, hmk3, by simp [hpl], by rw [List.flatMap_append]; exact hown2, by rw [← hbf, hn', bestF_succ, hbM, ← hmb, List.append_assoc, show s.ship.length - (i + 1) = n' by omega]; rfl⟩ (by show _ - (i + 1) < _ - i; omega)) ⟨rfl, rfl, rfl, rfl, rfl, rfl, True.intro⟩ sb2
  ·
   refine vexit (k' := _) rfl ?_
   refine KK2 ?_
   refine QM ?_
   refine QM ?_
   refine QA ?_
   refine QA ?_
   refine QA ?_
   refine vnil ?_
   refine vret (vr3 (H' := C ++ (B ++ H)) Tryz.func12 rfl (.tmp rfl) (.tmp rfl) (.tmp rfl) sb2 ?_)
   (have hi : i = s.ship.length := (by omega); subst hi; rw [best_y h20, ← hbf, Nat.sub_self]; simp only [bestF, List.append_nil]; exact ⟨_, rfl, C ++ B, by rw [List.append_assoc], oa, cp, by rw [hpl], (OwnS.slo (enc := encI) (l := pre) hown encI_len (by decide) rfl hpl).appLB⟩)
end Go.Proofs.YtmfmecgiaekelaaGreatDoor
namespace Go.Proofs.YtmfmecgiaekelaaGreatDoor
open Go
set_option maxRecDepth 100000
def wT : Wn := ⟨5, 2, 3, 1, 0, 1, 0⟩
def scT : Sc := ⟨[zR, zR, zR], [zR, zR, zR], [true, true, true], [false, false, false], []⟩
theorem smallT : smallR zR := by
  refine ⟨by unfold zR Rg.ok; decide, by decide, by decide, by kernel_rfl⟩
theorem okW_T : okW wT := by unfold okW wT; decide
theorem okSc_T : okSc scT := by
  refine ⟨by decide, by decide, by decide, by decide, by decide, ?_, ?_, ?_, ?_⟩
  · intro r hr; rw [show r = zR by simp [scT] at hr; exact hr]; exact smallT
  · intro r hr; rw [show r = zR by simp [scT] at hr; exact hr]; exact smallT
  · intro x hx; cases hx
  · intro i x y hx hy; cases hx
theorem chkS_T : chkS scT = 0 := chkS_t okSc_T
theorem both_T : ¬ bothE wT (chkS scT) ≠ 0 := by rw [chkS_T]; unfold bothE; rw [if_pos (chkW_t okW_T)]; simp
theorem risk_T : riskP wT scT = some [false, false, false] := by kernel_rfl
theorem danger_T : dangerE wT scT = ([false, false, false], 0) := danger_y both_T risk_T
theorem dang0_T : ¬ (dangerE wT scT).2 ≠ 0 := by rw [danger_T]; simp
def gT : Lg := ⟨wT, scT, [false, false, false]⟩
theorem best_T : bestE wT scT = ([0, 1, 2], 1, 0) := by
  rw [best_y dang0_T, danger_T]
  have h1 : bestF gT 3 0 sta0 = [0, 1, 2] := by kernel_rfl
  have h2 : mostF gT 3 0 sta0 = 1 := by kernel_rfl
  show (bestF gT 3 0 sta0, mostF gT 3 0 sta0, (0 : Int)) = _
  rw [h1, h2]
theorem guard_T : guardE wT 20 1 = (4, 0) := by kernel_rfl
end Go.Proofs.YtmfmecgiaekelaaGreatDoor
namespace Go.Proofs.YtmfmecgiaekelaaGreatDoor
open Go
set_option maxRecDepth 100000
attribute [local irreducible] tightP hullP rootP farP rows endsOf meetE gapE winR goV tabE bestE guardE
theorem veqK {P : Program} {N : Nat} {E : Env} {D : List Deferred} {H : Heap} {d : Nat} {x y : Operand} {T ty T' : TypeId} {pos : String} {af : Array Edge} {g : Option (Nat × Bool)} {u v : Value} {b : Bool} (hx : ev E x = some u) (hy : ev E y = some v) (h1 : ∀ w, (eqGuard .eql T x y u v).run P w = .ok () w) (h2 : ∀ w, (binOp .eql T u v).run P w = .ok (.bool b) w) :
    OQ P N E D H ⟨some d, .binOp .eql T x y T', ty, pos, af, g⟩ (.bool b) :=
  ov (by simp) (fun t w hA hE => by
    simp only [execOp, ev_eval hA hx, ev_eval hA hy, Sem.run_bind, h1, Result.andThen, h2, Sem.run_pure])
theorem vmksP {P : Program} {N : Nat} {E : Env} {D : List Deferred} {d : Nat} {x y : Operand} {T ty : TypeId} {pos : String} {af : Array Edge} {g : Option (Nat × Bool)} {n e esz by_ : Nat} {zs : List Value} [hT : TMs P T e esz by_ zs] (hx : ev E x = some (.int .i64 (n : Int))) (hy : ev E y = some (.int .i64 (n : Int))) (hz : zs.length = esz) (h0 : 0 < esz) (hn : by_ * n ≤ 281474976710656) (h6 : n ≤ 9223372036854775807) :
    ∀ t, Agree N E t → Psh P D ⟨some d, .makeSlice T x y, ty, pos, af, g⟩ t (fun b => .slice (some ⟨b, 0, Option.none⟩) n n) (blk (rep n zs) e) := by
  intro t hA w
  obtain ⟨i, z, h1, h2, h3, h4, h5⟩ := hT.inf
  have hb' : (i.bytes : Int) * (n : Int) ≤ 281474976710656 := by
    have h : ((i.bytes * n : Nat) : Int) ≤ 281474976710656 := by rw [h5]; omega
    rwa [Int.natCast_mul] at h
  have hr := run_make (P := P) w T e i z hT.und h1 h2 .i64 .i64 n n (by omega) (Int.le_refl _) hb' (by omega)
  have hm : madeCells z.cells (n * i.size) = (rep n zs).toArray := by
    unfold madeCells
    apply Array.ext'
    rw [h3, h4]
    refine List.ext_getElem? fun j => ?_
    by_cases hj : j < n * esz
    · have hp := Nat.mod_lt j h0
      simp only [Array.toList_map, Array.toList_range, List.getElem?_map, List.getElem?_range hj, Option.map_some]
      rw [rep_get _ _ _ (by rw [hz]; exact hj)]
      simp only [List.size_toArray, hz]
      rw [getElem!_pos _ _ (by simp [hz, hp])]
      simp [hz, hp]
    · have h5 : (rep n zs)[j]? = Option.none := List.getElem?_eq_none (by rw [rep_len, hz]; omega)
      have h6 : ((Array.range (n * esz)).map (fun i => zs.toArray[i % zs.toArray.size]!)).toList[j]? = Option.none := List.getElem?_eq_none (by simp; omega)
      rw [h6, h5]
  simp only [Int.toNat_natCast, hm] at hr
  simp only [execOp, ev_eval hA hx, ev_eval hA hy, hr, Sem.run_bind, Result.andThen, Sem.run_pure]
  rfl
instance tMsR : TMs Tryz.prog 56 28 8 64 [I 0, I 0, I 0, I 0, I 0, I 0, I 0, I 0] := mkTMs (z := .agg [I 0, I 0, I 0, I 0, I 0, I 0, I 0, I 0].toArray) (by kernel_rfl) (by kernel_rfl) rfl
instance tMsB : TMs Tryz.prog 57 4 1 1 [.bool false] := mkTMs (z := .bool false) (by kernel_rfl) (by kernel_rfl) rfl
abbrev encSh (x : Int × Int × Bool) : List Value := [I x.1, I x.2.1, .bool x.2.2]
abbrev shT (b1 b2 b3 b4 : Nat) : SH := ⟨some ⟨b1, 0, Option.none⟩, 3, some ⟨b2, 0, Option.none⟩, 3, some ⟨b3, 0, Option.none⟩, 3, some ⟨b4, 0, Option.none⟩, 3, Option.none, 0⟩
theorem sc_T {H : Heap} {b1 b2 b3 b4 : Nat} {T1 T2 T3 T4 : TypeId} {cr cr' cb cb' : List Value} (h1 : (b1, blk cr T1) ∈ H) (h2 : (b2, blk cr' T2) ∈ H) (h3 : (b3, blk cb T3) ∈ H) (h4 : (b4, blk cb' T4) ∈ H)
    (e1 : cr = [zR, zR, zR].flatMap clR) (e2 : cr' = [zR, zR, zR].flatMap clR) (e3 : cb = [true, true, true].flatMap encB) (e4 : cb' = [false, false, false].flatMap encB) : ScO H (shT b1 b2 b3 b4) scT := by
  haveI a1 : HAt H b1 cr T1 := ⟨h1⟩
  haveI a2 : HAt H b2 cr' T2 := ⟨h2⟩
  haveI a3 : HAt H b3 cb T3 := ⟨h3⟩
  haveI a4 : HAt H b4 cb' T4 := ⟨h4⟩
  exact ⟨SlO.flat (fun _ => rfl) e1, SlO.flat (fun _ => rfl) e2, SlO.flat (fun _ => rfl) e3, SlO.flat (fun _ => rfl) e4, SlO.nil, ⟨Nat.le_refl 3, Nat.le_refl 3⟩, (fun x hx => by cases hx), by decide⟩
theorem w_BestT (h : SH) (H : Heap) [hsc : ScO H h scT] [hgl : Glob H] : VCall Tryz.prog 12 [vWn wT, vSc h scT].toArray H (fun o H' => ∃ v, o = .val v ∧ ∃ B, H' = B ++ H ∧ ∃ oa c, v = tup [.slice oa 3 c, I 1, I 0] ∧ SlO B oa 1 encI [0, 1, 2]) := by
  refine (d_Best wT h scT H).mono fun o H' ⟨v, h1, B, h2, oa, c, h3, h5⟩ => ⟨v, h1, B, h2, oa, c, ?_, ?_⟩
  · rw [h3, best_T]; rfl
  · rw [best_T] at h5; exact h5
theorem w_GuardT : VPure Tryz.prog 7 [vWn wT, I 20, I 1] (tup [I 4, I 0]) := by
  have := c_Guard wT 20 1
  rw [guard_T] at this; exact this
theorem q_watched (H : Heap) [hgl : Glob H] : VHas Tryz.prog 6 [] (.bool true) H H := by
 refine CV 72 Tryz.func6 ?_
 refine KK2 ?_
 refine QA ?_
 refine KK3 ?_
 refine QB ?_
 refine AL fun b1 => ?_
 refine SN ?_
 refine vnil (vseq ?_)
 refine vdraw [(.m, 0), (.m, 1), (.m, 2), (.m, 3), (.q, 4), (.a (blk [.slice Option.none 0 0, .slice Option.none 0 0, .slice Option.none 0 0, .slice Option.none 0 0, .slice Option.none 0 0] 59), 5), (.s, 6)] Tryz.mixed (by kernel_rfl) ⟨⟨_, _, _, _, _, rfl, _, inferInstance, rfl⟩, True.intro⟩ ?_
 refine vdm (mone rfl) (vmksP (n := 3) (esz := 8) (by_ := 64) (zs := [I 0, I 0, I 0, I 0, I 0, I 0, I 0, I 0]) rfl rfl rfl (by decide) (by decide) (by decide)) rfl rfl (fun n1 => ?_)
 refine vdm (mone rfl) (vmksP (n := 3) (esz := 8) (by_ := 64) (zs := [I 0, I 0, I 0, I 0, I 0, I 0, I 0, I 0]) rfl rfl rfl (by decide) (by decide) (by decide)) rfl rfl (fun n2 => ?_)
 refine vdm (mone rfl) (vbsP rfl rfl rfl rfl rfl rfl) rfl rfl (fun n3 => ?_)
 refine vdm (mone rfl) (vmksP (n := 3) (esz := 1) (by_ := 1) (zs := [.bool false]) rfl rfl rfl (by decide) (by decide) (by decide)) rfl rfl (fun n4 => ?_)
 refine DB ?_
 refine vda rfl rfl (fun b2 => ?_)
 refine vds (mone rfl) (vstn rfl rfl rfl rfl rfl) rfl ?_
 refine vdend rfl (KK2 ?_)
 refine QN ?_
 refine QN ?_
 refine vone rfl (vxg (vcg rfl rfl rfl (w_BestT (hsc := sc_T (b1 := n1) (b2 := n2) (b3 := n3) (b4 := n4) (by repeat first | exact List.Mem.head _ | refine List.Mem.tail _ ?_) (by repeat first | exact List.Mem.head _ | refine List.Mem.tail _ ?_) (by repeat first | exact List.Mem.head _ | refine List.Mem.tail _ ?_) (by repeat first | exact List.Mem.head _ | refine List.Mem.tail _ ?_) rfl rfl rfl rfl) (shT n1 n2 n3 n4) _) (fun o H' h => h)) rfl rfl ?_)
 rintro _ _ ⟨BB, rfl, ⟨oa4, c4, rfl, hk5⟩⟩
 refine QM ?_
 refine QX ?_
 refine QX ?_
 refine QX ?_
 refine QA ?_
 refine QA ?_
 refine QA ?_
 refine KK3 ?_
 refine QN ?_
 refine QQ (vcp rfl rfl rfl (w_GuardT)) rfl ?_
 refine QM ?_
 refine QX ?_
 refine QX ?_
 refine QA ?_
 refine QA ?_
 refine KK3 ?_
 refine QB ?_
 refine vone rfl (vxg (vbs rfl rfl rfl rfl rfl rfl) rfl rfl ?_)
 rintro _ _ ⟨n5, rfl, rfl⟩
 refine vone rfl (vxg (vcg (R := fun v H' => ∃ oa' c' B, v = tup [.slice oa' 1 c', I 0] ∧ H' = B ++ _ ∧ OwnS 87 3 (.slice oa' 1 c') 1 [I 1, I 0, .bool false] B) rfl rfl rfl (d_Fire0 (hs := SlO.flat (b := n5) (fun _ => rfl) (by rfl)) (some ⟨n5, 0, Option.none⟩) 2 _) (fun o H' ⟨oa', c', B, e1, e2, e3⟩ => ⟨_, e1, oa', c', B, rfl, e2, e3⟩)) rfl rfl ?_)
 rintro _ _ ⟨oa5, c5, BF, rfl, rfl, hown⟩
 haveI hsF : SlO BF oa5 3 encSh [(1, 0, false)] := OwnS.slo (enc := encSh) (l := [(1, 0, false)]) hown (fun _ => rfl) (by decide) rfl rfl
 refine QM ?_
 refine QX ?_
 refine QX ?_
 refine QA ?_
 refine QA ?_
 refine KK3 ?_
 refine QM ?_
 refine QE ?_
 refine vknow (d := 35) (b' := true) rfl rfl ?_
 refine QM ?_
 refine YM ?_
 refine YE ?_
 refine vknow (d := 38) (b' := true) rfl rfl ?_
 refine QT ?_
 refine QM ?_
 refine YM ?_
 refine YE ?_
 refine vknow (d := 42) (b' := true) rfl rfl ?_
 refine QT ?_
 refine QM ?_
 refine YM ?_
 refine vyes rfl rfl rfl (vxg (vbs rfl rfl rfl rfl rfl rfl) rfl rfl ?_)
 rintro _ _ ⟨n6, rfl, rfl⟩
 refine YY (vcq rfl rfl rfl (c_AlikeI (SlO0 := inferInstance) (SlO1 := SlO.flat (b := n6) (fun _ => rfl) (by rfl)) [0, 1, 2] [0, 1, 2] oa4 (some ⟨n6, 0, Option.none⟩) 3 3 c4 3 rfl rfl (by decide) _)) rfl ?_
 refine vknow (d := 47) (b' := true) rfl (by decide) ?_
 refine QT ?_
 refine QM ?_
 refine YM ?_
 refine YE ?_
 refine vknow (d := 51) (b' := true) rfl rfl ?_
 refine QT ?_
 refine QM ?_
 refine YM ?_
 refine YE ?_
 refine vknow (d := 55) (b' := true) rfl rfl ?_
 refine QT ?_
 refine QM ?_
 refine YM ?_
 refine YY (vlen rfl) rfl ?_
 refine YE ?_
 refine vknow (d := 60) (b' := true) rfl rfl ?_
 refine QT ?_
 refine QM ?_
 refine YM ?_
 refine YY (visg (enc := encSh) (xs := [(1, 0, false)]) (z := (1, 0, false)) rfl rfl (by decide) rfl) rfl ?_
 refine YY (vldS (enc := encSh) (xs := [(1, 0, false)]) (z := (1, 0, false)) rfl rfl) rfl ?_
 refine YB ?_
 refine YY (veqK (b := true) rfl rfl (fun w => by kernel_rfl) (fun w => by kernel_rfl)) rfl ?_
 refine vknow (d := 67) (b' := true) rfl rfl ?_
 refine QT ?_
 refine QM ?_
 refine YY (vcq rfl rfl rfl (q_steered _)) rfl ?_
 refine vknow (d := 70) (b' := true) rfl rfl ?_
 refine QT ?_
 refine QA ?_
 refine vnil ?_
 refine vret (V1 (H) Tryz.func6 ?_)
 exact ⟨rfl, rfl⟩
end Go.Proofs.YtmfmecgiaekelaaGreatDoor
namespace Go.Proofs.YtmfmecgiaekelaaGreatDoor
open Go
set_option maxRecDepth 100000
attribute [local irreducible] tightP hullP rootP farP rows endsOf cntI edgesP longE valM phiM
abbrev clI (M : List Int) : List Value := M.map fun n => I n
theorem rep_I : ∀ n, rep n [Value.int .i64 0] = clI (List.replicate n 0)
  | 0 => rfl
  | n + 1 => by rw [rep, app_eq, rep_I n]; rfl
theorem nth_I {M : List Int} {i : Int} (h : 0 ≤ i ∧ i < M.length) : nth (clI M) (0 + i.toNat * 1) = some (I (valM M i)) := by
  rw [nth_eq, Nat.zero_add, Nat.mul_one]
  unfold valM
  obtain ⟨z, hz⟩ := get_of_lt M (i := i.toNat) (by omega)
  rw [hz]; simp [hz]
theorem put1_I : ∀ (M : List Int) (k : Nat) (v : Int), k < M.length → put (clI M) k [I v] = some (clI (M.set k v))
  | [], k, v, h => by cases h
  | x :: r, 0, v, _ => by simp only [clI, List.map_cons, put, List.set_cons_zero]
  | x :: r, k + 1, v, h => by
    simp only [clI, List.map_cons, List.set_cons_succ, put]
    have := put1_I r k v (by simpa using h)
    simp only [clI] at this
    rw [this]
theorem put_I {M : List Int} {i : Int} (v : Int) (h : 0 ≤ i ∧ i < M.length) : put (clI M) (0 + i.toNat * 1) [I v] = some (clI (M.set i.toNat v)) := by
  rw [Nat.zero_add, Nat.mul_one]; exact put1_I M i.toNat v (by omega)
theorem put_ex0 : ∀ (cs vs : List Value), vs.length ≤ cs.length → ∃ cs', put cs 0 vs = some cs' ∧ cs'.length = cs.length
  | cs, [], _ => ⟨cs, by cases cs <;> rfl, rfl⟩
  | [], v :: vs, h => by simp at h
  | c :: cs, v :: vs, h => by
    obtain ⟨cs', h1, h2⟩ := put_ex0 cs vs (by simpa using h)
    exact ⟨v :: cs', by simp only [put, h1], by simp [h2]⟩
theorem put_ex : ∀ (cs : List Value) (o : Nat) (vs : List Value), o + vs.length ≤ cs.length → ∃ cs', put cs o vs = some cs' ∧ cs'.length = cs.length
  | cs, 0, vs, h => put_ex0 cs vs (by omega)
  | [], o + 1, vs, h => by simp at h
  | c :: cs, o + 1, vs, h => by
    obtain ⟨cs', h1, h2⟩ := put_ex cs o vs (by simp only [List.length_cons] at h; omega)
    exact ⟨c :: cs', by simp only [put, h1], by simp [h2]⟩
theorem OkM.at_ {N : Int} {M : List Int} (h : OkM N M) {i : Int} (h0 : 0 ≤ i) (h1 : i ≤ N) : -N - 1 ≤ valM M i ∧ valM M i ≤ i := by
  have := h.2 i.toNat (by omega)
  rwa [show (i.toNat : Int) = i by omega] at this
theorem edP_ok {r : Rl} {l : List Int} {e : Ed} (hr : okRl r) (hn : l.length ≤ 256) (h : e ∈ edgesP r l) : EdOk (badT l) e := edQ_ok hr hn 3 e (by unfold edgesP at h; exact h)
theorem edP_len {r : Rl} {l : List Int} (hr : okRl r) (hl : bitL l) : (edgesP r l).length ≤ 323 := by have := edQ_len hr hl 3 (by omega); unfold edgesP; omega
theorem okM_rep (n : Nat) : OkM n (List.replicate (n + 1) 0) := by
  refine ⟨by simp, fun i hi => ?_⟩
  have : valM (List.replicate (n + 1) 0) i = 0 := by unfold valM; rw [Int.toNat_natCast, List.getElem?_replicate, if_pos (by omega)]; rfl
  omega
theorem okM_put {n : Nat} {M : List Int} (h : OkM n M) {i : Int} (h0 : 0 ≤ i) (h1 : i ≤ n) : OkM n (M.set i.toNat (-(n : Int) - 1)) := by
  have hl := h.1
  refine ⟨by rw [List.length_set]; exact hl, fun t ht => ?_⟩
  rw [valM_set (by omega) _ (by omega)]
  split
  · omega
  · exact h.2 t ht
theorem OkM.len {n : Nat} {M : List Int} (h : OkM n M) : M.length = n + 1 := by have := h.1; omega
structure RnI (es : List Ed) (n : Nat) (M0 : List Int) (j : Nat) (ch : Bool) (M : List Int) (cs : List Value) : Prop where
  ok : OkM n M
  len : cs.length = 5 * (n + 1)
  le : phiM M ≤ phiM M0
  lt : ch = true → phiM M < phiM M0
  fx : ch = false → M = M0 ∧ ∀ (t : Nat) e, t < j → es[t]? = some e → valM M0 e.a + e.least ≤ valM M0 e.b
theorem RnI.keep {es : List Ed} {n : Nat} {M0 M : List Int} {j : Nat} {ch : Bool} {cs : List Value} {e : Ed} (h : RnI es n M0 j ch M cs) (he : es[j]? = some e) (hc : ¬ valM M e.a + e.least > valM M e.b) : RnI es n M0 (j + 1) ch M cs :=
  ⟨h.ok, h.len, h.le, h.lt, fun hh => by
    obtain ⟨h1, h2⟩ := h.fx hh
    refine ⟨h1, fun t e' ht he' => ?_⟩
    by_cases hj : t = j
    · subst hj
      rw [he] at he'
      cases he'
      rw [h1] at hc; omega
    · exact h2 t e' (by omega) he'⟩
theorem RnI.turn {es : List Ed} {n : Nat} {M0 M : List Int} {j : Nat} {ch : Bool} {cs cs' : List Value} {e : Ed} (h : RnI es n M0 j ch M cs) (he : EdOk n e) (hl : cs'.length = cs.length) (hc : valM M e.a + e.least > valM M e.b) : RnI es n M0 (j + 1) true (M.set e.b.toNat (valM M e.a + e.least)) cs' := by
  obtain ⟨h1, h2⟩ := okM_set h.ok he hc
  have := h.le
  exact ⟨h1, by rw [hl]; exact h.len, by omega, fun _ => by omega, (fun hh => by cases hh)⟩
theorem RnI.fix {es : List Ed} {n : Nat} {M0 M : List Int} {cs : List Value} (h : RnI es n M0 es.length false M cs) : fixM M es := by
  obtain ⟨rfl, h2⟩ := h.fx rfl
  intro e he
  obtain ⟨t, ht, e'⟩ := List.mem_iff_getElem.1 he
  exact h2 t e ht (by rw [List.getElem?_eq_getElem ht, e'])
instance tMsE : TMs Tryz.prog 117 166 5 40 [I 0, I 0, I 0, I 0, I 0] := mkTMs (z := .agg [I 0, I 0, I 0, I 0, I 0].toArray) (by kernel_rfl) (by kernel_rfl) rfl
theorem d_fewest (r : Rl) (hr : okRl r) (l : List Int) (oa : Option Addr) (c : Nat) (H : Heap) [hsl : SlO H oa 1 encI l] (hl : bitL l) (hc : l.length ≤ c) (nb : Nat) (hnb : badT l = nb) : VCall Tryz.prog 38 [vRl r, .slice oa l.length c].toArray H (fun o H' => ∃ n1 n2 M, o = .val (tup [.slice (some ⟨n1, 0, Option.none⟩) (nb + 1) (nb + 1), .slice (some ⟨n2, 0, Option.none⟩) (nb + 1) (nb + 1)]) ∧ H' = (n1, blk (clI M) 3) :: H ∧ OkM nb M ∧ fixM M (edgesP r l)) := by
 have hl1 := hl.1
 have hbt := badT_bd hl
 have hel := edP_len hr hl
 refine CV 78 Tryz.func38 ?_
 refine KK2 ?_
 refine BX fun b1 => ?_
 refine QA ?_
 refine QA ?_
 refine KK3 ?_
 refine QM ?_
 refine QM ?_
 refine QQ (vlen rfl) rfl ?_
 refine QQ (vcq rfl rfl rfl (q_badA l oa c _ hl hc hnb)) rfl ?_
 refine QA ?_
 refine vnil (vseq ?_)
 refine DR [(.q, 0), (.q, 1), (.q, 3), (.q, 4), (.m, 2), (.q, 6), (.m, 5), (.q, 7)] Tryz.mixed ?_
 refine DM ?_
 refine DD (vadd rfl rfl (by unfold InR; omega)) rfl ?_
 refine DM ?_
 refine DD (vadd rfl rfl (by unfold InR; omega)) rfl ?_
 refine vdm (mone rfl) (vmksP (n := nb + 1) (esz := 1) (by_ := 8) (zs := [.int .i64 0]) rfl rfl rfl (by decide) (by omega) (by omega)) rfl rfl (fun n1 => ?_)
 refine DA ?_
 refine vdm (mone rfl) (vmksP (n := nb + 1) (esz := 5) (by_ := 40) (zs := [I 0, I 0, I 0, I 0, I 0]) rfl rfl rfl (by decide) (by omega) (by omega)) rfl rfl (fun n2 => ?_)
 refine DA ?_
 refine vdend rfl (vseq (KK2 ?_))
 refine QM ?_
 refine QM ?_
 refine vnil (vblock ?_)
 rw [rep_I (nb + 1)]
 refine vwhile (σ := Nat × List Int) (fun ⟨i, M⟩ => nb - i) (fun ⟨i, M⟩ => [(1, .slice oa l.length c), (2, ptr b1), (4, .slice (some ⟨n1, 0, Option.none⟩) (nb + 1) (nb + 1)), (5, .slice (some ⟨n2, 0, Option.none⟩) (nb + 1) (nb + 1)), (6, I (nb : Int)), (22, I (nb : Int)), (23, I (i : Int))]) (fun ⟨i, M⟩ => (n2, blk (rep (nb + 1) [I 0, I 0, I 0, I 0, I 0]) 166) :: (n1, blk (clI M) 3) :: (b1, blk (clRl r) 61) :: H) (fun ⟨i, M⟩ => i ≤ nb ∧ OkM nb M) (0, List.replicate (nb + 1) 0) ⟨Nat.zero_le _, okM_rep nb⟩ ⟨rfl, rfl, rfl, rfl, rfl, rfl, rfl, True.intro⟩ sb ?_
 rintro ⟨i, M⟩ ⟨hi, hM⟩ IH
 change VRun _ _ _ _ _ [(1, .slice oa l.length c), (2, ptr b1), (4, .slice (some ⟨n1, 0, Option.none⟩) (nb + 1) (nb + 1)), (5, .slice (some ⟨n2, 0, Option.none⟩) (nb + 1) (nb + 1)), (6, I (nb : Int)), (22, I (nb : Int)), (23, I (i : Int))] _ ((n2, blk (rep (nb + 1) [I 0, I 0, I 0, I 0, I 0]) 166) :: (n1, blk (clI M) 3) :: (b1, blk (clRl r) 61) :: H) _
 have hml := hM.len
 refine KK2 ?_
 refine QS ?_
 refine vnil (vseq ?_)
 refine vcondd rfl (fun h24 => ?_) (fun h24 => ?_)
 ·
  refine vskip (vseq (vblock (KK2 ?_)))
  refine QM ?_
  refine QA ?_
  refine vnil (vregion ?_)
  refine QM ?_
  refine QM ?_
  refine QQ (vadd rfl rfl (by unfold InR; omega)) rfl ?_
  refine QM ?_
  refine QQ (vneg rfl (by unfold InR; omega)) rfl ?_
  refine QQ (vsub rfl rfl (by unfold InR; omega)) rfl ?_
  refine QQ (vis rfl rfl (by omega)) rfl ?_
  refine vone rfl (vxs (vst1 (cs' := clI (M.set ((i : Int) + 1).toNat (-(nb : Int) - 1))) rfl rfl rfl (put_I _ (by omega))) rfl ?_)
  refine vnil (vinblock (vregion ?_))
  refine QQ (vadd rfl rfl (by unfold InR; omega)) rfl ?_
  refine QM ?_
  refine vnil ?_
  exact vback (IH (i + 1, M.set ((i : Int) + 1).toNat (-(nb : Int) - 1)) ⟨by omega, okM_put hM (by omega) (by omega)⟩ (by show _ - (i + 1) < _ - i; omega)) ⟨rfl, rfl, rfl, rfl, rfl, rfl, rfl, True.intro⟩ sb2
 ·
  refine vexit (k' := _) rfl ?_
  refine KK2 ?_
  refine QN ?_
  refine QM ?_
  refine vone rfl (vxg (vcg (R := fun v H' => ∃ oe ce C, v = .slice oe (edgesP r l).length ce ∧ H' = C ++ _ ∧ OwnS 166 5 (.slice oe (edgesP r l).length ce) (edgesP r l).length ((edgesP r l).flatMap encEd) C) rfl rfl rfl (d_edges r hr l oa c _ hl hc) (fun o H' ⟨oe, ce, C, e1, e2, e3⟩ => ⟨_, e1, oe, ce, C, rfl, e2, e3⟩)) rfl rfl ?_)
  rintro _ _ ⟨oe, ce, C, rfl, rfl, hown⟩
  haveI hse : SlO C oe 5 encEd (edgesP r l) := OwnS.slo (enc := encEd) (l := edgesP r l) hown (fun _ => rfl) (by decide) rfl rfl
  refine QA ?_
  refine vnil (vseq (KK2 ?_))
  refine QA ?_
  refine vnil (vblock ?_)
  refine VRun.perm (H' := (n2, blk (rep (nb + 1) [I 0, I 0, I 0, I 0, I 0]) 166) :: (n1, blk (clI M) 3) :: (C ++ ((b1, blk (clRl r) 61) :: H))) (perm_mid C [(n2, blk (rep (nb + 1) [I 0, I 0, I 0, I 0, I 0]) 166), (n1, blk (clI M) 3)] ((b1, blk (clRl r) 61) :: H)) ?_
  refine vwhile (σ := Bool × List Int × List Value) (fun ⟨ch, M, cs⟩ => (2 * phiM M).toNat + (if ch = true then 1 else 0)) (fun ⟨ch, M, cs⟩ => [(4, .slice (some ⟨n1, 0, Option.none⟩) (nb + 1) (nb + 1)), (5, .slice (some ⟨n2, 0, Option.none⟩) (nb + 1) (nb + 1)), (8, .slice oe (edgesP r l).length ce), (9, .bool ch)]) (fun ⟨ch, M, cs⟩ => (n2, blk cs 166) :: (n1, blk (clI M) 3) :: (C ++ H)) (fun ⟨ch, M, cs⟩ => OkM nb M ∧ cs.length = 5 * (nb + 1) ∧ (ch = false → fixM M (edgesP r l))) (true, M, rep (nb + 1) [I 0, I 0, I 0, I 0, I 0]) ⟨hM, by rw [rep_len]; simp; omega, fun hh => by cases hh⟩ ⟨rfl, rfl, rfl, rfl, True.intro⟩ sb2 ?_
  rintro ⟨ch, M, cs⟩ ⟨hM1, hcs, hfx⟩ IH1
  change VRun _ _ _ _ _ [(4, .slice (some ⟨n1, 0, Option.none⟩) (nb + 1) (nb + 1)), (5, .slice (some ⟨n2, 0, Option.none⟩) (nb + 1) (nb + 1)), (8, .slice oe (edgesP r l).length ce), (9, .bool ch)] _ ((n2, blk cs 166) :: (n1, blk (clI M) 3) :: (C ++ H)) _
  refine vseq (KK2 ?_)
  refine QM ?_
  refine vnil ?_
  refine vcond rfl (fun h37 => ?_) (fun h37 => ?_)
  ·
   refine vskip (vblock (KK2 ?_))
   refine QA ?_
   refine KK3 ?_
   refine QM ?_
   refine QQ (vlen rfl) rfl ?_
   refine QM ?_
   refine vnil (vblock ?_)
   refine vwhile (σ := Nat × Bool × List Int × List Value) (fun ⟨j, ch2, M2, cs2⟩ => (edgesP r l).length - j) (fun ⟨j, ch2, M2, cs2⟩ => [(4, .slice (some ⟨n1, 0, Option.none⟩) (nb + 1) (nb + 1)), (5, .slice (some ⟨n2, 0, Option.none⟩) (nb + 1) (nb + 1)), (8, .slice oe (edgesP r l).length ce), (9, .bool ch2), (38, .slice oe (edgesP r l).length ce), (39, I ((edgesP r l).length : Int)), (40, I (j : Int))]) (fun ⟨j, ch2, M2, cs2⟩ => (n2, blk cs2 166) :: (n1, blk (clI M2) 3) :: (C ++ H)) (fun ⟨j, ch2, M2, cs2⟩ => j ≤ (edgesP r l).length ∧ RnI (edgesP r l) nb M j ch2 M2 cs2) (0, false, M, cs) ⟨Nat.zero_le _, hM1, hcs, Int.le_refl _, (fun hh => by cases hh), fun _ => ⟨rfl, fun t e ht => by omega⟩⟩ ⟨rfl, rfl, rfl, rfl, rfl, rfl, rfl, True.intro⟩ sb ?_
   rintro ⟨j, ch2, M2, cs2⟩ ⟨hj, hR⟩ IH2
   change VRun _ _ _ _ _ [(4, .slice (some ⟨n1, 0, Option.none⟩) (nb + 1) (nb + 1)), (5, .slice (some ⟨n2, 0, Option.none⟩) (nb + 1) (nb + 1)), (8, .slice oe (edgesP r l).length ce), (9, .bool ch2), (38, .slice oe (edgesP r l).length ce), (39, I ((edgesP r l).length : Int)), (40, I (j : Int))] _ ((n2, blk cs2 166) :: (n1, blk (clI M2) 3) :: (C ++ H)) _
   refine KK2 ?_
   refine QS ?_
   refine vnil (vseq ?_)
   refine vcondd rfl (fun h41 => ?_) (fun h41 => ?_)
   ·
    obtain ⟨e, hz⟩ := get_of_lt (edgesP r l) (i := j) (by omega)
    have he : EdOk nb e := hnb ▸ edP_ok hr (by omega) (List.mem_of_getElem? hz)
    have he' := he
    unfold EdOk at he'
    have hml := hR.ok.len
    have hv1 := hR.ok.at_ (i := e.a) (by omega) (by omega)
    have hv2 := hR.ok.at_ (i := e.b) (by omega) (by omega)
    refine vskip (vseq (vblock (KK2 ?_)))
    refine QQ (visg (enc := encEd) rfl rfl (by omega) hz) rfl ?_
    refine QQ (vldS (enc := encEd) rfl hz) rfl ?_
    refine AL fun b9 => ?_
    refine SN ?_
    refine vnil (vseq ?_)
    refine DR [(.q, 0), (.q, 1), (.q, 2), (.q, 3), (.q, 4), (.q, 5), (.q, 6), (.q, 7), (.q, 8), (.q, 9), (.q, 10), (.q, 11), (.q, 12), (.q, 13)] Tryz.mixed ?_
    refine DM ?_
    refine DF ?_
    refine DL ?_
    refine DD (vis rfl rfl (by omega)) rfl ?_
    refine DD (vld1 rfl (nth_I (by omega))) rfl ?_
    refine DF ?_
    refine DL ?_
    refine DD (vadd rfl rfl (by unfold InR; omega)) rfl ?_
    refine DM ?_
    refine DF ?_
    refine DL ?_
    refine DD (vis rfl rfl (by omega)) rfl ?_
    refine DD (vld1 rfl (nth_I (by omega))) rfl ?_
    refine DD (vgtr rfl rfl) rfl ?_
    refine vdend rfl ?_
    refine vcondd rfl (fun h57 => ?_) (fun h57 => ?_)
    ·
     obtain ⟨cs3, hput, hcl3⟩ := put_ex cs2 (0 + e.b.toNat * 5) (encEd e) (by simp only [encEd, List.length_cons, List.length_nil]; have := hR.len; omega)
     refine vdrawP (G0 := [(n2, blk cs2 166), (n1, blk (clI M2) 3)]) (H0 := ((b9, blk (encEd e) 166) :: (C ++ H))) (perm_mid [(b9, blk (encEd e) 166)] [(n2, blk cs2 166), (n1, blk (clI M2) 3)] (C ++ H)) [(.q, 0), (.q, 1), (.q, 2), (.q, 3), (.q, 4), (.q, 5), (.q, 6), (.q, 7), (.q, 8), (.q, 9), (.q, 11), (.q, 12), (.q, 14), (.n, 10), (.q, 13), (.q, 15), (.s, 16), (.q, 17), (.s, 18), (.q, 19)] Tryz.mixed (by kernel_rfl) (allocOk_of _ (by kernel_rfl)) ?_
     refine DM ?_
     refine DF ?_
     refine DL ?_
     refine DM ?_
     refine DF ?_
     refine DL ?_
     refine DM ?_
     refine DF ?_
     refine DL ?_
     refine DD (vis rfl rfl (by omega)) rfl ?_
     refine DF ?_
     refine DL ?_
     refine DN ?_
     refine vdn rfl (mone rfl) (vld1 rfl (nth_I (by omega))) rfl rfl ?_
     refine DD (vadd rfl rfl (by unfold InR; omega)) rfl ?_
     refine DD (vis rfl rfl (by omega)) rfl ?_
     refine vds (mone rfl) (vst1 (cs' := clI (M2.set e.b.toNat (valM M2 e.a + e.least))) rfl rfl rfl (put_I _ (by omega))) rfl ?_
     refine DD (vis rfl rfl (by omega)) rfl ?_
     refine vds (mone rfl) (vstn (cs' := cs3) rfl rfl rfl rfl hput) rfl ?_
     refine DA ?_
     refine vdend rfl (vinblock (vregion ?_))
     refine QQ (vadd rfl rfl (by unfold InR; omega)) rfl ?_
     refine QM ?_
     refine vnil ?_
     first
      | exact vback (IH2 (j + 1, true, M2.set e.b.toNat (valM M2 e.a + e.least), cs3) ⟨by omega, hR.turn he hcl3 h57⟩ (by show _ - (j + 1) < _ - j; omega)) ⟨rfl, rfl, rfl, rfl, rfl, rfl, rfl, True.intro⟩ sb2
      | exact vback (IH2 (j + 1, ch2, M2, cs2) ⟨by omega, hR.keep hz h57⟩ (by show _ - (j + 1) < _ - j; omega)) ⟨rfl, rfl, rfl, rfl, rfl, rfl, rfl, True.intro⟩ sb2
    ·
     refine vskip (vinblock (vregion ?_))
     refine QQ (vadd rfl rfl (by unfold InR; omega)) rfl ?_
     refine QM ?_
     refine vnil ?_
     first
      | exact vback (IH2 (j + 1, true, M2.set e.b.toNat (valM M2 e.a + e.least), cs3) ⟨by omega, hR.turn he hcl3 h57⟩ (by show _ - (j + 1) < _ - j; omega)) ⟨rfl, rfl, rfl, rfl, rfl, rfl, rfl, True.intro⟩ sb2
      | exact vback (IH2 (j + 1, ch2, M2, cs2) ⟨by omega, hR.keep hz h57⟩ (by show _ - (j + 1) < _ - j; omega)) ⟨rfl, rfl, rfl, rfl, rfl, rfl, rfl, True.intro⟩ sb2
   ·
    refine vexit (k' := _) rfl ?_
    refine vinblock ?_
    have hjl : j = (edgesP r l).length := by omega
    subst hjl
    exact vback (IH1 (ch2, M2, cs2) ⟨hR.ok, hR.len, fun hh => by subst hh; exact hR.fix⟩ (by show (2 * phiM M2).toNat + (if ch2 = true then 1 else 0) < (2 * phiM M).toNat + (if ch = true then 1 else 0); have h1 := hR.le; have h2 := hR.lt; have h3 := phi_nn hR.ok; rw [if_pos h37]; cases ch2 <;> simp at h2 ⊢ <;> omega)) ⟨rfl, rfl, rfl, rfl, True.intro⟩ sb2
  ·
   refine vexit (k' := _) rfl ?_
   refine KK2 ?_
   refine QM ?_
   refine QM ?_
   refine QA ?_
   refine QA ?_
   refine vnil ?_
   refine vret (vr2 (H' := (n1, blk (clI M) 3) :: H) Tryz.func38 rfl (.tmp rfl) (.tmp rfl) sb2 ?_)
   exact ⟨n1, n2, M, rfl, rfl, hM1, hfx h37⟩
end Go.Proofs.YtmfmecgiaekelaaGreatDoor
namespace Go.Proofs.YtmfmecgiaekelaaGreatDoor
open Go
set_option maxRecDepth 100000
attribute [local irreducible] tightP hullP rootP farP rows endsOf cntI edgesP longE valM phiM wOf sumF dotF
theorem wOf_1 {r : Rl} {l M : List Int} {i : Nat} (hf : fixM M (edgesP r l)) (hi : i < l.length) (h1 : l[i]? = some 1) (hg : valM M (cntI l i + 1) > valM M (cntI l i + 1 - 1)) : wOf M l i = 1 := by
  rcases wOf_bit hf i hi with h | h
  · unfold wOf at h; rw [cntI_one h1] at h
    rw [show cntI l i + 1 - 1 = cntI l i by omega] at hg; omega
  · exact h.1
theorem wOf_0 {r : Rl} {l M : List Int} {i : Nat} (hf : fixM M (edgesP r l)) (hi : i < l.length) (h1 : l[i]? = some 1) (hg : ¬ valM M (cntI l i + 1) > valM M (cntI l i + 1 - 1)) : wOf M l i = 0 := by
  rcases wOf_bit hf i hi with h | h
  · exact h
  · have h := h.1
    unfold wOf at h; rw [cntI_one h1] at h
    rw [show cntI l i + 1 - 1 = cntI l i by omega] at hg; omega
theorem wOf_z {l M : List Int} {i : Nat} (h : l[i]? ≠ some 1) : wOf M l i = 0 := by unfold wOf; rw [cntI_zero h]; omega
theorem sumF_z (w : Nat → Int) : sumF w 0 = 0 := by unfold sumF; rfl
structure RpI (l M : List Int) (i : Nat) (A : List Int) : Prop where
  le : A.length ≤ i
  sum : (A.length : Int) = sumF (wOf M l) i
  el : ∀ x ∈ A, ∃ t : Nat, x = (t : Int) ∧ l[t]? = some 1
theorem RpI.first (l M : List Int) : RpI l M 0 [] := ⟨Nat.le_refl _, by rw [sumF_z]; rfl, fun x hx => by cases hx⟩
theorem RpI.keep {l M : List Int} {i : Nat} {A : List Int} (h : RpI l M i A) (hw : wOf M l i = 0) : RpI l M (i + 1) A := ⟨Nat.le_succ_of_le h.le, by rw [sumF_succ, hw, ← h.sum]; omega, h.el⟩
theorem RpI.more {l M : List Int} {i : Nat} {A : List Int} (h : RpI l M i A) (hw : wOf M l i = 1) (h1 : l[i]? = some 1) : RpI l M (i + 1) (A ++ [(i : Int)]) := by
  refine ⟨by have := h.le; simp; omega, by rw [sumF_succ, hw, ← h.sum]; simp, fun x hx => ?_⟩
  rcases List.mem_append.1 hx with hx | hx
  · exact h.el x hx
  · exact ⟨i, List.mem_singleton.1 hx, h1⟩
theorem RpI.good {r : Rl} {l M : List Int} {A : List Int} (hr : okRl r) (hn : l.length ≤ 256) (hf : fixM M (edgesP r l)) (h : RpI l M l.length A) : ∃ w, GoodW r l w ∧ (A.length : Int) = sumF w l.length :=
  ⟨_, good_of_fix hr hn hf, by rw [h.sum]; exact sumF_congr fun i hi => by rw [if_pos hi]⟩
abbrev encCl (x : Int × Int) : List Value := [I x.1, I x.2]
theorem BdI.zero (r : Rl) (l : List Int) : BdI r l 0 (List.replicate l.length 0) 0 := by
  have hv : ∀ i : Nat, valM (List.replicate l.length 0) i = 0 := fun i => by
    unfold valM
    rw [Int.toNat_natCast, List.getElem?_replicate]
    split <;> rfl
  refine ⟨by simp, fun i => by rw [hv]; simp, by simp, fun w _ => ?_⟩
  have : dotF (List.replicate l.length 0) w l.length = 0 := by
    unfold dotF
    rw [sumF_congr (w' := fun _ => 0) (fun i _ => by rw [hv, Int.zero_mul])]
    generalize l.length = n
    induction n with
    | zero => rw [sumF_z]
    | succ n ih => rw [sumF_succ, ih]; rfl
  omega
theorem d_Repeat (r : Rl) (l : List Int) (oa : Option Addr) (c : Nat) (H : Heap) [hsl : SlO H oa 1 encI l] (hl : bitL l) (hc : l.length ≤ c) : VCall Tryz.prog 13 [vRl r, .slice oa l.length c].toArray H (fun o H' => (¬ okRl r ∧ o = .val (tup [.slice Option.none 0 0, I 54]) ∧ H' = H) ∨ (okRl r ∧ ∃ oo co A C, o = .val (tup [.slice oo A.length co, I 0]) ∧ H' = C ++ H ∧ SlO C oo 1 encI A ∧ A.length ≤ 64 ∧ (∀ x ∈ A, ∃ t : Nat, x = (t : Int) ∧ l[t]? = some 1) ∧ ∃ w, GoodW r l w ∧ (A.length : Int) = sumF w l.length)) := by
 have hl1 := hl.1
 have hbt := badT_bd hl
 obtain ⟨nb, hnb⟩ : ∃ nb : Nat, badT l = nb := ⟨(badT l).toNat, by omega⟩
 refine CV 52 Tryz.func13 ?_
 refine KK2 ?_
 refine BX fun b1 => ?_
 refine QA ?_
 refine QA ?_
 refine vnil (vseq (KK2 ?_))
 refine QN ?_
 refine QM ?_
 refine QQ (vcq rfl rfl rfl (q_ruled r l oa c _ hl)) rfl ?_
 refine QA ?_
 refine KK3 ?_
 refine QM ?_
 refine QG ?_
 refine vnil ?_
 refine vcondd rfl (fun h17 => ?_) (fun h17 => ?_)
 ·
  refine KK2 ?_
  refine QM ?_
  refine QA ?_
  refine QA ?_
  refine vnil ?_
  refine vret (vr2 (H' := H) Tryz.func13 rfl (.tmp rfl) (.tmp rfl) sb2 ?_)
  exact .inl ⟨fun hh => h17 (chkRl_t hh), by rw [chkRl_f (fun hh => h17 (chkRl_t hh))], rfl⟩
 ·
  have hr := chkRl_z.1 (Classical.not_not.1 h17)
  refine vskip (KK2 ?_)
  refine QN ?_
  refine QM ?_
  refine vone rfl (vxg (vcg (R := fun v H' => ∃ n1 n2 M, v = tup [.slice (some ⟨n1, 0, Option.none⟩) (nb + 1) (nb + 1), .slice (some ⟨n2, 0, Option.none⟩) (nb + 1) (nb + 1)] ∧ H' = (n1, blk (clI M) 3) :: _ ∧ OkM nb M ∧ fixM M (edgesP r l)) rfl rfl rfl (d_fewest r hr l oa c _ hl hc nb hnb) (fun o H' ⟨n1, n2, M, e1, e2, e3, e4⟩ => ⟨_, e1, n1, n2, M, rfl, e2, e3, e4⟩)) rfl rfl ?_)
  rintro _ _ ⟨n1, n2, M, rfl, rfl, hM, hfx⟩
  refine QM ?_
  refine QX ?_
  refine QX ?_
  refine QA ?_
  refine QA ?_
  refine KK3 ?_
  refine QA ?_
  refine KK3 ?_
  refine QA ?_
  refine vnil (vseq (KK2 ?_))
  refine QM ?_
  refine QQ (vlen rfl) rfl ?_
  refine QM ?_
  refine vnil (vblock ?_)
  refine vwhile (σ := Nat × Option Addr × Nat × Heap × List Int) (fun ⟨i, oo, co, C, A⟩ => l.length - i) (fun ⟨i, oo, co, C, A⟩ => [(7, .slice (some ⟨n1, 0, Option.none⟩) (nb + 1) (nb + 1)), (9, .slice oo A.length co), (10, I (cntI l i)), (25, .slice oa l.length c), (26, I (l.length : Int)), (27, I (i : Int))]) (fun ⟨i, oo, co, C, A⟩ => (n1, blk (clI M) 3) :: (C ++ H)) (fun ⟨i, oo, co, C, A⟩ => i ≤ l.length ∧ OwnS 3 1 (.slice oo A.length co) A.length (A.flatMap encI) C ∧ RpI l M i A) (0, Option.none, 0, [], []) ⟨Nat.zero_le _, OwnS.nil, RpI.first l M⟩ ⟨rfl, rfl, by rw [cntI_z]; rfl, rfl, rfl, rfl, True.intro⟩ sb ?_
  rintro ⟨i, oo, co, C, A⟩ ⟨hi, hown, hA⟩ IH
  change VRun _ _ _ _ _ [(7, .slice (some ⟨n1, 0, Option.none⟩) (nb + 1) (nb + 1)), (9, .slice oo A.length co), (10, I (cntI l i)), (25, .slice oa l.length c), (26, I (l.length : Int)), (27, I (i : Int))] _ ((n1, blk (clI M) 3) :: (C ++ H)) _
  refine KK2 ?_
  refine QS ?_
  refine vnil (vseq ?_)
  refine vcondd rfl (fun h28 => ?_) (fun h28 => ?_)
  ·
   obtain ⟨z, hz⟩ := get_of_lt l (i := i) (by omega)
   refine vskip (vseq (vblock (KK2 ?_)))
   refine QM ?_
   refine QQ (visg (enc := encI) rfl rfl (by omega) hz) rfl ?_
   refine QQ (vldS1 (enc := encI) rfl hz rfl) rfl ?_
   refine QA ?_
   refine QA ?_
   refine vnil (vseq (KK2 ?_))
   refine QM ?_
   refine QG ?_
   refine vnil ?_
   refine vcondd rfl (fun h33 => ?_) (fun h33 => ?_)
   ·
    have hz0 : l[i]? ≠ some 1 := fun e => h33 (Option.some.inj (hz.symm.trans e))
    refine vexit (k' := _) rfl ?_
    refine vregion ?_
    refine QQ (vadd rfl rfl (by unfold InR; omega)) rfl ?_
    refine QM ?_
    refine vnil ?_
    first
     | exact vback (IH (i + 1, oo2, co2, C2, A ++ [(i : Int)]) ⟨by omega, by simp only [List.length_append, List.flatMap_append, List.length_cons, List.length_nil, List.flatMap_cons, List.flatMap_nil, List.append_nil]; exact hown2, hA.more (wOf_1 hfx (by omega) hz1 h45) hz1⟩ (by show _ - (i + 1) < _ - i; omega)) ⟨rfl, by simp only [List.length_append, List.length_cons, List.length_nil]; rfl, by rw [hcn]; rfl, rfl, rfl, rfl, True.intro⟩ sb2
     | exact vback (IH (i + 1, oo, co, C, A) ⟨by omega, hown, hA.keep (wOf_0 hfx (by omega) hz1 h45)⟩ (by show _ - (i + 1) < _ - i; omega)) ⟨rfl, rfl, by rw [hcn]; rfl, rfl, rfl, rfl, True.intro⟩ sb2
     | exact vback (IH (i + 1, oo, co, C, A) ⟨by omega, hown, hA.keep (wOf_z hz0)⟩ (by show _ - (i + 1) < _ - i; omega)) ⟨rfl, rfl, by rw [cntI_zero hz0]; rfl, rfl, rfl, rfl, True.intro⟩ sb2
   ·
    have hz1 : l[i]? = some 1 := hz.trans (congrArg some (Classical.not_not.1 h33))
    have hcn := cntI_one hz1
    have hcb := cntI_le l (a := i + 1) (b := l.length) (by omega)
    have hcc := cntI_nn l i
    have hbn : cntI l l.length = (nb : Int) := hnb
    have hml := hM.len
    refine vskip (KK2 ?_)
    refine QM ?_
    refine QQ (vadd rfl rfl (by unfold InR; omega)) rfl ?_
    refine QA ?_
    refine vnil (vseq ?_)
    refine DR [(.q, 0), (.q, 1), (.q, 2), (.q, 3), (.q, 4), (.q, 5), (.q, 6), (.q, 7), (.q, 8), (.q, 9)] Tryz.mixed ?_
    refine DM ?_
    refine DM ?_
    refine DD (vis rfl rfl (by omega)) rfl ?_
    refine DD (vld1 rfl (nth_I (by omega))) rfl ?_
    refine DM ?_
    refine DM ?_
    refine DD (vsub rfl rfl (by unfold InR; omega)) rfl ?_
    refine DD (vis rfl rfl (by omega)) rfl ?_
    refine DD (vld1 rfl (nth_I (by omega))) rfl ?_
    refine DD (vgtr rfl rfl) rfl ?_
    refine vdend rfl ?_
    refine vcondd rfl (fun h45 => ?_) (fun h45 => ?_)
    ·
     refine vregion ?_
     refine QM ?_
     refine QM ?_
     refine vone rfl (vxg (vbs rfl rfl rfl rfl rfl rfl) rfl rfl ?_)
     rintro _ _ ⟨n3, rfl, rfl⟩
     refine vone rfl (vxg (vappF (F := fun X => [(n3, blk [I (i : Int)] 3), (n1, blk (clI M) 3)] ++ (X ++ H)) (H0 := [(n3, blk [I (i : Int)] 3), (n1, blk (clI M) 3)] ++ H) (B := C) (xs := A.flatMap encI) (a := ⟨n3, 0, Option.none⟩) (m := 1) (c := 1) (size := 1) (bytes := 8) (news := [I (i : Int)]) (fun X => perm_mid [(n3, blk [I (i : Int)] 3), (n1, blk (clI M) 3)] X H) rfl rfl hown rfl (news_blk (b := n3) (List.Mem.head _)) (fun u hu => by rw [List.mem_singleton.1 hu]; rfl) (by omega) (by have := hA.le; simp only [maxLen]; omega) (by have := hA.le; omega)) rfl rfl ?_)
     rintro _ _ ⟨C2, hown2, _, rfl⟩
     obtain ⟨oo2, co2, rfl, _⟩ := hown2.shape
     refine QA ?_
     refine vnil (vinblock (vregion ?_))
     refine QQ (vadd rfl rfl (by unfold InR; omega)) rfl ?_
     refine QM ?_
     refine vnil ?_
     first
      | exact vback (IH (i + 1, oo2, co2, C2, A ++ [(i : Int)]) ⟨by omega, by simp only [List.length_append, List.flatMap_append, List.length_cons, List.length_nil, List.flatMap_cons, List.flatMap_nil, List.append_nil]; exact hown2, hA.more (wOf_1 hfx (by omega) hz1 h45) hz1⟩ (by show _ - (i + 1) < _ - i; omega)) ⟨rfl, by simp only [List.length_append, List.length_cons, List.length_nil]; rfl, by rw [hcn]; rfl, rfl, rfl, rfl, True.intro⟩ sb2
      | exact vback (IH (i + 1, oo, co, C, A) ⟨by omega, hown, hA.keep (wOf_0 hfx (by omega) hz1 h45)⟩ (by show _ - (i + 1) < _ - i; omega)) ⟨rfl, rfl, by rw [hcn]; rfl, rfl, rfl, rfl, True.intro⟩ sb2
      | exact vback (IH (i + 1, oo, co, C, A) ⟨by omega, hown, hA.keep (wOf_z hz0)⟩ (by show _ - (i + 1) < _ - i; omega)) ⟨rfl, rfl, by rw [cntI_zero hz0]; rfl, rfl, rfl, rfl, True.intro⟩ sb2
    ·
     refine vskip (vinblock (vregion ?_))
     refine QQ (vadd rfl rfl (by unfold InR; omega)) rfl ?_
     refine QM ?_
     refine vnil ?_
     first
      | exact vback (IH (i + 1, oo2, co2, C2, A ++ [(i : Int)]) ⟨by omega, by simp only [List.length_append, List.flatMap_append, List.length_cons, List.length_nil, List.flatMap_cons, List.flatMap_nil, List.append_nil]; exact hown2, hA.more (wOf_1 hfx (by omega) hz1 h45) hz1⟩ (by show _ - (i + 1) < _ - i; omega)) ⟨rfl, by simp only [List.length_append, List.length_cons, List.length_nil]; rfl, by rw [hcn]; rfl, rfl, rfl, rfl, True.intro⟩ sb2
      | exact vback (IH (i + 1, oo, co, C, A) ⟨by omega, hown, hA.keep (wOf_0 hfx (by omega) hz1 h45)⟩ (by show _ - (i + 1) < _ - i; omega)) ⟨rfl, rfl, by rw [hcn]; rfl, rfl, rfl, rfl, True.intro⟩ sb2
      | exact vback (IH (i + 1, oo, co, C, A) ⟨by omega, hown, hA.keep (wOf_z hz0)⟩ (by show _ - (i + 1) < _ - i; omega)) ⟨rfl, rfl, by rw [cntI_zero hz0]; rfl, rfl, rfl, rfl, True.intro⟩ sb2
  ·
   refine vexit (k' := _) rfl ?_
   refine KK2 ?_
   refine QM ?_
   refine QA ?_
   refine QA ?_
   refine vnil ?_
   refine vret (vr2 (H' := C ++ H) Tryz.func13 rfl (.tmp rfl) (.tmp rfl) sb2 ?_)
   (have hil : i = l.length := (by omega); subst hil; exact .inr ⟨hr, oo, co, A, C, rfl, rfl, OwnS.slo (enc := encI) (l := A) hown encI_len (by decide) rfl rfl, by have := hA.le; omega, hA.el, hA.good hr (by omega) hfx⟩)
theorem d_Bound (r : Rl) (l : List Int) (oa : Option Addr) (c : Nat) (H : Heap) [hsl : SlO H oa 1 encI l] (hl : bitL l) (hc : l.length ≤ c) (pf : List (Int × Int)) (op : Option Addr) (cp : Nat) [hspf : SlO H op 2 encCl pf] (hpl : pf.length ≤ 9223372036854775807) (hpr : ∀ x ∈ pf, InR x.1 ∧ InR x.2) : VCall Tryz.prog 14 [vRl r, .slice oa l.length c, .slice op pf.length cp].toArray H (fun o H' => H' = H ∧ ((¬ okRl r ∧ o = .val (tup [I 0, I 54])) ∨ (okRl r ∧ (o = .val (tup [I 0, I 56]) ∨ ∃ n, o = .val (tup [I n, I 0]) ∧ ∀ w, GoodW r l w → n ≤ sumF w l.length)))) := by
 have hl1 := hl.1
 refine CV 93 Tryz.func14 ?_
 refine KK2 ?_
 refine BX fun b1 => ?_
 refine QA ?_
 refine QA ?_
 refine vnil (vseq (KK2 ?_))
 refine QN ?_
 refine QM ?_
 refine QQ (vcq rfl rfl rfl (q_ruled r l oa c _ hl)) rfl ?_
 refine QA ?_
 refine KK3 ?_
 refine QM ?_
 refine QG ?_
 refine vnil ?_
 refine vcondd rfl (fun h22 => ?_) (fun h22 => ?_)
 ·
  refine KK2 ?_
  refine QM ?_
  refine QA ?_
  refine QA ?_
  refine vnil ?_
  refine vret (vr2 (H' := H) Tryz.func14 rfl (.tmp rfl) (.tmp rfl) sb2 ?_)
  exact ⟨rfl, .inl ⟨fun hh => h22 (chkRl_t hh), by rw [chkRl_f (fun hh => h22 (chkRl_t hh))]⟩⟩
 ·
  have hr := chkRl_z.1 (Classical.not_not.1 h22)
  refine vskip (vseq (KK2 ?_))
  refine QM ?_
  refine QQ (vlen rfl) rfl ?_
  refine QQ (vgtr rfl rfl) rfl ?_
  refine vnil ?_
  refine vcondd rfl (fun h26 => ?_) (fun h26 => ?_)
  ·
   refine KK2 ?_
   refine QA ?_
   refine QA ?_
   refine vnil ?_
   refine vret (vr2 (H' := H) Tryz.func14 rfl (.tmp rfl) (.tmp rfl) sb2 ?_)
   exact ⟨rfl, .inr ⟨hr, .inl rfl⟩⟩
  ·
   refine vskip (KK2 ?_)
   refine QM ?_
   refine QQ (vlen rfl) rfl ?_
   refine vone rfl (vxg (vmksN (n := l.length) (esz := 1) (by_ := 8) (zs := [.int .i64 0]) rfl rfl rfl (by decide) (by omega) (by omega)) rfl rfl ?_)
   rintro _ _ ⟨n1, rfl, rfl⟩
   refine QA ?_
   refine KK3 ?_
   refine QA ?_
   refine vnil (vseq (KK2 ?_))
   refine QM ?_
   refine QQ (vlen rfl) rfl ?_
   refine QM ?_
   refine vnil (vblock ?_)
   rw [rep_I l.length]
   refine vwhile (σ := Nat × List Int × Int) (fun ⟨j, K, nn⟩ => pf.length - j) (fun ⟨j, K, nn⟩ => [(1, .slice oa l.length c), (3, ptr b1), (9, .slice (some ⟨n1, 0, Option.none⟩) l.length l.length), (10, I nn), (30, .slice op pf.length cp), (31, I (pf.length : Int)), (32, I (j : Int))]) (fun ⟨j, K, nn⟩ => (n1, blk (clI K) 3) :: (b1, blk (clRl r) 61) :: H) (fun ⟨j, K, nn⟩ => j ≤ pf.length ∧ BdI r l j K nn) (0, List.replicate l.length 0, 0) ⟨Nat.zero_le _, BdI.zero r l⟩ ⟨rfl, rfl, rfl, rfl, rfl, rfl, rfl, True.intro⟩ sb ?_
   rintro ⟨j, K, nn⟩ ⟨hj, hB⟩ IH
   change VRun _ _ _ _ _ [(1, .slice oa l.length c), (3, ptr b1), (9, .slice (some ⟨n1, 0, Option.none⟩) l.length l.length), (10, I nn), (30, .slice op pf.length cp), (31, I (pf.length : Int)), (32, I (j : Int))] _ ((n1, blk (clI K) 3) :: (b1, blk (clRl r) 61) :: H) _
   refine KK2 ?_
   refine QS ?_
   refine vnil (vseq ?_)
   refine vcondd rfl (fun h33 => ?_) (fun h33 => ?_)
   ·
    obtain ⟨z, hz⟩ := get_of_lt pf (i := j) (by omega)
    have hzr := hpr z (List.mem_of_getElem? hz)
    refine vskip (vseq (vblock (KK2 ?_)))
    refine QQ (visg (enc := encCl) rfl rfl (by omega) hz) rfl ?_
    refine QQ (vldS (enc := encCl) rfl hz) rfl ?_
    refine AL fun b5 => ?_
    refine SN ?_
    refine KK3 ?_
    refine QN ?_
    refine QM ?_
    refine QN ?_
    refine vone rfl (vxg (vcg (R := fun v H' => ∃ x0 x1 x2 x3 x4 is, v = tup [.agg #[I x0, I x1, I x2, I x3, I x4], .bool is] ∧ H' = _ ∧ SpI r l.length z.1 z.2 x0 x1 x2 x3 x4 is) rfl rfl rfl (q_spans r hr l oa c _ hl z.1 z.2 hzr.2) (fun o H' ⟨x0, x1, x2, x3, x4, is, e1, e2, e3⟩ => ⟨_, e1, x0, x1, x2, x3, x4, is, rfl, e2, e3⟩)) rfl rfl ?_)
    rintro _ _ ⟨x0, x1, x2, x3, x4, is, rfl, rfl, hsp⟩
    cases is
    ·
     refine QM ?_
     refine QX ?_
     refine QX ?_
     refine AL fun b6 => ?_
     refine SN ?_
     refine QA ?_
     refine vnil (vseq (KK2 ?_))
     refine QM ?_
     refine QQ (vnot rfl) rfl ?_
     refine vnil (vcondt rfl (KK2 ?_))
     refine QA ?_
     refine QA ?_
     refine vnil ?_
     refine vret (vr2 (H' := H) Tryz.func14 rfl (.tmp rfl) (.tmp rfl) sb2 ?_)
     exact ⟨rfl, .inr ⟨hr, .inl rfl⟩⟩
    ·
     obtain ⟨long, allows, hlo, rfl, rfl, rfl, rfl, e4, hf0, hf1⟩ := hsp.yes rfl
     have e4 := e4.symm
     subst e4
     have hc1 := cntI_nn l z.2.toNat
     have hc2 := cntI_nn l (z.2 + long).toNat
     obtain ⟨g1, g2, g3, g4⟩ := long_bd hr ⟨by omega, by omega⟩ hlo
     have hnb := hB.nb
     refine QM ?_
     refine QX ?_
     refine QX ?_
     refine AL fun b6 => ?_
     refine SN ?_
     refine QA ?_
     refine vnil (vseq (KK2 ?_))
     refine QM ?_
     refine QQ (vnot rfl) rfl ?_
     refine vnil (vcondf rfl (vskip (vseq ?_)))
     refine DR [(.q, 0), (.q, 1), (.q, 2), (.q, 3), (.q, 4), (.q, 5), (.q, 6), (.q, 7), (.q, 8), (.q, 9), (.q, 10), (.q, 11)] Tryz.mixed ?_
     refine DM ?_
     refine DM ?_
     refine DF ?_
     refine DL ?_
     refine DF ?_
     refine DL ?_
     refine DD (vcq rfl rfl rfl (q_badI l oa c _ hl hc z.2 (z.2 + long) (by omega) (by omega) (by omega))) rfl ?_
     refine DF ?_
     refine DL ?_
     refine DD (vsub rfl rfl (by unfold InR; omega)) rfl ?_
     refine DD (vadd rfl rfl (by unfold InR; omega)) rfl ?_
     refine DA ?_
     refine vdend rfl (KK2 ?_)
     refine QF ?_
     refine QL ?_
     refine QA ?_
     refine vnil (vblock ?_)
     refine vwhile (σ := Nat × List Int) (fun ⟨i, K2⟩ => (z.2 + long).toNat - i) (fun ⟨i, K2⟩ => [(1, .slice oa l.length c), (3, ptr b1), (9, .slice (some ⟨n1, 0, Option.none⟩) l.length l.length), (10, I (nn + (cntI l (z.2 + long).toNat - cntI l z.2.toNat - allows))), (13, ptr b6), (15, I (i : Int)), (30, .slice op pf.length cp), (31, I (pf.length : Int)), (32, I (j : Int))]) (fun ⟨i, K2⟩ => (b6, blk [I z.1, I z.2, I z.2, I (z.2 + long), I allows] 123) :: (n1, blk (clI K2) 3) :: (b1, blk (clRl r) 61) :: H) (fun ⟨i, K2⟩ => (z.2.toNat ≤ i ∧ i ≤ (z.2 + long).toNat) ∧ BdJ l j K K2 z.2.toNat i) (z.2.toNat, K) ⟨⟨Nat.le_refl _, by omega⟩, BdJ.first hB z.2.toNat⟩ ⟨rfl, rfl, rfl, rfl, rfl, by rw [show ((z.2.toNat : Nat) : Int) = z.2 by omega]; rfl, rfl, rfl, rfl, True.intro⟩ sb ?_
     rintro ⟨i, K2⟩ ⟨⟨hi0, hi1⟩, hJ⟩ IH1
     change VRun _ _ _ _ _ [(1, .slice oa l.length c), (3, ptr b1), (9, .slice (some ⟨n1, 0, Option.none⟩) l.length l.length), (10, I (nn + (cntI l (z.2 + long).toNat - cntI l z.2.toNat - allows))), (13, ptr b6), (15, I (i : Int)), (30, .slice op pf.length cp), (31, I (pf.length : Int)), (32, I (j : Int))] _ ((b6, blk [I z.1, I z.2, I z.2, I (z.2 + long), I allows] 123) :: (n1, blk (clI K2) 3) :: (b1, blk (clRl r) 61) :: H) _
     have hkl := hJ.len
     have hkb := hJ.kb i
     refine vseq (KK2 ?_)
     refine QM ?_
     refine QF ?_
     refine QL ?_
     refine QS ?_
     refine vnil ?_
     refine vcondd rfl (fun h61 => ?_) (fun h61 => ?_)
     ·
      refine vskip (vseq (vblock (vregion ?_)))
      refine QM ?_
      refine QM ?_
      refine QQ (vis rfl rfl (by omega)) rfl ?_
      refine QQ (vld1 rfl (nth_I (by omega))) rfl ?_
      refine QQ (vadd rfl rfl (by unfold InR; omega)) rfl ?_
      refine QQ (vis rfl rfl (by omega)) rfl ?_
      refine vone rfl (vxs (vst1 (cs' := clI (K2.set (i : Int).toNat (valM K2 (i : Int) + 1))) rfl rfl rfl (put_I _ (by omega))) rfl ?_)
      refine vnil (vinblock (vregion ?_))
      refine QM ?_
      refine QQ (vadd rfl rfl (by unfold InR; omega)) rfl ?_
      refine QA ?_
      refine vnil ?_
      exact vback (IH1 (i + 1, K2.set (i : Int).toNat (valM K2 (i : Int) + 1)) ⟨⟨by omega, by omega⟩, hJ.next (by omega)⟩ (by show _ - (i + 1) < _ - i; omega)) ⟨rfl, rfl, rfl, rfl, rfl, rfl, rfl, rfl, rfl, True.intro⟩ sb2
     ·
      refine vexit (k' := _) rfl ?_
      refine vinblock (vregion ?_)
      refine QQ (vadd rfl rfl (by unfold InR; omega)) rfl ?_
      refine QM ?_
      refine vnil ?_
      have hie : i = (z.2 + long).toNat := by omega
      subst hie
      exact vback (IH (j + 1, K2, nn + (cntI l (z.2 + long).toNat - cntI l z.2.toNat - allows)) ⟨by omega, hJ.last hr (by omega) hB hlo hf0 hf1⟩ (by show _ - (j + 1) < _ - j; omega)) ⟨rfl, rfl, rfl, rfl, rfl, rfl, rfl, True.intro⟩ sb2
   ·
    refine vexit (k' := _) rfl ?_
    refine vseq (KK2 ?_)
    refine QM ?_
    refine QQ (vlen rfl) rfl ?_
    refine QM ?_
    refine vnil (vblock ?_)
    have hBf : BdI r l pf.length K nn := (show j = pf.length by omega) ▸ hB
    refine vwhile (σ := Nat × Int) (fun ⟨i, n⟩ => l.length - i) (fun ⟨i, n⟩ => [(1, .slice oa l.length c), (10, I n), (71, .slice (some ⟨n1, 0, Option.none⟩) l.length l.length), (72, I (l.length : Int)), (73, I (i : Int))]) (fun ⟨i, n⟩ => (n1, blk (clI K) 3) :: H) (fun ⟨i, n⟩ => i ≤ l.length ∧ BdK r l pf.length K i n) (0, nn) ⟨Nat.zero_le _, BdK.first ((show j = pf.length by omega) ▸ hB)⟩ ⟨rfl, rfl, rfl, rfl, rfl, True.intro⟩ sb ?_
    rintro ⟨i, n⟩ ⟨hi, hK⟩ IH2
    change VRun _ _ _ _ _ [(1, .slice oa l.length c), (10, I n), (71, .slice (some ⟨n1, 0, Option.none⟩) l.length l.length), (72, I (l.length : Int)), (73, I (i : Int))] _ ((n1, blk (clI K) 3) :: H) _
    have hkl := hBf.len
    have hkb := hBf.kb i
    have hkn := hK.nb
    have hji : (pf.length : Int) * (i : Int) ≤ 65536 := Int.le_trans (Int.mul_le_mul (show (pf.length : Int) ≤ 1024 by omega) (show (i : Int) ≤ 64 by omega) (by omega) (by omega)) (by decide)
    refine KK2 ?_
    refine QS ?_
    refine vnil (vseq ?_)
    refine vcondd rfl (fun h74 => ?_) (fun h74 => ?_)
    ·
     obtain ⟨z, hz⟩ := get_of_lt l (i := i) (by omega)
     refine vskip (vseq (vblock (KK2 ?_)))
     refine QM ?_
     refine QQ (vis rfl rfl (by omega)) rfl ?_
     refine QQ (vld1 rfl (nth_I (by omega))) rfl ?_
     refine QA ?_
     refine QA ?_
     refine KK3 ?_
     refine QM ?_
     refine QM ?_
     refine QQ (visg (enc := encI) rfl rfl (by omega) hz) rfl ?_
     refine QQ (vldS1 (enc := encI) rfl hz rfl) rfl ?_
     refine QE ?_
     refine QM ?_
     refine vsplitd (d := 83) rfl (fun h83 => ?_) (fun h83 => ?_)
     ·
      refine YM ?_
      refine YY (vgtr rfl rfl) rfl ?_
      refine QT ?_
      refine vnil ?_
      refine vcondd rfl (fun h86 => ?_) (fun h86 => ?_)
      ·
       refine vregion ?_
       refine QM ?_
       refine QM ?_
       refine QQ (vsub rfl rfl (by unfold InR; omega)) rfl ?_
       refine QQ (vsub rfl rfl (by unfold InR; omega)) rfl ?_
       refine QA ?_
       refine vnil (vinblock (vregion ?_))
       refine QQ (vadd rfl rfl (by unfold InR; omega)) rfl ?_
       refine QM ?_
       refine vnil ?_
       first
        | exact vback (IH2 (i + 1, n - (valM K (i : Int) - 1)) ⟨by omega, hK.take hBf h86⟩ (by show _ - (i + 1) < _ - i; omega)) ⟨rfl, rfl, rfl, rfl, rfl, True.intro⟩ sb2
        | exact vback (IH2 (i + 1, n) ⟨by omega, hK.keep hBf (fun hh => h86 hh.2)⟩ (by show _ - (i + 1) < _ - i; omega)) ⟨rfl, rfl, rfl, rfl, rfl, True.intro⟩ sb2
        | exact vback (IH2 (i + 1, n) ⟨by omega, hK.keep hBf (fun hh => h83 (Option.some.inj (hz.symm.trans hh.1)))⟩ (by show _ - (i + 1) < _ - i; omega)) ⟨rfl, rfl, rfl, rfl, rfl, True.intro⟩ sb2
      ·
       refine vskip (vinblock (vregion ?_))
       refine QQ (vadd rfl rfl (by unfold InR; omega)) rfl ?_
       refine QM ?_
       refine vnil ?_
       first
        | exact vback (IH2 (i + 1, n - (valM K (i : Int) - 1)) ⟨by omega, hK.take hBf h86⟩ (by show _ - (i + 1) < _ - i; omega)) ⟨rfl, rfl, rfl, rfl, rfl, True.intro⟩ sb2
        | exact vback (IH2 (i + 1, n) ⟨by omega, hK.keep hBf (fun hh => h86 hh.2)⟩ (by show _ - (i + 1) < _ - i; omega)) ⟨rfl, rfl, rfl, rfl, rfl, True.intro⟩ sb2
        | exact vback (IH2 (i + 1, n) ⟨by omega, hK.keep hBf (fun hh => h83 (Option.some.inj (hz.symm.trans hh.1)))⟩ (by show _ - (i + 1) < _ - i; omega)) ⟨rfl, rfl, rfl, rfl, rfl, True.intro⟩ sb2
     ·
      refine NO ?_
      refine NO ?_
      refine QU ?_
      refine vnil (vcondf rfl (vskip (vinblock (vregion ?_))))
      refine QQ (vadd rfl rfl (by unfold InR; omega)) rfl ?_
      refine QM ?_
      refine vnil ?_
      first
       | exact vback (IH2 (i + 1, n - (valM K (i : Int) - 1)) ⟨by omega, hK.take hBf h86⟩ (by show _ - (i + 1) < _ - i; omega)) ⟨rfl, rfl, rfl, rfl, rfl, True.intro⟩ sb2
       | exact vback (IH2 (i + 1, n) ⟨by omega, hK.keep hBf (fun hh => h86 hh.2)⟩ (by show _ - (i + 1) < _ - i; omega)) ⟨rfl, rfl, rfl, rfl, rfl, True.intro⟩ sb2
       | exact vback (IH2 (i + 1, n) ⟨by omega, hK.keep hBf (fun hh => h83 (Option.some.inj (hz.symm.trans hh.1)))⟩ (by show _ - (i + 1) < _ - i; omega)) ⟨rfl, rfl, rfl, rfl, rfl, True.intro⟩ sb2
    ·
     refine vexit (k' := _) rfl ?_
     refine KK2 ?_
     refine QM ?_
     refine QA ?_
     refine QA ?_
     refine vnil ?_
     refine vret (vr2 (H' := H) Tryz.func14 rfl (.tmp rfl) (.tmp rfl) sb2 ?_)
     (have hil : i = l.length := (by omega); subst hil; exact ⟨rfl, .inr ⟨hr, .inr ⟨n, rfl, hK.last⟩⟩⟩)
end Go.Proofs.YtmfmecgiaekelaaGreatDoor
namespace Go.Proofs.YtmfmecgiaekelaaGreatDoor
open Go
set_option maxRecDepth 100000
attribute [local irreducible] tightP hullP rootP farP rows endsOf cntI edgesP longE valM phiM wOf sumF dotF bestE dangerE
theorem best_e0T (w : Wn) (s : Sc) : (bestE w s).2.2 = (dangerE w s).2 := by
  by_cases h : (dangerE w s).2 ≠ 0
  · rw [best_e h]
  · rw [best_y h]; exact (Classical.not_not.1 h).symm
theorem best_noT {w : Wn} {s : Sc} (h : (bestE w s).2.2 ≠ 0) : (bestE w s).1 = [] ∧ (bestE w s).2.1 = 0 := by
  rw [best_e0T] at h
  rw [best_e h]; exact ⟨rfl, rfl⟩
theorem best_yesT {w : Wn} {s : Sc} (h : (bestE w s).2.2 = 0) : okW w ∧ fullN w (bestE w s).1 = (bestE w s).2.1 ∧ (bestE w s).1.length ≤ 64 := by
  rw [best_e0T] at h
  obtain ⟨hw, hs, _, _⟩ := danger_0 h
  rw [best_y (fun e => e h)]
  have hq : 0 ≤ (⟨w, s, (dangerE w s).1⟩ : Lg).w.soft := by show 0 ≤ w.soft; unfold okW at hw; omega
  refine ⟨hw, bestF_full ⟨w, s, (dangerE w s).1⟩ hq s.ship.length 0 sta0, ?_⟩
  rw [bestF_len]
  exact hs.1.2
def silL (w : Wn) (ml : List Int) : List Int := ml.map fun x => if x = w.soft + 1 then 0 else 1
theorem sil_len (w : Wn) (ml : List Int) : (silL w ml).length = ml.length := by unfold silL; simp
theorem sil_at {w : Wn} {ml : List Int} {t : Nat} {x : Int} (h : ml[t]? = some x) : (silL w ml)[t]? = some (if x = w.soft + 1 then 0 else 1) := by unfold silL; rw [List.getElem?_map, h]; rfl
theorem sil_bit {w : Wn} {ml : List Int} (h : ml.length ≤ 64) : bitL (silL w ml) := by
  refine ⟨by rw [sil_len]; exact h, fun n hn => ?_⟩
  unfold silL at hn
  obtain ⟨x, _, rfl⟩ := List.mem_map.1 hn
  split
  · exact .inl rfl
  · exact .inr rfl
theorem sil_one {w : Wn} {ml : List Int} {t : Nat} (h : (silL w ml)[t]? = some 1) : ∃ x, ml[t]? = some x ∧ ¬ x = w.soft + 1 := by
  unfold silL at h
  rw [List.getElem?_map] at h
  cases hx : ml[t]? with
  | none => rw [hx] at h; cases h
  | some x =>
    rw [hx] at h
    refine ⟨x, rfl, fun e => ?_⟩
    simp only [Option.map_some, Option.some.injEq, if_pos e] at h
    cases h
theorem full_snoc (w : Wn) (x : Int) : ∀ l : List Int, fullN w (l ++ [x]) = fullN w l + isFull w x
  | [] => by simp [fullN]
  | y :: r => by simp only [List.cons_append, fullN, full_snoc w x r]; omega
theorem full_bd (w : Wn) : ∀ l : List Int, 0 ≤ fullN w l ∧ fullN w l ≤ l.length
  | [] => by simp [fullN]
  | y :: r => by
    have := full_bd w r
    simp only [fullN, List.length_cons]; unfold isFull; split <;> omega
theorem full_y {w : Wn} {x : Int} (h : x = w.soft + 1) : isFull w x = 1 := if_pos h
theorem full_n {w : Wn} {x : Int} (h : ¬ x = w.soft + 1) : isFull w x = 0 := if_neg h
theorem w_Silent (w : Wn) (h : SH) (s : Sc) (r : Rl) (pf : List (Int × Int)) (op : Option Addr) (cp : Nat) (H : Heap) [hgl : Glob H] [hsc : ScO H h s] [hspf : SlO H op 2 encCl pf] (hpl : pf.length ≤ 9223372036854775807) (hpr : ∀ x ∈ pf, InR x.1 ∧ InR x.2) : VHas Tryz.prog 4 [vWn w, vSc h s, .agg ([I r.row, I r.win, I r.many, I r.total, .slice op pf.length cp]).toArray] (.bool true) H H := by
 refine CV 139 Tryz.func4 ?_
 refine KK2 ?_
 refine BX fun b1 => ?_
 refine BX fun b2 => ?_
 refine BX fun b3 => ?_
 refine QA ?_
 refine vnil (vseq ?_)
 refine vdraw [(.q, 0), (.q, 1), (.q, 2), (.q, 3), (.a (blk [.int .i64 0, .int .i64 0, .int .i64 0, .int .i64 0] 61), 4), (.s, 5), (.q, 6)] Tryz.mixed (by kernel_rfl) ⟨⟨_, _, _, _, _, rfl, _, inferInstance, rfl⟩, True.intro⟩ ?_
 refine DF ?_
 refine DN ?_
 refine DF ?_
 refine DL ?_
 refine vda rfl rfl (fun b4 => ?_)
 refine vds (mone rfl) (vstn rfl rfl rfl rfl rfl) rfl ?_
 refine DA ?_
 refine vdend rfl (KK2 ?_)
 refine QN ?_
 refine QN ?_
 refine vone rfl (vxg (vcg rfl rfl rfl (d_Best w h s _) (fun o H' h => h)) rfl rfl ?_)
 rintro _ _ ⟨BB, rfl, ⟨om, cm, rfl, hsm⟩⟩
 refine QM ?_
 refine QX ?_
 refine QX ?_
 refine QX ?_
 refine QA ?_
 refine QA ?_
 refine QA ?_
 refine vnil (vseq (KK2 ?_))
 refine QM ?_
 refine QG ?_
 refine vnil ?_
 refine vcondd rfl (fun h31 => ?_) (fun h31 => ?_)
 ·
  obtain ⟨hb1, hb2⟩ := best_noT h31
  refine KK2 ?_
  refine QM ?_
  refine QQ (vlen rfl) rfl ?_
  refine QE ?_
  refine vknow (d := 34) (b' := true) rfl (decide_eq_true (by rw [hb1]; rfl)) ?_
  refine QM ?_
  refine YM ?_
  refine YE ?_
  refine vknow (d := 37) (b' := true) rfl (decide_eq_true hb2) ?_
  refine QT ?_
  refine QM ?_
  refine YY (vcq rfl rfl rfl (q_watched _)) rfl ?_
  refine vknow (d := 40) (b' := true) rfl rfl ?_
  refine QT ?_
  refine QA ?_
  refine vnil ?_
  refine vret (V1 (H) Tryz.func4 ?_)
  exact ⟨rfl, rfl⟩
 ·
  obtain ⟨hwo, hfu, hml⟩ := best_yesT (Classical.not_not.1 h31)
  have hwo' := hwo
  unfold okW at hwo'
  refine vskip (KK2 ?_)
  refine QA ?_
  refine KK3 ?_
  refine QA ?_
  refine vnil (vseq (KK2 ?_))
  refine QA ?_
  refine vnil (vblock ?_)
  refine vwhile (σ := Nat × Option Addr × Nat × Heap) (fun ⟨t, ol, cl, C⟩ => (bestE w s).1.length - t) (fun ⟨t, ol, cl, C⟩ => [(3, ptr b1), (7, ptr b4), (8, .slice op pf.length cp), (9, .slice om (bestE w s).1.length cm), (10, I (bestE w s).2.1), (12, .slice ol t cl), (13, I (fullN w (((bestE w s).1).take t))), (14, I (t : Int))]) (fun ⟨t, ol, cl, C⟩ => C ++ (BB ++ ((b4, blk (clRl r) 61) :: (b3, blk [I r.row, I r.win, I r.many, I r.total, .slice op pf.length cp] 64) :: (b2, blk (clSc h s) 59) :: (b1, blk (clWn w) 37) :: H))) (fun ⟨t, ol, cl, C⟩ => t ≤ (bestE w s).1.length ∧ OwnS 3 1 (.slice ol t cl) t (((silL w (bestE w s).1).take t).flatMap encI) C) (0, Option.none, 0, []) ⟨Nat.zero_le _, OwnS.nil⟩ ⟨rfl, rfl, rfl, rfl, rfl, rfl, rfl, rfl, True.intro⟩ (.refl _) ?_
  rintro ⟨t, ol, cl, C⟩ ⟨ht, hown⟩ IH
  change VRun _ _ _ _ _ [(3, ptr b1), (7, ptr b4), (8, .slice op pf.length cp), (9, .slice om (bestE w s).1.length cm), (10, I (bestE w s).2.1), (12, .slice ol t cl), (13, I (fullN w (((bestE w s).1).take t))), (14, I (t : Int))] _ (C ++ (BB ++ ((b4, blk (clRl r) 61) :: (b3, blk [I r.row, I r.win, I r.many, I r.total, .slice op pf.length cp] 64) :: (b2, blk (clSc h s) 59) :: (b1, blk (clWn w) 37) :: H))) _
  refine vseq (KK2 ?_)
  refine QM ?_
  refine QM ?_
  refine QQ (vlen rfl) rfl ?_
  refine QS ?_
  refine vnil ?_
  refine vcondd rfl (fun h45 => ?_) (fun h45 => ?_)
  ·
   obtain ⟨x, hx⟩ := get_of_lt (bestE w s).1 (i := t) (by omega)
   have htk := take_succ_of (sil_at (w := w) hx)
   have hmk := take_succ_of hx
   have hfb := full_bd w (((bestE w s).1).take t)
   have hfl := List.length_take_le t (bestE w s).1
   refine vskip (vseq (vblock (vseq ?_)))
   refine DR [(.q, 0), (.q, 1), (.q, 2), (.q, 3), (.q, 4), (.q, 5), (.q, 6), (.q, 7)] Tryz.mixed ?_
   refine DM ?_
   refine DM ?_
   refine DD (visg (enc := encI) rfl rfl (by omega) hx) rfl ?_
   refine DD (vldS1 (enc := encI) rfl hx rfl) rfl ?_
   refine DF ?_
   refine DL ?_
   refine DD (vadd rfl rfl (by unfold InR; omega)) rfl ?_
   refine DE ?_
   refine vdend rfl ?_
   refine vcondd rfl (fun h55 => ?_) (fun h55 => ?_)
   ·
    refine KK2 ?_
    refine QM ?_
    refine vone rfl (vxg (vbs rfl rfl rfl rfl rfl rfl) rfl rfl ?_)
    rintro _ _ ⟨n5, rfl, rfl⟩
    refine vone rfl (vxg (vappF (F := fun X => (n5, blk [I 0] 3) :: (X ++ (BB ++ ((b4, blk (clRl r) 61) :: (b3, blk [I r.row, I r.win, I r.many, I r.total, .slice op pf.length cp] 64) :: (b2, blk (clSc h s) 59) :: (b1, blk (clWn w) 37) :: H)))) (H0 := (n5, blk [I 0] 3) :: (BB ++ ((b4, blk (clRl r) 61) :: (b3, blk [I r.row, I r.win, I r.many, I r.total, .slice op pf.length cp] 64) :: (b2, blk (clSc h s) 59) :: (b1, blk (clWn w) 37) :: H))) (B := C) (xs := (((silL w (bestE w s).1)).take t).flatMap encI) (a := ⟨n5, 0, Option.none⟩) (m := 1) (c := 1) (size := 1) (bytes := 8) (news := [I 0]) (fun X => perm_mid [(n5, blk [I 0] 3)] X (BB ++ ((b4, blk (clRl r) 61) :: (b3, blk [I r.row, I r.win, I r.many, I r.total, .slice op pf.length cp] 64) :: (b2, blk (clSc h s) 59) :: (b1, blk (clWn w) 37) :: H))) rfl rfl hown rfl (news_blk (b := n5) (List.Mem.head _)) (fun u hu => by rw [List.mem_singleton.1 hu]; rfl) (by omega) (by simp only [maxLen]; omega) (by omega)) rfl rfl ?_)
    rintro _ _ ⟨C3, hown3, _, rfl⟩
    obtain ⟨ol3, cl3, rfl, _⟩ := hown3.shape
    refine QA ?_
    refine vnil (vregion ?_)
    refine QM ?_
    refine QQ (vadd rfl rfl (by unfold InR; omega)) rfl ?_
    refine QA ?_
    refine vnil (vinblock (vregion ?_))
    refine QM ?_
    refine QQ (vadd rfl rfl (by unfold InR; omega)) rfl ?_
    refine QA ?_
    refine vnil ?_
    first
     | exact vback (IH (t + 1, ol3, cl3, C3) ⟨by omega, by rw [htk, if_pos h55, List.flatMap_append]; exact hown3⟩ (by show _ - (t + 1) < _ - t; omega)) ⟨rfl, rfl, rfl, rfl, rfl, rfl, by rw [hmk, full_snoc, full_y h55]; rfl, rfl, True.intro⟩ (.cons _ (.refl _))
     | exact vback (IH (t + 1, ol3, cl3, C3) ⟨by omega, by rw [htk, if_neg h55, List.flatMap_append]; exact hown3⟩ (by show _ - (t + 1) < _ - t; omega)) ⟨rfl, rfl, rfl, rfl, rfl, rfl, by rw [hmk, full_snoc, full_n h55, Int.add_zero]; rfl, rfl, True.intro⟩ (.cons _ (.refl _))
   ·
    refine vregion ?_
    refine QM ?_
    refine vone rfl (vxg (vbs rfl rfl rfl rfl rfl rfl) rfl rfl ?_)
    rintro _ _ ⟨n5, rfl, rfl⟩
    refine vone rfl (vxg (vappF (F := fun X => (n5, blk [I 1] 3) :: (X ++ (BB ++ ((b4, blk (clRl r) 61) :: (b3, blk [I r.row, I r.win, I r.many, I r.total, .slice op pf.length cp] 64) :: (b2, blk (clSc h s) 59) :: (b1, blk (clWn w) 37) :: H)))) (H0 := (n5, blk [I 1] 3) :: (BB ++ ((b4, blk (clRl r) 61) :: (b3, blk [I r.row, I r.win, I r.many, I r.total, .slice op pf.length cp] 64) :: (b2, blk (clSc h s) 59) :: (b1, blk (clWn w) 37) :: H))) (B := C) (xs := (((silL w (bestE w s).1)).take t).flatMap encI) (a := ⟨n5, 0, Option.none⟩) (m := 1) (c := 1) (size := 1) (bytes := 8) (news := [I 1]) (fun X => perm_mid [(n5, blk [I 1] 3)] X (BB ++ ((b4, blk (clRl r) 61) :: (b3, blk [I r.row, I r.win, I r.many, I r.total, .slice op pf.length cp] 64) :: (b2, blk (clSc h s) 59) :: (b1, blk (clWn w) 37) :: H))) rfl rfl hown rfl (news_blk (b := n5) (List.Mem.head _)) (fun u hu => by rw [List.mem_singleton.1 hu]; rfl) (by omega) (by simp only [maxLen]; omega) (by omega)) rfl rfl ?_)
    rintro _ _ ⟨C3, hown3, _, rfl⟩
    obtain ⟨ol3, cl3, rfl, _⟩ := hown3.shape
    refine QA ?_
    refine vnil (vinblock (vregion ?_))
    refine QM ?_
    refine QQ (vadd rfl rfl (by unfold InR; omega)) rfl ?_
    refine QA ?_
    refine vnil ?_
    first
     | exact vback (IH (t + 1, ol3, cl3, C3) ⟨by omega, by rw [htk, if_pos h55, List.flatMap_append]; exact hown3⟩ (by show _ - (t + 1) < _ - t; omega)) ⟨rfl, rfl, rfl, rfl, rfl, rfl, by rw [hmk, full_snoc, full_y h55]; rfl, rfl, True.intro⟩ (.cons _ (.refl _))
     | exact vback (IH (t + 1, ol3, cl3, C3) ⟨by omega, by rw [htk, if_neg h55, List.flatMap_append]; exact hown3⟩ (by show _ - (t + 1) < _ - t; omega)) ⟨rfl, rfl, rfl, rfl, rfl, rfl, by rw [hmk, full_snoc, full_n h55, Int.add_zero]; rfl, rfl, True.intro⟩ (.cons _ (.refl _))
  ·
   have hte : t = (silL w (bestE w s).1).length := by rw [sil_len]; omega
   subst hte
   rw [List.take_length] at hown
   haveI hsl : SlO C ol 1 encI (silL w (bestE w s).1) := OwnS.slo (enc := encI) (l := (silL w (bestE w s).1)) hown encI_len (by decide) rfl rfl
   have hbit : bitL (silL w (bestE w s).1) := sil_bit hml
   have hcl : (silL w (bestE w s).1).length ≤ cl := by obtain ⟨_, _, e1, e2⟩ := hown.shape; cases e1; exact e2
   have hgf : fullN w (((bestE w s).1).take (silL w (bestE w s).1).length) = (bestE w s).2.1 := by rw [sil_len, List.take_length]; exact hfu
   refine vexit (k' := _) rfl ?_
   refine KK2 ?_
   refine QN ?_
   refine QM ?_
   refine vone rfl (vxg (vcg (R := fun v H' => (¬ okRl r ∧ v = tup [.slice Option.none 0 0, I 54] ∧ H' = C ++ (BB ++ ((b4, blk (clRl r) 61) :: (b3, blk [I r.row, I r.win, I r.many, I r.total, .slice op pf.length cp] 64) :: (b2, blk (clSc h s) 59) :: (b1, blk (clWn w) 37) :: H))) ∨ (okRl r ∧ ∃ oo co A C2, v = tup [.slice oo A.length co, I 0] ∧ H' = C2 ++ (C ++ (BB ++ ((b4, blk (clRl r) 61) :: (b3, blk [I r.row, I r.win, I r.many, I r.total, .slice op pf.length cp] 64) :: (b2, blk (clSc h s) 59) :: (b1, blk (clWn w) 37) :: H))) ∧ SlO C2 oo 1 encI A ∧ A.length ≤ 64 ∧ (∀ x ∈ A, ∃ t : Nat, x = (t : Int) ∧ (silL w (bestE w s).1)[t]? = some 1) ∧ ∃ w', GoodW r (silL w (bestE w s).1) w' ∧ (A.length : Int) = sumF w' (silL w (bestE w s).1).length)) rfl rfl rfl (d_Repeat r (silL w (bestE w s).1) ol cl _ hbit hcl) (fun o H' hh => by rcases hh with ⟨e1, e2, e3⟩ | ⟨e1, oo, co, A, C2, e2, e3, e4⟩; exact ⟨_, e2, .inl ⟨e1, rfl, e3⟩⟩; exact ⟨_, e2, .inr ⟨e1, oo, co, A, C2, rfl, e3, e4⟩⟩)) rfl rfl ?_)
   rintro v1 H1 hrp
   rcases hrp with ⟨hnr, rfl, rfl⟩ | ⟨hr, oo, co, A, C2, rfl, rfl, hsA, hA64, hAel, w', hgw, hAs⟩
   ·
    refine QM ?_
    refine QX ?_
    refine QX ?_
    refine QA ?_
    refine QA ?_
    refine vnil (vseq (KK2 ?_))
    refine QM ?_
    refine QG ?_
    refine vknow (d := 71) (b' := true) rfl (by decide) ?_
    refine vnil (vcondt rfl (KK2 ?_))
    refine QM ?_
    refine QE ?_
    refine vknow (d := 73) (b' := true) rfl (by decide) ?_
    refine QM ?_
    refine YM ?_
    refine YM ?_
    refine YE ?_
    refine vknow (d := 77) (b' := true) rfl (decide_eq_true hgf) ?_
    refine QT ?_
    refine QM ?_
    refine YY (vcq rfl rfl rfl (q_watched _)) rfl ?_
    refine vknow (d := 80) (b' := true) rfl rfl ?_
    refine QT ?_
    refine QA ?_
    refine vnil ?_
    refine vret (V1 (H) Tryz.func4 ?_)
    exact ⟨rfl, rfl⟩
   ·
    refine QM ?_
    refine QX ?_
    refine QX ?_
    refine QA ?_
    refine QA ?_
    refine vnil (vseq (KK2 ?_))
    refine QM ?_
    refine QG ?_
    refine vknow (d := 71) (b' := false) rfl (by decide) ?_
    refine vnil (vcondf rfl (vskip (KK2 ?_)))
    refine QN ?_
    refine QM ?_
    refine QM ?_
    refine vone rfl (vxg (vcg (R := fun v H' => H' = C2 ++ (C ++ (BB ++ ((b4, blk (clRl r) 61) :: (b3, blk [I r.row, I r.win, I r.many, I r.total, .slice op pf.length cp] 64) :: (b2, blk (clSc h s) 59) :: (b1, blk (clWn w) 37) :: H))) ∧ (v = tup [I 0, I 56] ∨ ∃ n, v = tup [I n, I 0] ∧ ∀ w', GoodW r (silL w (bestE w s).1) w' → n ≤ sumF w' (silL w (bestE w s).1).length)) rfl rfl rfl (d_Bound r (silL w (bestE w s).1) ol cl _ hbit hcl pf op cp hpl hpr) (fun o H' ⟨e1, e2⟩ => by rcases e2 with ⟨e3, _⟩ | ⟨_, e3 | ⟨n, e3, e4⟩⟩; exact absurd hr e3; exact ⟨_, e3, e1, .inl rfl⟩; exact ⟨_, e3, e1, .inr ⟨n, rfl, e4⟩⟩)) rfl rfl ?_)
    rintro v2 H2 ⟨rfl, hbd⟩
    rcases hbd with rfl | ⟨n, rfl, hn⟩
    ·
     refine QM ?_
     refine QX ?_
     refine QX ?_
     refine QA ?_
     refine QA ?_
     refine vnil (vseq (KK2 ?_))
     refine QM ?_
     refine QM ?_
     refine QG ?_
     refine vknow (d := 91) (b' := false) rfl (decide_eq_false (fun e => e hgf)) ?_
     refine QM ?_
     refine YM ?_
     refine YE ?_
     refine vknow (d := 94) (b' := false) rfl (by decide) ?_
     refine YM ?_
     refine NO ?_
     refine NO ?_
     refine NO ?_
     refine NO ?_
     refine YU ?_
     refine QU ?_
     refine QM ?_
     refine YM ?_
     refine YG ?_
     refine vknow (d := 104) (b' := true) rfl (by decide) ?_
     refine YM ?_
     refine YM ?_
     refine YG ?_
     refine vknow (d := 107) (b' := false) rfl (by decide) ?_
     refine YT ?_
     refine QU ?_
     refine vnil (vcondf rfl (vskip (vseq (KK2 ?_))))
     refine QA ?_
     refine vnil (vblock ?_)
     refine vwhile (σ := Nat) (fun i => A.length - i) (fun i => [(3, ptr b1), (9, .slice om (bestE w s).1.length cm), (15, .slice oo A.length co), (18, I (i : Int))]) (fun i => C2 ++ (C ++ (BB ++ ((b4, blk (clRl r) 61) :: (b3, blk [I r.row, I r.win, I r.many, I r.total, .slice op pf.length cp] 64) :: (b2, blk (clSc h s) 59) :: (b1, blk (clWn w) 37) :: H)))) (fun i => i ≤ A.length) 0 (Nat.zero_le _) ⟨rfl, rfl, rfl, rfl, True.intro⟩ (.refl _) ?_
     rintro i hi IH1
     change VRun _ _ _ _ _ [(3, ptr b1), (9, .slice om (bestE w s).1.length cm), (15, .slice oo A.length co), (18, I (i : Int))] _ (C2 ++ (C ++ (BB ++ ((b4, blk (clRl r) 61) :: (b3, blk [I r.row, I r.win, I r.many, I r.total, .slice op pf.length cp] 64) :: (b2, blk (clSc h s) 59) :: (b1, blk (clWn w) 37) :: H)))) _
     refine vseq (KK2 ?_)
     refine QM ?_
     refine QM ?_
     refine QQ (vlen rfl) rfl ?_
     refine QS ?_
     refine vnil ?_
     refine vcondd rfl (fun h113 => ?_) (fun h113 => ?_)
     ·
      obtain ⟨a, ha⟩ := get_of_lt A (i := i) (by omega)
      obtain ⟨ta, rfl, hta⟩ := hAel a (List.mem_of_getElem? ha)
      obtain ⟨x, hx, hxn⟩ := sil_one hta
      have htl := (List.getElem?_eq_some_iff.1 hx).1
      refine vskip (vseq (vblock (vseq ?_)))
      refine DR [(.q, 0), (.q, 1), (.q, 2), (.q, 3), (.q, 4), (.q, 5), (.q, 6), (.q, 7), (.q, 8), (.q, 9), (.q, 10), (.q, 11), (.q, 12), (.q, 13), (.q, 14), (.q, 15), (.q, 16), (.q, 17), (.q, 18), (.q, 19), (.q, 20), (.q, 21)] Tryz.mixed ?_
      refine DM ?_
      refine DM ?_
      refine DD (visg (enc := encI) rfl rfl (by omega) ha) rfl ?_
      refine DD (vldS1 (enc := encI) rfl ha rfl) rfl ?_
      refine DM ?_
      refine DD (vlen rfl) rfl ?_
      refine DD (vsub rfl rfl (by unfold InR; omega)) rfl ?_
      refine DD (vcp rfl rfl rfl (c_ref00_Between _ _ _)) rfl ?_
      refine DD (vnot rfl) rfl ?_
      refine vdknow (d := 124) (b' := false) rfl (by rw [decide_eq_true (by omega)]; rfl) ?_
      refine DM ?_
      refine WM ?_
      refine WM ?_
      refine WM ?_
      refine WW (visg (enc := encI) rfl rfl (by omega) ha) rfl ?_
      refine WW (vldS1 (enc := encI) rfl ha rfl) rfl ?_
      refine WW (visg (enc := encI) rfl rfl (by omega) hx) rfl ?_
      refine WW (vldS1 (enc := encI) rfl hx rfl) rfl ?_
      refine WF ?_
      refine WL ?_
      refine WW (vadd rfl rfl (by unfold InR; omega)) rfl ?_
      refine WE ?_
      refine vdknow (d := 136) (b' := false) rfl (decide_eq_false hxn) ?_
      refine DU ?_
      refine vdend rfl (vcondf rfl (vskip (vinblock (vregion ?_))))
      refine QM ?_
      refine QQ (vadd rfl rfl (by unfold InR; omega)) rfl ?_
      refine QA ?_
      refine vnil ?_
      exact vback (IH1 (i + 1) (by omega) (by omega)) ⟨rfl, rfl, rfl, rfl, True.intro⟩ (.refl _)
     ·
      refine vexit (k' := _) rfl ?_
      refine KK2 ?_
      refine QQ (vcq rfl rfl rfl (q_watched _)) rfl ?_
      refine QA ?_
      refine vnil ?_
      refine vret (V1 (H) Tryz.func4 ?_)
      exact ⟨rfl, rfl⟩
    ·
     have hnA := hn w' hgw
     refine QM ?_
     refine QX ?_
     refine QX ?_
     refine QA ?_
     refine QA ?_
     refine vnil (vseq (KK2 ?_))
     refine QM ?_
     refine QM ?_
     refine QG ?_
     refine vknow (d := 91) (b' := false) rfl (decide_eq_false (fun e => e hgf)) ?_
     refine QM ?_
     refine YM ?_
     refine YE ?_
     refine vknow (d := 94) (b' := true) rfl (by decide) ?_
     refine YM ?_
     refine YM ?_
     refine YM ?_
     refine YY (vlen rfl) rfl ?_
     refine YY (vgtr rfl rfl) rfl ?_
     refine vknow (d := 99) (b' := false) rfl (decide_eq_false (by omega)) ?_
     refine YT ?_
     refine QU ?_
     refine QM ?_
     refine YM ?_
     refine YG ?_
     refine vknow (d := 104) (b' := false) rfl (by decide) ?_
     refine YM ?_
     refine NO ?_
     refine NO ?_
     refine YU ?_
     refine QU ?_
     refine vnil (vcondf rfl (vskip (vseq (KK2 ?_))))
     refine QA ?_
     refine vnil (vblock ?_)
     refine vwhile (σ := Nat) (fun i => A.length - i) (fun i => [(3, ptr b1), (9, .slice om (bestE w s).1.length cm), (15, .slice oo A.length co), (18, I (i : Int))]) (fun i => C2 ++ (C ++ (BB ++ ((b4, blk (clRl r) 61) :: (b3, blk [I r.row, I r.win, I r.many, I r.total, .slice op pf.length cp] 64) :: (b2, blk (clSc h s) 59) :: (b1, blk (clWn w) 37) :: H)))) (fun i => i ≤ A.length) 0 (Nat.zero_le _) ⟨rfl, rfl, rfl, rfl, True.intro⟩ (.refl _) ?_
     rintro i hi IH1
     change VRun _ _ _ _ _ [(3, ptr b1), (9, .slice om (bestE w s).1.length cm), (15, .slice oo A.length co), (18, I (i : Int))] _ (C2 ++ (C ++ (BB ++ ((b4, blk (clRl r) 61) :: (b3, blk [I r.row, I r.win, I r.many, I r.total, .slice op pf.length cp] 64) :: (b2, blk (clSc h s) 59) :: (b1, blk (clWn w) 37) :: H)))) _
     refine vseq (KK2 ?_)
     refine QM ?_
     refine QM ?_
     refine QQ (vlen rfl) rfl ?_
     refine QS ?_
     refine vnil ?_
     refine vcondd rfl (fun h113 => ?_) (fun h113 => ?_)
     ·
      obtain ⟨a, ha⟩ := get_of_lt A (i := i) (by omega)
      obtain ⟨ta, rfl, hta⟩ := hAel a (List.mem_of_getElem? ha)
      obtain ⟨x, hx, hxn⟩ := sil_one hta
      have htl := (List.getElem?_eq_some_iff.1 hx).1
      refine vskip (vseq (vblock (vseq ?_)))
      refine DR [(.q, 0), (.q, 1), (.q, 2), (.q, 3), (.q, 4), (.q, 5), (.q, 6), (.q, 7), (.q, 8), (.q, 9), (.q, 10), (.q, 11), (.q, 12), (.q, 13), (.q, 14), (.q, 15), (.q, 16), (.q, 17), (.q, 18), (.q, 19), (.q, 20), (.q, 21)] Tryz.mixed ?_
      refine DM ?_
      refine DM ?_
      refine DD (visg (enc := encI) rfl rfl (by omega) ha) rfl ?_
      refine DD (vldS1 (enc := encI) rfl ha rfl) rfl ?_
      refine DM ?_
      refine DD (vlen rfl) rfl ?_
      refine DD (vsub rfl rfl (by unfold InR; omega)) rfl ?_
      refine DD (vcp rfl rfl rfl (c_ref00_Between _ _ _)) rfl ?_
      refine DD (vnot rfl) rfl ?_
      refine vdknow (d := 124) (b' := false) rfl (by rw [decide_eq_true (by omega)]; rfl) ?_
      refine DM ?_
      refine WM ?_
      refine WM ?_
      refine WM ?_
      refine WW (visg (enc := encI) rfl rfl (by omega) ha) rfl ?_
      refine WW (vldS1 (enc := encI) rfl ha rfl) rfl ?_
      refine WW (visg (enc := encI) rfl rfl (by omega) hx) rfl ?_
      refine WW (vldS1 (enc := encI) rfl hx rfl) rfl ?_
      refine WF ?_
      refine WL ?_
      refine WW (vadd rfl rfl (by unfold InR; omega)) rfl ?_
      refine WE ?_
      refine vdknow (d := 136) (b' := false) rfl (decide_eq_false hxn) ?_
      refine DU ?_
      refine vdend rfl (vcondf rfl (vskip (vinblock (vregion ?_))))
      refine QM ?_
      refine QQ (vadd rfl rfl (by unfold InR; omega)) rfl ?_
      refine QA ?_
      refine vnil ?_
      exact vback (IH1 (i + 1) (by omega) (by omega)) ⟨rfl, rfl, rfl, rfl, True.intro⟩ (.refl _)
     ·
      refine vexit (k' := _) rfl ?_
      refine KK2 ?_
      refine QQ (vcq rfl rfl rfl (q_watched _)) rfl ?_
      refine QA ?_
      refine vnil ?_
      refine vret (V1 (H) Tryz.func4 ?_)
      exact ⟨rfl, rfl⟩
end Go.Proofs.YtmfmecgiaekelaaGreatDoor
namespace Go.Proofs.YtmfmecgiaekelaaGreatDoor
open Go
set_option maxRecDepth 100000
open Go.ChangeShapes Go.WideShapes Go.ChangeAt Go.RowKit
theorem Tryz.enterK : Tryz.prog.mayEnter = true := by kernel_rfl
theorem Tryz.liftsK : (Rows.topFarRow.lifted == Tryz.prog.liftsFinal) = true := by kernel_rfl
theorem Tryz.makeK : (Tryz.prog.make == some Rows.topFarRow.make) = true := by kernel_rfl
section
variable {HH : Type} {enc : TypeId × Value → HH} {P : Program} {W : World}
theorem cells_i {ks : List CK} {l : List Value} (h : CellsAre enc P W (.i :: ks) l) : ∃ n r, l = I n :: r ∧ InR n ∧ CellsAre enc P W ks r := by
  cases l with
  | nil => exact h.elim
  | cons v r => obtain ⟨⟨n, rfl, hn⟩, h2⟩ := h; exact ⟨n, r, rfl, hn, h2⟩
theorem cells_nil {l : List Value} (h : CellsAre enc P W [] l) : l = [] := by
  cases l with
  | nil => rfl
  | cons v r => exact h.elim
theorem trodAll_below (hl : laidOutB P = true) {W' : World} (hb : Below W.heap.size W W') : ∀ {ts : List TypeId} {vs : List Value} {ds : List (DataW HH)} {ps : List MemPlace}, (∀ t ∈ ts, P.readableRec t = true ∧ t < P.types.size) → (∀ x ∈ ps, x.block < W.heap.size) →
    DataW.TrodAll enc P W 0 (fun _ => true) true ts vs ds ps → DataW.TrodAll enc P W' 0 (fun b => decide (b < W.heap.size)) true ts vs ds ps
  | [], vs, ds, ps, _, _, h => by
    obtain ⟨rfl, rfl, rfl⟩ := Go.ChangeShapes.trodAll_nil h
    exact trodAll_mk0
  | t :: ts, vs, ds, ps, ht, hps, h => by
    obtain ⟨v, vs', d, ds', p, q, rfl, rfl, rfl, h1, h2⟩ := Go.ChangeShapes.trodAll_cons h
    exact trodAll_cons_mk (Below.trod hl (ht t (by simp)).1 (ht t (by simp)).2 h1 hb (fun x hx => hps x (by simp [hx]))) (trodAll_below hl hb (fun u hu => ht u (by simp [hu])) (fun x hx => hps x (by simp [hx])) h2)
end
def restFacts (P : Program) (fn : Func) (s : ChangeSpec) (c : OpenClaim) : Bool :=
  c.wf (OpenSpec.ofChange s) && (fn.params.all (P.readableRec ·) && (namedTie P c.named s.vars &&
  ((c.stops == []) && ((c.knobs == []) &&
  ((c.maps == (fn.params.toList ++ s.plain.varTypes P).any (P.mapsRec ·)) && ((c.ifaces == (fn.params.toList ++ s.plain.varTypes P).any (P.ifacesRec ·)) && ((c.mapsOut == P.mapsAmong fn.resultTypes.toList) &&
  ((c.loops == (fn.params.toList ++ s.plain.varTypes P).any (P.loopsFrom ·)) && ((c.wideKeys == (fn.params.toList ++ s.plain.varTypes P ++ fn.resultTypes.toList).any (P.wideKeysFrom ·)) &&
  (s.vars.all (P.varReadable ·) && (fn.resultTypes.all (fun t => P.readableRec t && decide (t < P.types.size)) && ((c.ifacesOut == fn.resultTypes.toList.any (P.ifacesRec ·)) && ((c.loopsOut == fn.resultTypes.toList.any (P.loopsFrom ·)) && (c.shortTexts.isNone &&
  ((c.veiled == (fn.params.toList ++ s.plain.varTypes P ++ fn.resultTypes.toList).any (P.veiledRec ·)) && c.veiledFits P fn.params.toList (fn.params.toList ++ s.plain.varTypes P ++ fn.resultTypes.toList))))))))))))))))
theorem joined_of {P : Program} {f : FuncId} {fn : Func} {s : ChangeSpec} {c : OpenClaim} (h1 : laidOutB P = true) (h2 : mapsRowed P = true) (h3 : (P.stops == []) = true) (h4 : (P.stopKnobs == []) = true) (h5 : (c.plainKeys == P.plainKeys) = true) (h6 : P.stopsHeard = true)
    (i1 : (c.inPlace == P.inPlace f) = true) (i2 : (c.unfollowed == P.unfollowed f) = true) (i3 : (c.recurses == P.recurses f) = true) (i4 : (c.named == P.varsNamed f) = true) (rest : restFacts P fn s c = true)
    (j0 : c.domain.isEmpty = true) (j1 : (c.kinds == []) = true) (j2 : P.mayEnter = true) (j3 : (c.lifted == P.liftsFinal) = true) (j4 : (P.make == some c.make) = true) (j5 : (c.pinned == c.pinnedBy) = true) : joinedFacts P f fn s c = true := by
  simp only [restFacts, Bool.and_eq_true] at rest
  obtain ⟨r1, r2, r3, r4, r5, r6, r7, r8, r9, r10, r11, r12, r13, r14, r15, r16, r17⟩ := rest
  unfold joinedFacts
  simp only [h1, h2, h3, h4, h5, h6, i1, i2, i3, i4, r1, r2, r3, r4, r5, r6, r7, r8, r9, r10, r11, r12, r13, r14, r15, r16, r17, j0, j1, j2, j3, j4, j5, if_true, Bool.and_self, Bool.and_true, Bool.true_and]
theorem Tryz.ownK : ownKnob Tryz.prog.godebug = none := by kernel_rfl
theorem Tryz.laidOutK : laidOutB Tryz.prog = true := by kernel_rfl
theorem Tryz.mapsK : mapsRowed Tryz.prog = true := by kernel_rfl
theorem Tryz.stopsK : (Tryz.prog.stops == []) = true := by kernel_rfl
theorem Tryz.knobsK : (Tryz.prog.stopKnobs == []) = true := by kernel_rfl
theorem Tryz.heardK : Tryz.prog.stopsHeard = true := by kernel_rfl
section
variable {HH : Type} {enc : TypeId × Value → HH} {P : Program} {W : World}
theorem cells_sX {ks : List CK} {l : List Value} (h : CellsAre enc P W (.s :: ks) l) : ∃ (n : ByteArray) (r : List Value), l = .string n :: r ∧ n.size ≤ 9223372036854775807 ∧ CellsAre enc P W ks r := by
  cases l with
  | nil => exact h.elim
  | cons v r => obtain ⟨⟨n, rfl, hn⟩, h2⟩ := h; exact ⟨n, r, rfl, hn, h2⟩
theorem cells_bX {ks : List CK} {l : List Value} (h : CellsAre enc P W (.b :: ks) l) : ∃ (n : Bool) (r : List Value), l = .bool n :: r ∧ CellsAre enc P W ks r := by
  cases l with
  | nil => exact h.elim
  | cons v r => obtain ⟨⟨n, rfl⟩, h2⟩ := h; exact ⟨n, r, rfl, h2⟩
theorem cells_slX {e : TypeId} {ks : List CK} {l : List Value} (h : CellsAre enc P W (.sl e :: ks) l) : ∃ (v : Value) (r : List Value), l = v :: r ∧ CellIs enc P W (.sl e) v ∧ CellsAre enc P W ks r := by
  cases l with
  | nil => exact h.elim
  | cons v r => obtain ⟨h1, h2⟩ := h; exact ⟨v, r, rfl, h1, h2⟩
end
theorem rd_37 {HH : Type} {enc : TypeId × Value → HH} {W : World} {base : Nat} {v : Value} {d : DataW HH} {ps : List MemPlace} (h : DataW.Trod enc Tryz.prog W 0 (fun _ => true) true 37 v d ps) (hv : Value.okWide Tryz.prog W .any base 37 v) : ∃ x0 x1 x2 x3 x4 x5 x6 : Int, v = .agg [I x0, I x1, I x2, I x3, I x4, I x5, I x6].toArray ∧ InR x0 ∧ InR x1 ∧ InR x2 ∧ InR x3 ∧ InR x4 ∧ InR x5 ∧ InR x6 := by
  obtain ⟨l, rfl, hl⟩ := okWide_agg (by left; exact ⟨_, Tryz.underlying37⟩) hv
  have hc := trod_cells (n := 9) (ks := [.i, .i, .i, .i, .i, .i, .i]) (by kernel_rfl) h
  rw [hl] at hc
  obtain ⟨x0, l, rfl, b0, hc⟩ := cells_i hc
  obtain ⟨x1, l, rfl, b1, hc⟩ := cells_i hc
  obtain ⟨x2, l, rfl, b2, hc⟩ := cells_i hc
  obtain ⟨x3, l, rfl, b3, hc⟩ := cells_i hc
  obtain ⟨x4, l, rfl, b4, hc⟩ := cells_i hc
  obtain ⟨x5, l, rfl, b5, hc⟩ := cells_i hc
  obtain ⟨x6, l, rfl, b6, hc⟩ := cells_i hc
  obtain rfl := cells_nil hc
  exact ⟨x0, x1, x2, x3, x4, x5, x6, rfl, b0, b1, b2, b3, b4, b5, b6⟩
theorem sl_R {HH : Type} {enc : TypeId × Value → HH} {W : World} {v : Value} (h : CellIs enc Tryz.prog W (.sl 28) v) : ∃ (oa : Option Addr) (m c : Nat) (l : List Rg), v = .slice oa m c ∧ l.length = m ∧ m ≤ 9223372036854775807 ∧ (∀ x ∈ l, (fun _ => True) x) ∧ (oa = Option.none → m = 0 ∧ c = 0) ∧ SlO (allH W) oa 8 clR l ∧ m ≤ c :=
  slice_of2 (n := 9) (ks := [.i, .i, .i, .i, .i, .i, .i, .i]) clR (fun _ => True) (by kernel_rfl) (by kernel_rfl) (by decide) (fun row hr hl => by
    obtain ⟨x0, row, rfl, b0, hr⟩ := cells_i hr
    obtain ⟨x1, row, rfl, b1, hr⟩ := cells_i hr
    obtain ⟨x2, row, rfl, b2, hr⟩ := cells_i hr
    obtain ⟨x3, row, rfl, b3, hr⟩ := cells_i hr
    obtain ⟨x4, row, rfl, b4, hr⟩ := cells_i hr
    obtain ⟨x5, row, rfl, b5, hr⟩ := cells_i hr
    obtain ⟨x6, row, rfl, b6, hr⟩ := cells_i hr
    obtain ⟨x7, row, rfl, b7, hr⟩ := cells_i hr
    obtain rfl := cells_nil hr
    exact ⟨⟨⟨x0, x1⟩, ⟨x2, x3⟩, ⟨x4, x5⟩, ⟨x6, x7⟩⟩, rfl, True.intro⟩) h
theorem sl_B {HH : Type} {enc : TypeId × Value → HH} {W : World} {v : Value} (h : CellIs enc Tryz.prog W (.sl 4) v) : ∃ (oa : Option Addr) (m c : Nat) (l : List Bool), v = .slice oa m c ∧ l.length = m ∧ m ≤ 9223372036854775807 ∧ (∀ x ∈ l, (fun _ => True) x) ∧ (oa = Option.none → m = 0 ∧ c = 0) ∧ SlO (allH W) oa 1 encB l ∧ m ≤ c :=
  slice_of2 (n := 9) (ks := [.b]) encB (fun _ => True) (by kernel_rfl) (by kernel_rfl) (by decide) (fun row hr hl => by
    obtain ⟨x0, row2, e, hr2⟩ := cells_bX hr
    subst e
    obtain rfl := cells_nil hr2
    exact ⟨x0, rfl, True.intro⟩) h
theorem sl_Cl {HH : Type} {enc : TypeId × Value → HH} {W : World} {v : Value} (h : CellIs enc Tryz.prog W (.sl 121) v) : ∃ (oa : Option Addr) (m c : Nat) (l : List (Int × Int)), v = .slice oa m c ∧ l.length = m ∧ m ≤ 9223372036854775807 ∧ (∀ x ∈ l, (fun x => InR x.1 ∧ InR x.2) x) ∧ (oa = Option.none → m = 0 ∧ c = 0) ∧ SlO (allH W) oa 2 encCl l ∧ m ≤ c :=
  slice_of2 (n := 9) (ks := [.i, .i]) encCl (fun x => InR x.1 ∧ InR x.2) (by kernel_rfl) (by kernel_rfl) (by decide) (fun row hr hl => by
    obtain ⟨x0, row, rfl, b0, hr⟩ := cells_i hr
    obtain ⟨x1, row, rfl, b1, hr⟩ := cells_i hr
    obtain rfl := cells_nil hr
    exact ⟨(x0, x1), rfl, b0, b1⟩) h
def okSgR (x : Sg) : Prop := InR x.st ∧ x.nm.size ≤ 9223372036854775807 ∧ InR x.oc ∧ InR x.nr ∧ InR x.fr
theorem sl_S {HH : Type} {enc : TypeId × Value → HH} {W : World} {v : Value} (h : CellIs enc Tryz.prog W (.sl 286) v) : ∃ (oa : Option Addr) (m c : Nat) (l : List Sg), v = .slice oa m c ∧ l.length = m ∧ m ≤ 9223372036854775807 ∧ (∀ x ∈ l, okSgR x) ∧ (oa = Option.none → m = 0 ∧ c = 0) ∧ SlO (allH W) oa 5 clSg l ∧ m ≤ c :=
  slice_of2 (n := 9) (ks := [.i, .s, .i, .i, .i]) clSg okSgR (by kernel_rfl) (by kernel_rfl) (by decide) (fun row hr hl => by
    obtain ⟨x0, row, rfl, b0, hr⟩ := cells_i hr
    obtain ⟨x1, row, rfl, b1, hr⟩ := cells_sX hr
    obtain ⟨x2, row, rfl, b2, hr⟩ := cells_i hr
    obtain ⟨x3, row, rfl, b3, hr⟩ := cells_i hr
    obtain ⟨x4, row, rfl, b4, hr⟩ := cells_i hr
    obtain rfl := cells_nil hr
    exact ⟨⟨x0, x1, x2, x3, x4⟩, rfl, b0, b1, b2, b3, b4⟩) h
theorem rd_59 {HH : Type} {enc : TypeId × Value → HH} {W : World} {base : Nat} {v : Value} {d : DataW HH} {ps : List MemPlace} (h : DataW.Trod enc Tryz.prog W 0 (fun _ => true) true 59 v d ps) (hv : Value.okWide Tryz.prog W .any base 59 v) : ∃ (h : SH) (s : Sc), v = vSc h s ∧ ScO (allH W) h s := by
  obtain ⟨l, rfl, hl⟩ := okWide_agg (by left; exact ⟨_, Tryz.underlying59⟩) hv
  have hc := trod_cells (n := 9) (ks := [.sl 28, .sl 28, .sl 4, .sl 4, .sl 286]) (by kernel_rfl) h
  rw [hl] at hc
  obtain ⟨v1, l, rfl, c1, hc⟩ := cells_slX hc
  obtain ⟨v2, l, rfl, c2, hc⟩ := cells_slX hc
  obtain ⟨v3, l, rfl, c3, hc⟩ := cells_slX hc
  obtain ⟨v4, l, rfl, c4, hc⟩ := cells_slX hc
  obtain ⟨v5, l, rfl, c5, hc⟩ := cells_slX hc
  obtain rfl := cells_nil hc
  obtain ⟨a1, m1, k1, l1, rfl, rfl, n1, _, _, s1, t1⟩ := sl_R c1
  obtain ⟨a2, m2, k2, l2, rfl, rfl, n2, _, _, s2, t2⟩ := sl_R c2
  obtain ⟨a3, m3, k3, l3, rfl, rfl, n3, _, _, s3, t3⟩ := sl_B c3
  obtain ⟨a4, m4, k4, l4, rfl, rfl, n4, _, _, s4, t4⟩ := sl_B c4
  obtain ⟨a5, m5, k5, l5, rfl, rfl, n5, g5, _, s5, t5⟩ := sl_S c5
  exact ⟨⟨a1, k1, a2, k2, a3, k3, a4, k4, a5, k5⟩, ⟨l1, l2, l3, l4, l5⟩, rfl, ⟨s1, s2, s3, s4, s5, ⟨t3, t4⟩, fun x hx => (g5 x hx).2.1, n1, n2, n3, n4, n5⟩⟩
theorem rd_64 {HH : Type} {enc : TypeId × Value → HH} {W : World} {base : Nat} {v : Value} {d : DataW HH} {ps : List MemPlace} (h : DataW.Trod enc Tryz.prog W 0 (fun _ => true) true 64 v d ps) (hv : Value.okWide Tryz.prog W .any base 64 v) : ∃ (r : Rl) (pf : List (Int × Int)) (op : Option Addr) (cp : Nat), v = .agg [I r.row, I r.win, I r.many, I r.total, .slice op pf.length cp].toArray ∧ SlO (allH W) op 2 encCl pf ∧ pf.length ≤ 9223372036854775807 ∧ ∀ x ∈ pf, InR x.1 ∧ InR x.2 := by
  obtain ⟨l, rfl, hl⟩ := okWide_agg (by left; exact ⟨_, Tryz.underlying64⟩) hv
  have hc := trod_cells (n := 9) (ks := [.i, .i, .i, .i, .sl 121]) (by kernel_rfl) h
  rw [hl] at hc
  obtain ⟨x0, l, rfl, b0, hc⟩ := cells_i hc
  obtain ⟨x1, l, rfl, b1, hc⟩ := cells_i hc
  obtain ⟨x2, l, rfl, b2, hc⟩ := cells_i hc
  obtain ⟨x3, l, rfl, b3, hc⟩ := cells_i hc
  obtain ⟨v1, l, rfl, c1, hc⟩ := cells_slX hc
  obtain rfl := cells_nil hc
  obtain ⟨a1, m1, k1, l1, rfl, rfl, n1, g1, _, s1, _⟩ := sl_Cl c1
  exact ⟨⟨x0, x1, x2, x3⟩, l1, a1, k1, rfl, s1, n1, g1⟩
end Go.Proofs.YtmfmecgiaekelaaGreatDoor
