/-
  Parts of the proof: rules of the engine, walks of functions, plain Lean. No condition.
-/
import Derived.Test.YtmfmecgiaekelaaGreatDoorFa10
namespace Go.Proofs.YtmfmecgiaekelaaGreatDoor
open Go
set_option maxRecDepth 100000
attribute [local irreducible] tightP hullP rootP farP rows endsOf meetE gapE winR
def encOb (_ : Unit) : List Value := [I 1, I 0, I 1, I 0, I 2, I 0, I 0, I 0, I 0, I 0, I 0, I 0, I 0, I 0]
instance tApSd : TAp Tryz.prog 195 234 1 16 := mkTAp (z := .nilIface) (by kernel_rfl) (by kernel_rfl) rfl
theorem fx_tightA : VPure Tryz.prog 100 [vR zR] (tup [vR zR, I 0]) := by
  have := c_Tight ⟨⟨0, 0⟩, ⟨0, 0⟩, ⟨0, 0⟩, ⟨0, 0⟩⟩
  rw [show tightE ⟨⟨0, 0⟩, ⟨0, 0⟩, ⟨0, 0⟩, ⟨0, 0⟩⟩ = (zR, 0) by kernel_rfl] at this; exact this
theorem fx_tightB : VPure Tryz.prog 100 [vR r9] (tup [vR r9, I 0]) := by
  have := c_Tight ⟨⟨0, 9⟩, ⟨0, 9⟩, ⟨0, 18⟩, ⟨-9, 9⟩⟩
  rw [show tightE ⟨⟨0, 9⟩, ⟨0, 9⟩, ⟨0, 18⟩, ⟨-9, 9⟩⟩ = (r9, 0) by kernel_rfl] at this; exact this
theorem OG.mono {P : Program} {N : Nat} {E : Env} {D : List Deferred} {H : Heap} {o : Oper} {R R' : Value → Heap → Prop} (h : OG P N E D H o R) (hr : ∀ v H', R v H' → R' v H') : OG P N E D H o R' :=
  ⟨h.nodef, fun t w hA hE => let ⟨n, w1, e, hn⟩ := h.go t w hA hE; ⟨n, w1, e, hn.mono fun v w2 ⟨H', hF, hR⟩ => ⟨H', hF, hr v H' hR⟩⟩⟩
theorem own_cons {e size n : Nat} {u : Value} {xs : List Value} {B : Heap} (h : OwnS e size u (n + 1) xs B) : ∃ g cap cur, u = .slice (some ⟨g, 0, Option.none⟩) (n + 1) cap ∧ B = [(g, blk cur e)] ∧ OwnS e size (.slice (some ⟨g, 0, Option.none⟩) (n + 1) cap) (n + 1) xs [(g, blk cur e)] := by
  rcases h with ⟨_, hn, _⟩ | ⟨g, cap, cur, h1, h2, h3, h4, h5, h6⟩
  · omega
  · exact ⟨g, cap, cur, h1, h2, .inr ⟨g, cap, cur, rfl, rfl, h3, h4, h5, h6⟩⟩
theorem own_c2 {e n g cap : Nat} {cur : List Value} {u : Value} {a b : Rg} (h : OwnS e 8 u n (clR a ++ clR b) [(g, blk cur e)]) (hn : n = 2) : cur = c2 a b (cur.drop 16) := by
  subst hn
  rcases h with ⟨_, h, _⟩ | ⟨g', cap', cur', h1, h2, h3, h4, h5, h6⟩
  · cases h
  · simp only [List.cons.injEq, Prod.mk.injEq, and_true] at h2
    obtain ⟨rfl, h2⟩ := h2
    have : cur = cur' := by
      have := congrArg (fun o : Obj => match o with | .cells c _ _ => c.toList | _ => []) h2
      simpa [blk] using this
    subst this
    have ht := List.take_append_drop (2 * 8) cur
    rw [h6] at ht
    unfold c2
    rw [← List.append_assoc]
    exact ht.symm
theorem own_1 {e g : Nat} {cur : List Value} {u x : Value} (h : OwnS e 1 u 1 [x] [(g, blk cur e)]) : ∃ r, cur = x :: r := by
  rcases h with ⟨_, h, _⟩ | ⟨g', cap', cur', h1, h2, h3, h4, h5, h6⟩
  · cases h
  · simp only [List.cons.injEq, Prod.mk.injEq, and_true] at h2
    obtain ⟨rfl, h2⟩ := h2
    have : cur = cur' := by
      have := congrArg (fun o : Obj => match o with | .cells c _ _ => c.toList | _ => []) h2
      simpa [blk] using this
    subst this
    cases cur with
    | nil => simp at h6
    | cons y r => simp at h6; exact ⟨r, by rw [h6]⟩
theorem fx_netOf (oa ob : Option Addr) (ca cb : Nat) (H : Heap) [hs1 : SlO H oa 8 clR [zR, r9]] [hs2 : SlO H ob 14 encOb [()]] : VCall Tryz.prog 81 [.agg #[.slice oa 2 ca, .slice ob 1 cb]].toArray H (fun o H' => ∃ v, o = .val v ∧ ∃ gb kb rs gc kc rc, v = tup [.agg #[.slice (some ⟨gb, 0, Option.none⟩) 2 kb, .slice (some ⟨gc, 0, Option.none⟩) 1 kc], I 0] ∧ H' = (gc, blk (.iface 272 (.agg #[I 0, I 1, I 0, I 2]) :: rc) 234) :: (gb, blk (c2 zR r9 rs) 28) :: H) := by
 refine CV 83 Tryz.func81 ?_
 refine K2 ?_
 refine BX fun b1 => ?_
 refine AL fun b2 => ?_
 refine QA ?_
 refine vnil (vseq (K2 ?_))
 refine QF ?_
 refine QL ?_
 refine QQ (vlen rfl) rfl ?_
 refine QQ (vcp rfl rfl rfl (c_fwithin _ _ _)) rfl ?_
 refine vknow (d := 16) (b' := true) rfl (by decide) ?_
 refine QQ (vnot rfl) rfl ?_
 refine QM ?_
 refine YF ?_
 refine YL ?_
 refine YY (vlen rfl) rfl ?_
 refine YY (vgtr rfl rfl) rfl ?_
 refine QU ?_
 refine vnil (vcondf rfl (vskip (K2 ?_)))
 refine AL fun b3 => ?_
 refine vnil (vseq (K2 ?_))
 refine QF ?_
 refine QL ?_
 refine QQ (vlen rfl) rfl ?_
 refine QM ?_
 refine vnil (vblock ?_)
 refine vloop1 ?_
 refine K2 ?_
 refine QS ?_
 refine vnil (vseq (vcondt rfl (vskip (vseq (vblock (K2 ?_))))))
 refine QQ (visg (enc := clR) (xs := [zR, r9]) (z := zR) rfl rfl (by decide) rfl) rfl ?_
 refine QQ (vldS (enc := clR) (xs := [zR, r9]) (z := zR) rfl rfl) rfl ?_
 refine AL fun b4 => ?_
 refine SN ?_
 refine K3 ?_
 refine QN ?_
 refine QQ (vcp rfl rfl rfl fx_tightA) rfl ?_
 refine QM ?_
 refine QX ?_
 refine QX ?_
 refine AL fun b5 => ?_
 refine SN ?_
 refine QA ?_
 refine vnil (vseq (K2 ?_))
 refine QM ?_
 refine QG ?_
 refine vknow (d := 38) (b' := false) rfl rfl ?_
 refine QM ?_
 refine YF ?_
 refine YN ?_
 refine YY (vcp rfl rfl rfl (c_wide 0 0 (by unfold InR; decide))) rfl ?_
 refine vknow (d := 42) (b' := false) rfl (by decide) ?_
 refine QU ?_
 refine QM ?_
 refine YF ?_
 refine YN ?_
 refine YY (vcp rfl rfl rfl (c_wide 0 0 (by unfold InR; decide))) rfl ?_
 refine vknow (d := 47) (b' := false) rfl (by decide) ?_
 refine QU ?_
 refine vnil (vcondf rfl (vskip (vregion ?_)))
 refine QF ?_
 refine QL ?_
 refine QN ?_
 refine vone rfl (vxg (vbs rfl rfl rfl rfl rfl rfl) rfl rfl ?_)
 rintro _ _ ⟨b6, rfl, rfl⟩
 refine vone rfl (vxg ((vappF (F := fun C => C ++ ((b6, blk (clR zR) 28) :: (b5, blk (clR zR) 28) :: (b4, blk (clR zR) 28) :: (b3, blk [.slice Option.none 0 0, .slice Option.none 0 0] 197) :: (b2, blk [.slice Option.none 0 0, .slice Option.none 0 0] 197) :: (b1, blk [.slice oa 2 ca, .slice ob 1 cb] 151) :: H)) (H0 := (b6, blk (clR zR) 28) :: (b5, blk (clR zR) 28) :: (b4, blk (clR zR) 28) :: (b3, blk [.slice Option.none 0 0, .slice Option.none 0 0] 197) :: (b2, blk [.slice Option.none 0 0, .slice Option.none 0 0] 197) :: (b1, blk [.slice oa 2 ca, .slice ob 1 cb] 151) :: H) (B := []) (xs := []) (a := ⟨b6, 0, Option.none⟩) (m := 1) (c := 1) (news := clR zR) (fun C => .refl _) rfl rfl OwnS.nil rfl (news_blk (b := b6) (List.Mem.head _)) (fun u hu => by simp at hu; rcases hu with rfl | rfl | rfl | rfl | rfl | rfl | rfl | rfl <;> rfl) (by omega) (by simp only [maxLen]; omega) (by omega)).mono (R' := fun u H' => ∃ ga ka cura, u = .slice (some ⟨ga, 0, Option.none⟩) (0 + 1) ka ∧ OwnS 28 8 (.slice (some ⟨ga, 0, Option.none⟩) (0 + 1) ka) (0 + 1) (clR zR) [(ga, blk cura 28)] ∧ H' = (ga, blk cura 28) :: (b6, blk (clR zR) 28) :: (b5, blk (clR zR) 28) :: (b4, blk (clR zR) 28) :: (b3, blk [.slice Option.none 0 0, .slice Option.none 0 0] 197) :: (b2, blk [.slice Option.none 0 0, .slice Option.none 0 0] 197) :: (b1, blk [.slice oa 2 ca, .slice ob 1 cb] 151) :: H) (fun u H' ⟨B', h1, _, h3⟩ => by obtain ⟨g, cap, cur, e1, e2, e3⟩ := own_cons h1; subst e1; subst e2; exact ⟨g, cap, cur, rfl, e3, h3⟩)) rfl rfl ?_)
 rintro _ _ ⟨ga, ka, cura, rfl, howa, rfl⟩
 refine QF ?_
 refine SU ?_
 refine vnil (vinblock (vregion ?_))
 refine QQ (vadd rfl rfl (by unfold InR; decide)) rfl ?_
 refine QM ?_
 refine vnil ?_
 refine vinloop1 ?_
 refine K2 ?_
 refine QS ?_
 refine vnil (vseq (vcondt rfl (vskip (vseq (vblock (K2 ?_))))))
 refine QQ (visg (enc := clR) (xs := [zR, r9]) (z := r9) rfl rfl (by decide) rfl) rfl ?_
 refine QQ (vldS (enc := clR) (xs := [zR, r9]) (z := r9) rfl rfl) rfl ?_
 refine AL fun b7 => ?_
 refine SN ?_
 refine K3 ?_
 refine QN ?_
 refine QQ (vcp rfl rfl rfl fx_tightB) rfl ?_
 refine QM ?_
 refine QX ?_
 refine QX ?_
 refine AL fun b8 => ?_
 refine SN ?_
 refine QA ?_
 refine vnil (vseq (K2 ?_))
 refine QM ?_
 refine QG ?_
 refine vknow (d := 38) (b' := false) rfl rfl ?_
 refine QM ?_
 refine YF ?_
 refine YN ?_
 refine YY (vcp rfl rfl rfl (c_wide 0 9 (by unfold InR; decide))) rfl ?_
 refine vknow (d := 42) (b' := false) rfl (by decide) ?_
 refine QU ?_
 refine QM ?_
 refine YF ?_
 refine YN ?_
 refine YY (vcp rfl rfl rfl (c_wide 0 9 (by unfold InR; decide))) rfl ?_
 refine vknow (d := 47) (b' := false) rfl (by decide) ?_
 refine QU ?_
 refine vnil (vcondf rfl (vskip (vregion ?_)))
 refine QF ?_
 refine QL ?_
 refine QN ?_
 refine vone rfl (vxg (vbs rfl rfl rfl rfl rfl rfl) rfl rfl ?_)
 rintro _ _ ⟨b9, rfl, rfl⟩
 refine vone rfl (vxg ((vappF (F := fun C => [(b9, blk (clR r9) 28), (b8, blk (clR r9) 28), (b7, blk (clR r9) 28)] ++ (C ++ ((b6, blk (clR zR) 28) :: (b5, blk (clR zR) 28) :: (b4, blk (clR zR) 28) :: (b3, blk [.slice (some ⟨ga, 0, Option.none⟩) (0 + 1) ka, .slice Option.none 0 0] 197) :: (b2, blk [.slice Option.none 0 0, .slice Option.none 0 0] 197) :: (b1, blk [.slice oa 2 ca, .slice ob 1 cb] 151) :: H))) (H0 := [(b9, blk (clR r9) 28), (b8, blk (clR r9) 28), (b7, blk (clR r9) 28)] ++ ((b6, blk (clR zR) 28) :: (b5, blk (clR zR) 28) :: (b4, blk (clR zR) 28) :: (b3, blk [.slice (some ⟨ga, 0, Option.none⟩) (0 + 1) ka, .slice Option.none 0 0] 197) :: (b2, blk [.slice Option.none 0 0, .slice Option.none 0 0] 197) :: (b1, blk [.slice oa 2 ca, .slice ob 1 cb] 151) :: H)) (B := [(ga, blk cura 28)]) (xs := clR zR) (a := ⟨b9, 0, Option.none⟩) (m := 1) (c := 1) (news := clR r9) (fun C => perm_mid [(b9, blk (clR r9) 28), (b8, blk (clR r9) 28), (b7, blk (clR r9) 28)] C ((b6, blk (clR zR) 28) :: (b5, blk (clR zR) 28) :: (b4, blk (clR zR) 28) :: (b3, blk [.slice (some ⟨ga, 0, Option.none⟩) (0 + 1) ka, .slice Option.none 0 0] 197) :: (b2, blk [.slice Option.none 0 0, .slice Option.none 0 0] 197) :: (b1, blk [.slice oa 2 ca, .slice ob 1 cb] 151) :: H)) rfl rfl howa rfl (news_blk (b := b9) (List.Mem.head _)) (fun u hu => by simp at hu; rcases hu with rfl | rfl | rfl | rfl | rfl | rfl | rfl | rfl <;> rfl) (by omega) (by simp only [maxLen]; omega) (by omega)).mono (R' := fun u H' => ∃ gb kb rs, u = .slice (some ⟨gb, 0, Option.none⟩) (0 + 1 + 1) kb ∧ H' = (b9, blk (clR r9) 28) :: (b8, blk (clR r9) 28) :: (b7, blk (clR r9) 28) :: (gb, blk (c2 zR r9 rs) 28) :: (b6, blk (clR zR) 28) :: (b5, blk (clR zR) 28) :: (b4, blk (clR zR) 28) :: (b3, blk [.slice (some ⟨ga, 0, Option.none⟩) (0 + 1) ka, .slice Option.none 0 0] 197) :: (b2, blk [.slice Option.none 0 0, .slice Option.none 0 0] 197) :: (b1, blk [.slice oa 2 ca, .slice ob 1 cb] 151) :: H) (fun u H' ⟨B', h1, _, h3⟩ => by obtain ⟨g, cap, cur, e1, e2, e3⟩ := own_cons h1; subst e1; subst e2; have e4 := own_c2 (cap := cap) e3 rfl; exact ⟨g, cap, cur.drop 16, rfl, by rw [h3, ← e4]; rfl⟩)) rfl rfl ?_)
 rintro _ _ ⟨gb, kb, rs, rfl, rfl⟩
 refine QF ?_
 refine SU ?_
 refine vnil (vinblock (vregion ?_))
 refine QQ (vadd rfl rfl (by unfold InR; decide)) rfl ?_
 refine QM ?_
 refine vnil ?_
 refine vinloop1 ?_
 refine K2 ?_
 refine QS ?_
 refine vnil (vseq (vcondf rfl ?_))
 refine vexit (k' := _) rfl ?_
 refine vseq (K2 ?_)
 refine QF ?_
 refine QL ?_
 refine QQ (vlen rfl) rfl ?_
 refine QM ?_
 refine vnil (vblock ?_)
 refine vloop1 ?_
 refine K2 ?_
 refine QS ?_
 refine vnil (vseq (vcondt rfl (vskip (vseq (vblock (K2 ?_))))))
 refine QQ (visg (enc := encOb) (xs := [()]) (z := ()) rfl rfl (by decide) rfl) rfl ?_
 refine QQ (vldS (enc := encOb) (xs := [()]) (z := ()) rfl rfl) rfl ?_
 refine AL fun b10 => ?_
 refine SN ?_
 refine K3 ?_
 refine QN ?_
 refine QF ?_
 refine QL ?_
 refine QQ (vlen rfl) rfl ?_
 refine QQ (vcp rfl rfl rfl fx_read) rfl ?_
 refine QM ?_
 refine QX ?_
 refine QX ?_
 refine QA ?_
 refine QA ?_
 refine vnil (vseq (K2 ?_))
 refine QM ?_
 refine QQ (vnot rfl) rfl ?_
 refine vnil (vcondf rfl (vskip (vregion ?_)))
 refine QF ?_
 refine QL ?_
 refine QM ?_
 refine vone rfl (vxg (vbs rfl rfl rfl rfl rfl rfl) rfl rfl ?_)
 rintro _ _ ⟨b11, rfl, rfl⟩
 refine vone rfl (vxg ((vappF (F := fun C => C ++ ((b11, blk [.iface 272 (.agg #[I 0, I 1, I 0, I 2])] 234) :: (b10, blk (encOb ()) 148) :: (b9, blk (clR r9) 28) :: (b8, blk (clR r9) 28) :: (b7, blk (clR r9) 28) :: (gb, blk (c2 zR r9 rs) 28) :: (b6, blk (clR zR) 28) :: (b5, blk (clR zR) 28) :: (b4, blk (clR zR) 28) :: (b3, blk [.slice (some ⟨gb, 0, Option.none⟩) (0 + 1 + 1) kb, .slice Option.none 0 0] 197) :: (b2, blk [.slice Option.none 0 0, .slice Option.none 0 0] 197) :: (b1, blk [.slice oa 2 ca, .slice ob 1 cb] 151) :: H)) (H0 := (b11, blk [.iface 272 (.agg #[I 0, I 1, I 0, I 2])] 234) :: (b10, blk (encOb ()) 148) :: (b9, blk (clR r9) 28) :: (b8, blk (clR r9) 28) :: (b7, blk (clR r9) 28) :: (gb, blk (c2 zR r9 rs) 28) :: (b6, blk (clR zR) 28) :: (b5, blk (clR zR) 28) :: (b4, blk (clR zR) 28) :: (b3, blk [.slice (some ⟨gb, 0, Option.none⟩) (0 + 1 + 1) kb, .slice Option.none 0 0] 197) :: (b2, blk [.slice Option.none 0 0, .slice Option.none 0 0] 197) :: (b1, blk [.slice oa 2 ca, .slice ob 1 cb] 151) :: H) (B := []) (xs := []) (a := ⟨b11, 0, Option.none⟩) (m := 1) (c := 1) (news := [.iface 272 (.agg #[I 0, I 1, I 0, I 2])]) (fun C => .refl _) rfl rfl OwnS.nil rfl (news_blk (b := b11) (List.Mem.head _)) (fun u hu => by simp at hu; subst hu; rfl) (by omega) (by simp only [maxLen]; omega) (by omega)).mono (R' := fun u H' => ∃ gc kc rc, u = .slice (some ⟨gc, 0, Option.none⟩) (0 + 1) kc ∧ H' = (gc, blk (.iface 272 (.agg #[I 0, I 1, I 0, I 2]) :: rc) 234) :: (b11, blk [.iface 272 (.agg #[I 0, I 1, I 0, I 2])] 234) :: (b10, blk (encOb ()) 148) :: (b9, blk (clR r9) 28) :: (b8, blk (clR r9) 28) :: (b7, blk (clR r9) 28) :: (gb, blk (c2 zR r9 rs) 28) :: (b6, blk (clR zR) 28) :: (b5, blk (clR zR) 28) :: (b4, blk (clR zR) 28) :: (b3, blk [.slice (some ⟨gb, 0, Option.none⟩) (0 + 1 + 1) kb, .slice Option.none 0 0] 197) :: (b2, blk [.slice Option.none 0 0, .slice Option.none 0 0] 197) :: (b1, blk [.slice oa 2 ca, .slice ob 1 cb] 151) :: H) (fun u H' ⟨B', h1, _, h3⟩ => by obtain ⟨g, cap, cur, e1, e2, e3⟩ := own_cons h1; subst e1; subst e2; obtain ⟨r, e4⟩ := own_1 e3; exact ⟨g, cap, r, rfl, by rw [h3, e4]; rfl⟩)) rfl rfl ?_)
 rintro _ _ ⟨gc, kc, rc, rfl, rfl⟩
 refine QF ?_
 refine SU ?_
 refine vnil (vinblock (vregion ?_))
 refine QQ (vadd rfl rfl (by unfold InR; decide)) rfl ?_
 refine QM ?_
 refine vnil ?_
 refine vinloop1 ?_
 refine K2 ?_
 refine QS ?_
 refine vnil (vseq (vcondf rfl ?_))
 refine vexit (k' := _) rfl ?_
 refine K2 ?_
 refine QN ?_
 refine SN ?_
 refine QA ?_
 refine vnil ?_
 refine vret (vr2 (H' := (gc, blk (.iface 272 (.agg #[I 0, I 1, I 0, I 2]) :: rc) 234) :: (gb, blk (c2 zR r9 rs) 28) :: H) Tryz.func81 rfl (.celln rfl rfl) (.tmp rfl) sb2 ?_)
 exact ⟨_, rfl, gb, kb, rs, gc, kc, rc, rfl, rfl⟩
end Go.Proofs.YtmfmecgiaekelaaGreatDoor
namespace Go.Proofs.YtmfmecgiaekelaaGreatDoor
open Go
set_option maxRecDepth 100000
def c0L : Pt × Pt := (⟨0, 0⟩, ⟨10, 0⟩)
def c0D : List Bd := [⟨7, 100⟩]
def c0 : Cz := ⟨[c0L], [], [], zR, ⟨⟨0, 0⟩, 0⟩, 2, 3, [c0D]⟩
theorem c0_tight : (tightE c0.spread).2 = 0 := by kernel_rfl
theorem c0_swept : (sweptE c0.spread ⟨0, 0⟩ ⟨10, 0⟩).2 = 0 := by kernel_rfl
theorem c0_swept' : (sweptE c0.spread ⟨10, 0⟩ ⟨0, 0⟩).2 = 0 := by kernel_rfl
theorem c0_clear : clearB c0 ⟨0, 0⟩ ⟨10, 0⟩ = true := by unfold clearB; rw [decide_eq_true c0_swept]; rfl
theorem c0_clear' : clearB c0 ⟨10, 0⟩ ⟨0, 0⟩ = true := by unfold clearB; rw [decide_eq_true c0_swept']; rfl
theorem c0_steps : stepsC c0 ⟨0, 0⟩ ⟨10, 0⟩ = 5 := by kernel_rfl
theorem c0_steps' : stepsC c0 ⟨10, 0⟩ ⟨0, 0⟩ = 5 := by kernel_rfl
theorem c0_cost0 : costV c0 c0.start (fromV (wayV c0L 0)) = 0 := by kernel_rfl
theorem c0_pass1 : passP c0 c0.start (fromV (wayV c0L 1)) = [([⟨0, 0⟩, ⟨10, 0⟩], 14)] := by
  have h1 : triedP c0 c0.start (fromV (wayV c0L 1)) = [[⟨0, 0⟩, ⟨10, 0⟩]] := by kernel_rfl
  unfold passP
  rw [h1]
  have h2 : costP c0 [⟨0, 0⟩, ⟨10, 0⟩] c0.start.oc (fromV (wayV c0L 1)).oc = some 14 := by
    show costL c0 (fromV (wayV c0L 1)).oc ⟨0, 0⟩ [⟨10, 0⟩] 0 0 = some 14
    simp only [costL]
    rw [if_neg (by rw [c0_clear]; decide), c0_steps]
    kernel_rfl
  simp only [List.filterMap_cons, List.filterMap_nil, h2, Option.map_some]
theorem c0_cost1 : costV c0 c0.start (fromV (wayV c0L 1)) = 14 := by
  unfold costV bestP
  rw [if_pos (by unfold okPs Pt.ok c0; decide), c0_pass1]; rfl
theorem c0_go0 : goV c0 (c0.start, 0) (wayV c0L 0) c0D = some (7, 12) := by
  unfold goV
  rw [c0_cost0, if_neg (by decide)]
  show shotV c0 (⟨0, 0⟩, ⟨10, 0⟩) c0D 0 = _
  unfold shotV
  rw [c0_clear, if_neg (by decide), c0_steps]; rfl
theorem c0_go1 : goV c0 (c0.start, 0) (wayV c0L 1) c0D = some (14, 19) := by
  unfold goV
  rw [c0_cost1, if_neg (by decide)]
  show shotV c0 (⟨10, 0⟩, ⟨0, 0⟩) c0D 14 = _
  unfold shotV
  rw [c0_clear', if_neg (by decide), c0_steps']; rfl
theorem c0_tab1 : tabE c0 c0L c0D 1 = 19 := by
  apply tab_s; unfold earE; simp only [List.flatMap_cons, List.flatMap_nil, List.append_nil]; rw [goL_s c0_go1]; rfl
theorem c0_ok : okCz c0 := by
  refine ⟨by decide, by decide, by decide, by decide, fun l hl => ?_, fun l hl => ?_, (fun f hf => by cases hf), (fun p hp => by cases hp), c0_tight, by decide, by decide, by unfold okPs Pt.ok c0; decide, by decide, by decide⟩
  · rw [List.mem_singleton.1 hl]; unfold Pt.ok c0L; decide
  · rw [List.mem_singleton.1 hl]; rfl
end Go.Proofs.YtmfmecgiaekelaaGreatDoor
namespace Go.Proofs.YtmfmecgiaekelaaGreatDoor
open Go
set_option maxRecDepth 100000
attribute [local irreducible] tightP hullP rootP farP rows endsOf meetE gapE winR goV tabE
theorem c_AlikeI (l m : List Int) (oa ob : Option Addr) (n k c d : Nat) (hn : l.length = n) (hk : m.length = k) (hmax : n ≤ 9223372036854775807) (H : Heap) [SlO0 : SlO H oa 1 encI l] [SlO1 : SlO H ob 1 encI m] : VHas Tryz.prog 20 [sli oa n c, sli ob k d] (.bool (decide (l = m))) (H) (H) := by
 refine CV 26 Tryz.func20 ?_
 refine K2 ?_
 refine QA ?_
 refine vnil (vseq (K2 ?_))
 refine QM ?_
 refine QQ (vlen rfl) rfl ?_
 refine QM ?_
 refine QQ (vlen rfl) rfl ?_
 refine QG ?_
 refine vnil ?_
 refine vcondd rfl (fun h10 => ?_) (fun h10 => ?_)
 ·
  refine K2 ?_
  refine QA ?_
  refine vnil ?_
  refine vret (V1 (H) Tryz.func20 ?_)
  (have hne : ¬ l = m := (fun e => h10 (by rw [e] at hn; omega)); rw [decide_eq_false hne]; exact ⟨rfl, rfl⟩)
 ·
  refine vskip (vseq (K2 ?_))
  refine QA ?_
  refine vnil (vblock ?_)
  refine vwhile (σ := Int) (fun i => (n - i).toNat) (fun i => [(0, sli oa n c), (1, sli ob k d), (5, I i)]) (fun i => H) (fun i => (0 ≤ i ∧ i ≤ n) ∧ ∀ j : Nat, (j : Int) < i → l[j]? = m[j]?) 0 ⟨⟨by omega, by omega⟩, fun j hj => by omega⟩ ⟨rfl, rfl, rfl, True.intro⟩ sb ?_
  rintro i ⟨⟨hi0, hin⟩, hall⟩ IH
  change VRun _ _ _ _ _ [(0, sli oa n c), (1, sli ob k d), (5, I i)] _ (H) _
  refine vseq (K2 ?_)
  refine QM ?_
  refine QM ?_
  refine QQ (vlen rfl) rfl ?_
  refine QS ?_
  refine vnil ?_
  refine vcondd rfl (fun h14 => ?_) (fun h14 => ?_)
  ·
   obtain ⟨x, hx⟩ := get_of_lt l (i := i.toNat) (by omega)
   obtain ⟨y, hy⟩ := get_of_lt m (i := i.toNat) (by omega)
   refine vskip (vseq (vblock (vseq ?_)))
   refine DR [(.q, 0), (.q, 1), (.q, 2), (.q, 3), (.q, 4), (.q, 5), (.q, 6), (.q, 7), (.q, 8)] Tryz.mixed ?_
   refine DM ?_
   refine DM ?_
   refine DD (visg (enc := encI) rfl rfl (by omega) hx) rfl ?_
   refine DD (vldS1 (enc := encI) rfl hx rfl) rfl ?_
   refine DM ?_
   refine DM ?_
   refine DD (visg (enc := encI) rfl rfl (by omega) hy) rfl ?_
   refine DD (vldS1 (enc := encI) rfl hy rfl) rfl ?_
   refine DG ?_
   refine vdend rfl ?_
   refine vcondd rfl (fun h25 => ?_) (fun h25 => ?_)
   ·
    refine K2 ?_
    refine QA ?_
    refine vnil ?_
    refine vret (V1 (H) Tryz.func20 ?_)
    (have hne : ¬ l = m := (fun e => by subst e; rw [hx] at hy; cases hy; first | exact h25 rfl | (simp at h25; done)); rw [decide_eq_false hne]; exact ⟨rfl, rfl⟩)
   ·
    refine vskip (vinblock (vregion ?_))
    refine QM ?_
    refine QQ (vadd rfl rfl (by unfold InR; omega)) rfl ?_
    refine QA ?_
    refine vnil ?_
    exact vback (IH (i + 1) ⟨⟨by omega, by omega⟩, lt_snoc (n := 0) hi0 hall (by rw [hx, hy]; exact congrArg some (Classical.not_not.1 h25))⟩ (by show (_ : Int).toNat < (_ : Int).toNat; omega)) ⟨rfl, rfl, rfl, True.intro⟩ sb
  ·
   refine vexit (k' := _) rfl ?_
   refine K2 ?_
   refine QA ?_
   refine vnil ?_
   refine vret (V1 (H) Tryz.func20 ?_)
   (have he : l = m := (List.ext_getElem? fun j => (by rcases Nat.lt_or_ge j n with hj | hj; exact hall j (by omega); rw [List.getElem?_eq_none (by omega), List.getElem?_eq_none (by omega)])); rw [decide_eq_true he]; exact ⟨rfl, rfl⟩)
theorem fx_Fix (oa ob : Option Addr) (ca cb : Nat) (H : Heap) [hs1 : SlO H oa 8 clR [zR, r9]] [hs2 : SlO H ob 14 encOb [()]] : VCall Tryz.prog 51 [.agg #[.slice oa 2 ca, .slice ob 1 cb]].toArray H (fun o H' => ∃ v, o = .val v ∧ ∃ gb kb rs, v = tup [.slice (some ⟨gb, 0, Option.none⟩) 2 kb, I 0] ∧ H' = (gb, blk (c2 zR rb rs) 28) :: H) := by
 refine CV 26 Tryz.func51 ?_
 refine K2 ?_
 refine BX fun b1 => ?_
 refine QA ?_
 refine QA ?_
 refine K3 ?_
 refine QN ?_
 refine vone rfl (vxg (vcg rfl rfl rfl (fx_netOf oa ob ca cb _) (fun o H' h => h)) rfl rfl ?_)
 rintro _ _ ⟨gb, kb, rs, gc, kc, rc, rfl, rfl⟩
 refine QM ?_
 refine QX ?_
 refine QX ?_
 refine AL fun b2 => ?_
 refine SN ?_
 refine QA ?_
 refine vnil (vseq (K2 ?_))
 refine QM ?_
 refine QG ?_
 refine vknow (d := 15) (b' := false) rfl rfl ?_
 refine vnil (vcondf rfl (vskip (K2 ?_)))
 refine QN ?_
 refine vone rfl (vxg (vcg rfl rfl rfl (fx_fixed (some ⟨gb, 0, Option.none⟩) kb gc kc rc _) (fun o H' h => h)) rfl rfl ?_)
 rintro _ _ ⟨gx, kx, rx, sa, sc, rfl, rfl⟩
 refine QM ?_
 refine QX ?_
 refine QX ?_
 refine QX ?_
 refine QA ?_
 refine QA ?_
 refine QA ?_
 refine vnil (vseq (K2 ?_))
 refine QM ?_
 refine QQ (vnot rfl) rfl ?_
 refine vnil (vcondf rfl (vskip (K2 ?_)))
 refine QM ?_
 refine QA ?_
 refine QA ?_
 refine vnil ?_
 refine vret (vr2 (H' := (gx, blk (c2 zR rb rx) 28) :: H) Tryz.func51 rfl (.tmp rfl) (.tmp rfl) sb2 ?_)
 exact ⟨_, rfl, gx, kx, rx, rfl, rfl⟩
theorem sub8 (a b : Rg) (rest : List Value) : sub (c2 a b rest) 8 2 = some [I b.x.lo, I b.x.hi] := by simp [sub, tak, c2]
theorem cz_c0 {H : Heap} {b1 b2 b3 : Nat} {T1 T2 T3 : TypeId} (h1 : (b1, blk (encLg c0L) T1) ∈ H) (h2 : (b2, blk (encBd ⟨7, 100⟩) T2) ∈ H) (h3 : (b3, blk [.slice (some ⟨b2, 0, Option.none⟩) 1 1] T3) ∈ H) :
    CzO H ⟨some ⟨b1, 0, Option.none⟩, 1, Option.none, 0, [], Option.none, 0, some ⟨b3, 0, Option.none⟩, 1, [⟨some ⟨b2, 0, Option.none⟩, 1, c0D⟩]⟩ c0 := by
  haveI a1 : HAt H b1 (encLg c0L) T1 := ⟨h1⟩
  haveI a2 : HAt H b2 (encBd ⟨7, 100⟩) T2 := ⟨h2⟩
  haveI a3 : HAt H b3 [.slice (some ⟨b2, 0, Option.none⟩) 1 1] T3 := ⟨h3⟩
  refine ⟨SlO.flat (fun _ => rfl) (by rfl), SlO.nil, (fun d hd => by cases hd), rfl, SlO.nil, SlO.flat (fun _ => rfl) (by rfl), (fun d hd => ?_), rfl, ⟨Nat.le_of_ble_eq_true rfl, Nat.le_of_ble_eq_true rfl, Nat.le_of_ble_eq_true rfl, Nat.le_of_ble_eq_true rfl⟩⟩
  rw [List.mem_singleton.1 hd]
  exact ⟨SlO.flat (fun _ => rfl) (by rfl), Nat.le_of_ble_eq_true rfl⟩
theorem q_steered (H : Heap) : VHas Tryz.prog 21 [] (.bool true) H H := by
 refine CV 78 Tryz.func21 ?_
 refine K2 ?_
 refine QA ?_
 refine K3 ?_
 refine QB ?_
 refine QB ?_
 refine vone rfl (vxg (vbs rfl rfl rfl rfl rfl rfl) rfl rfl ?_)
 rintro _ _ ⟨b1, rfl, rfl⟩
 refine QB ?_
 refine vone rfl (vxg (vbs rfl rfl rfl rfl rfl rfl) rfl rfl ?_)
 rintro _ _ ⟨b2, rfl, rfl⟩
 refine vone rfl (vxg (vbs rfl rfl rfl rfl rfl rfl) rfl rfl ?_)
 rintro _ _ ⟨b3, rfl, rfl⟩
 refine QB ?_
 refine AL fun b4 => ?_
 refine SN ?_
 refine K3 ?_
 refine QN ?_
 refine vone rfl (vxg (haveI hcz : CzO ((b4, blk (clCz (⟨some ⟨b1, 0, Option.none⟩, 1, Option.none, 0, [], Option.none, 0, some ⟨b3, 0, Option.none⟩, 1, [⟨some ⟨b2, 0, Option.none⟩, 1, c0D⟩]⟩ : CH) c0) 35) :: (b3, blk [.slice (some ⟨b2, 0, Option.none⟩) 1 1] 141) :: (b2, blk (encBd ⟨7, 100⟩) 26) :: (b1, blk (encLg c0L) 140) :: H) (⟨some ⟨b1, 0, Option.none⟩, 1, Option.none, 0, [], Option.none, 0, some ⟨b3, 0, Option.none⟩, 1, [⟨some ⟨b2, 0, Option.none⟩, 1, c0D⟩]⟩ : CH) c0 := cz_c0 (T1 := 140) (T2 := 26) (T3 := 141) (by simp) (by simp) (by simp); vcg (R := fun v H' => ∃ B sl, v = tup [sl, I 12, I 0] ∧ H' = B ++ ((b4, blk (clCz (⟨some ⟨b1, 0, Option.none⟩, 1, Option.none, 0, [], Option.none, 0, some ⟨b3, 0, Option.none⟩, 1, [⟨some ⟨b2, 0, Option.none⟩, 1, c0D⟩]⟩ : CH) c0) 35) :: (b3, blk [.slice (some ⟨b2, 0, Option.none⟩) 1 1] 141) :: (b2, blk (encBd ⟨7, 100⟩) 26) :: (b1, blk (encLg c0L) 140) :: H)) rfl rfl rfl (d_Best1 (⟨some ⟨b1, 0, Option.none⟩, 1, Option.none, 0, [], Option.none, 0, some ⟨b3, 0, Option.none⟩, 1, [⟨some ⟨b2, 0, Option.none⟩, 1, c0D⟩]⟩ : CH) c0 ((b4, blk (clCz (⟨some ⟨b1, 0, Option.none⟩, 1, Option.none, 0, [], Option.none, 0, some ⟨b3, 0, Option.none⟩, 1, [⟨some ⟨b2, 0, Option.none⟩, 1, c0D⟩]⟩ : CH) c0) 35) :: (b3, blk [.slice (some ⟨b2, 0, Option.none⟩) 1 1] 141) :: (b2, blk (encBd ⟨7, 100⟩) 26) :: (b1, blk (encLg c0L) 140) :: H) c0L rfl rfl c0D rfl c0_ok (7, 12) c0_go0 (by decide) (.inr (by rw [c0_tab1]; decide))) (fun o H' ⟨B, sl, e1, e2⟩ => ⟨_, e2, B, sl, rfl, e1⟩)) rfl rfl ?_)
 rintro _ _ ⟨B1, sl, rfl, rfl⟩
 refine QM ?_
 refine QX ?_
 refine QX ?_
 refine QX ?_
 refine QA ?_
 refine QA ?_
 refine QA ?_
 refine K3 ?_
 refine QB ?_
 refine QB ?_
 refine QB ?_
 refine QB ?_
 refine QB ?_
 refine QB ?_
 refine vone rfl (vxg (vbs rfl rfl rfl rfl rfl rfl) rfl rfl ?_)
 rintro _ _ ⟨b5, rfl, rfl⟩
 refine QB ?_
 refine vone rfl (vxg (vbs rfl rfl rfl rfl rfl rfl) rfl rfl ?_)
 rintro _ _ ⟨b6, rfl, rfl⟩
 refine QB ?_
 refine vone rfl (vxg (vcg rfl rfl rfl (fx_Fix (hs1 := SlO.flat (b := b5) clR_len (by rfl)) (hs2 := SlO.flat (b := b6) (fun _ => rfl) (by rfl)) (some ⟨b5, 0, Option.none⟩) (some ⟨b6, 0, Option.none⟩) 2 1 _) (fun o H' h => h)) rfl rfl ?_)
 rintro _ _ ⟨gx, kx, rx, rfl, rfl⟩
 refine QM ?_
 refine QX ?_
 refine QX ?_
 refine QA ?_
 refine QA ?_
 refine K3 ?_
 refine QB ?_
 refine vone rfl (vxg (vbs rfl rfl rfl rfl rfl rfl) rfl rfl ?_)
 rintro _ _ ⟨b7, rfl, rfl⟩
 refine QB ?_
 refine QB ?_
 refine vone rfl (vxg (vbs rfl rfl rfl rfl rfl rfl) rfl rfl ?_)
 rintro _ _ ⟨b8, rfl, rfl⟩
 refine vone rfl (vxg (vbs rfl rfl rfl rfl rfl rfl) rfl rfl ?_)
 rintro _ _ ⟨b9, rfl, rfl⟩
 refine vone rfl (vxg (vcg (R := fun v H' => ∃ b, v = tup [.slice (some ⟨b, 0, Option.none⟩) 1 1, I 0] ∧ H' = (b, blk [I 5] 3) :: _) rfl rfl rfl (d_tow0 (hs0 := SlO.flat (b := b7) (fun _ => rfl) (by rfl)) (hs2 := SlO.flat (b := b9) (fun _ => rfl) (by rfl)) (hs3 := SlO.flat (b := b8) (fun _ => rfl) (by rfl)) (some ⟨b7, 0, Option.none⟩) (some ⟨b9, 0, Option.none⟩) (some ⟨b8, 0, Option.none⟩) 1 1 1 _) (fun o H' ⟨b, e1, e2⟩ => ⟨_, e1, b, rfl, e2⟩)) rfl rfl ?_)
 rintro _ _ ⟨gt, rfl, rfl⟩
 refine QM ?_
 refine QX ?_
 refine QX ?_
 refine QA ?_
 refine QA ?_
 refine K3 ?_
 refine QM ?_
 refine QE ?_
 refine vknow (d := 47) (b' := true) rfl rfl ?_
 refine QM ?_
 refine YM ?_
 refine YE ?_
 refine vknow (d := 50) (b' := true) rfl rfl ?_
 refine QT ?_
 refine QM ?_
 refine YM ?_
 refine YE ?_
 refine vknow (d := 54) (b' := true) rfl rfl ?_
 refine QT ?_
 refine QM ?_
 refine YM ?_
 refine YE ?_
 refine vknow (d := 58) (b' := true) rfl rfl ?_
 refine QT ?_
 refine QM ?_
 refine YM ?_
 refine YY (vlen rfl) rfl ?_
 refine YE ?_
 refine QT ?_
 refine QM ?_
 refine YM ?_
 refine YY (vis rfl rfl (by decide)) rfl ?_
 refine YF ?_
 refine YY (vldn rfl (sub8 _ _ _)) rfl ?_
 refine YB ?_
 refine YY (veqs rfl rfl rfl rfl rfl rfl) rfl ?_
 refine vknow (d := 71) (b' := true) rfl (by decide) ?_
 refine QT ?_
 refine QM ?_
 refine YM ?_
 refine vyes rfl rfl rfl (vxg (vbs rfl rfl rfl rfl rfl rfl) rfl rfl ?_)
 rintro _ _ ⟨b10, rfl, rfl⟩
 refine YY (vcq rfl rfl rfl (c_AlikeI (SlO0 := SlO.flat (b := gt) (fun _ => rfl) (by rfl)) (SlO1 := SlO.flat (b := b10) (fun _ => rfl) (by rfl)) [5] [5] (some ⟨gt, 0, Option.none⟩) (some ⟨b10, 0, Option.none⟩) 1 1 1 1 rfl rfl (by decide) _)) rfl ?_
 refine vknow (d := 76) (b' := true) rfl rfl ?_
 refine QT ?_
 refine QA ?_
 refine vnil ?_
 refine vret (V1 (H) Tryz.func21 ?_)
 exact ⟨rfl, rfl⟩
end Go.Proofs.YtmfmecgiaekelaaGreatDoor
namespace Go.Proofs.YtmfmecgiaekelaaGreatDoor
open Go
set_option maxRecDepth 100000
attribute [local irreducible] tightP hullP rootP farP rows endsOf
noncomputable def bestE (w : Wn) (s : Sc) : List Int × Int × Int := if (dangerE w s).2 ≠ 0 then ([], 0, (dangerE w s).2) else (bestF ⟨w, s, (dangerE w s).1⟩ s.ship.length 0 sta0, mostF ⟨w, s, (dangerE w s).1⟩ s.ship.length 0 sta0, 0)
theorem best_e {w : Wn} {s : Sc} (h : (dangerE w s).2 ≠ 0) : bestE w s = ([], 0, (dangerE w s).2) := if_pos h
theorem best_y {w : Wn} {s : Sc} (h : ¬ (dangerE w s).2 ≠ 0) : bestE w s = (bestF ⟨w, s, (dangerE w s).1⟩ s.ship.length 0 sta0, mostF ⟨w, s, (dangerE w s).1⟩ s.ship.length 0 sta0, 0) := if_neg h
theorem bestM_min (g : Lg) (hs : 0 ≤ g.w.soft) (n : Nat) (t : Int) (x : Sta) : ∃ b : Nat, bestM g n t x = b ∧ b < g.w.soft.toNat + 2 ∧ gainF g n t x b = mostF g (n + 1) t x ∧ ∀ j : Nat, j < b → gainF g n t x j ≠ mostF g (n + 1) t x := by
  obtain ⟨m, hm, hg⟩ := gain_at g hs n t x
  unfold bestM modesL at *
  rw [List.find?_map]
  obtain ⟨j, hj, rfl⟩ := List.mem_map.1 hm
  cases hf : (List.range (g.w.soft.toNat + 2)).find? ((fun m => decide (gainF g n t x m = mostF g (n + 1) t x)) ∘ fun (j : Nat) => (j : Int)) with
  | none =>
    have := List.find?_eq_none.1 hf j hj
    simp [hg] at this
  | some b =>
    obtain ⟨h1, h2, h3⟩ := List.find?_range_eq_some.1 hf
    refine ⟨b, rfl, List.mem_range.1 h2, by simpa using h1, fun j hj => ?_⟩
    have := h3 j hj
    simpa using this
theorem d_Best (w : Wn) (h : SH) (s : Sc) (H : Heap) [hsc : ScO H h s] [hgl : Glob H] : VCall Tryz.prog 12 [vWn w, vSc h s].toArray H (fun o H' => ∃ v, o = .val v ∧ ∃ B, H' = B ++ H ∧ ∃ oa c, v = tup [.slice oa (bestE w s).1.length c, I (bestE w s).2.1, I (bestE w s).2.2] ∧ SlO B oa 1 encI (bestE w s).1) := by
 refine CV 63 Tryz.func12 ?_
 refine K2 ?_
 refine BX fun b1 => ?_
 refine BX fun b2 => ?_
 refine QA ?_
 refine QA ?_
 refine QA ?_
 refine K3 ?_
 refine QN ?_
 refine QN ?_
 refine vone rfl (vxg (vcg rfl rfl rfl (d_logOf w h s _) (fun o H' h => h)) rfl rfl ?_)
 rintro _ _ ⟨B, rfl, ⟨oa1, c1, rfl, hle, hsl⟩⟩
 refine QM ?_
 refine QX ?_
 refine QX ?_
 refine AL fun b3 => ?_
 refine SN ?_
 refine QA ?_
 refine vnil (vseq (K2 ?_))
 refine QM ?_
 refine QG ?_
 refine vnil ?_
 refine vcondd rfl (fun h20 => ?_) (fun h20 => ?_)
 ·
  refine K2 ?_
  refine QM ?_
  refine QA ?_
  refine QA ?_
  refine QA ?_
  refine vnil ?_
  refine vret (vr3 (H' := B ++ H) Tryz.func12 rfl (.tmp rfl) (.tmp rfl) (.tmp rfl) sb2 ?_)
  (rw [best_e h20]; exact ⟨_, rfl, B, rfl, Option.none, 0, rfl, SlO.nil⟩)
 ·
  obtain ⟨hw0, hs0, _, hdl⟩ := danger_0 (Classical.not_not.1 h20)
  haveI hlg : LgO (B ++ ((b2, blk (clSc h s) 59) :: (b1, blk (clWn w) 37) :: H)) ⟨h, oa1, c1⟩ ⟨w, s, (dangerE w s).1⟩ := LgO.of (Classical.not_not.1 h20) hle hsl
  have hn64 := hs0.1
  have hwu := hw0
  unfold okW at hwu
  refine vskip (K2 ?_)
  refine vone rfl (vxg (vmm (ek := evPc) (ev' := evI) rfl) rfl rfl ?_)
  rintro _ _ ⟨bm, rfl, rfl⟩
  refine AL fun b4 => ?_
  refine SU ?_
  refine K3 ?_
  refine AL fun b5 => ?_
  refine K3 ?_
  refine QQ (vmf rfl) rfl ?_
  refine AL fun b6 => ?_
  refine SU ?_
  refine K3 ?_
  refine QQ (vmf rfl) rfl ?_
  refine SU ?_
  refine K3 ?_
  refine QQ (vglF rfl) rfl ?_
  refine QB ?_
  refine AL fun b7 => ?_
  refine SN ?_
  refine K3 ?_
  refine QL ?_
  have hB : ∀ C : Heap, BsO ((b6, blk [.func (.func 31) #[] #[ptr b3, ptr b5]] 114) :: (b5, blk [.func (.func 35) #[] #[ptr b3, ptr b4, ptr b6]] 106) :: (b4, blk [.map (some bm)] 105) :: (b3, blk (clLg ⟨h, oa1, c1⟩ ⟨w, s, (dangerE w s).1⟩) 102) :: (C ++ (B ++ ((b2, blk (clSc h s) 59) :: (b1, blk (clWn w) 37) :: H)))) ⟨h, oa1, c1⟩ ⟨w, s, (dangerE w s).1⟩ b3 b4 b5 b6 bm := fun C => ⟨inferInstance, inferInstance, inferInstance, inferInstance, inferInstance⟩
  refine QN ?_
  refine vone rfl (vxg (vcg (R := fun v H' => v = I (mostF ⟨w, s, (dangerE w s).1⟩ s.ship.length 0 sta0) ∧ ∃ l' c', H' = (b7, blk [I 0, I sta0.md, I sta0.qu] 110) :: (b6, blk [.func (.func 31) #[] #[ptr b3, ptr b5]] 114) :: (b5, blk [.func (.func 35) #[] #[ptr b3, ptr b4, ptr b6]] 106) :: (b4, blk [.map (some bm)] 105) :: (bm, mPc l' c') :: (b3, blk (clLg ⟨h, oa1, c1⟩ ⟨w, s, (dangerE w s).1⟩) 102) :: (B ++ ((b2, blk (clSc h s) 59) :: (b1, blk (clWn w) 37) :: H)) ∧ MK ⟨w, s, (dangerE w s).1⟩ l') rfl rfl rfl (VCall.atO (most_all ⟨w, s, (dangerE w s).1⟩ s.ship.length ((b7, blk [I 0, I sta0.md, I sta0.qu] 110) :: (b6, blk [.func (.func 31) #[] #[ptr b3, ptr b5]] 114) :: (b5, blk [.func (.func 35) #[] #[ptr b3, ptr b4, ptr b6]] 106) :: (b4, blk [.map (some bm)] 105) :: (b3, blk (clLg ⟨h, oa1, c1⟩ ⟨w, s, (dangerE w s).1⟩) 102) :: (B ++ ((b2, blk (clSc h s) 59) :: (b1, blk (clWn w) 37) :: H))) ⟨h, oa1, c1⟩ b3 b4 b5 b6 bm 0 sta0 [] 0 (hB []).cons (by omega) (by simp) sta0_ok MK.nil)) (fun o H' ⟨o', h1, h2, l', c', h3, h4⟩ => ⟨_, h2, rfl, l', c', by subst h3; exact h1, h4⟩)) rfl rfl ?_)
  rintro _ _ ⟨rfl, l0, c0, rfl, hmk0⟩
  refine QA ?_
  refine vnil (vseq (vblock ?_))
  refine VRun.perm (H' := (bm, mPc l0 c0) :: (b7, blk [I 0, I sta0.md, I sta0.qu] 110) :: (b6, blk [.func (.func 31) #[] #[ptr b3, ptr b5]] 114) :: (b5, blk [.func (.func 35) #[] #[ptr b3, ptr b4, ptr b6]] 106) :: (b4, blk [.map (some bm)] 105) :: (b3, blk (clLg ⟨h, oa1, c1⟩ ⟨w, s, (dangerE w s).1⟩) 102) :: (B ++ ((b2, blk (clSc h s) 59) :: (b1, blk (clWn w) 37) :: H))) (List.perm_middle (l₁ := [(b7, blk [I 0, I sta0.md, I sta0.qu] 110), (b6, blk [.func (.func 31) #[] #[ptr b3, ptr b5]] 114), (b5, blk [.func (.func 35) #[] #[ptr b3, ptr b4, ptr b6]] 106), (b4, blk [.map (some bm)] 105)])) ?_
  refine vwhile (σ := Nat × Sta × List EnP × Nat × Option Addr × Nat × Heap × List Int) (fun ⟨i, x, l, c, oa, cp, C, pre⟩ => s.ship.length - i) (fun ⟨i, x, l, c, oa, cp, C, pre⟩ => [(4, .slice oa i cp), (5, I (mostF ⟨w, s, (dangerE w s).1⟩ s.ship.length 0 sta0)), (7, ptr b3), (9, ptr b5), (10, ptr b6), (11, ptr b7)]) (fun ⟨i, x, l, c, oa, cp, C, pre⟩ => (bm, mPc l c) :: (b7, blk [I (i : Int), I x.md, I x.qu] 110) :: (b6, blk [.func (.func 31) #[] #[ptr b3, ptr b5]] 114) :: (b5, blk [.func (.func 35) #[] #[ptr b3, ptr b4, ptr b6]] 106) :: (b4, blk [.map (some bm)] 105) :: (b3, blk (clLg ⟨h, oa1, c1⟩ ⟨w, s, (dangerE w s).1⟩) 102) :: (C ++ (B ++ ((b2, blk (clSc h s) 59) :: (b1, blk (clWn w) 37) :: H)))) (fun ⟨i, x, l, c, oa, cp, C, pre⟩ => i ≤ s.ship.length ∧ okSt x ∧ MK ⟨w, s, (dangerE w s).1⟩ l ∧ pre.length = i ∧ OwnS 3 1 (.slice oa i cp) i (pre.flatMap encI) C ∧ pre ++ bestF ⟨w, s, (dangerE w s).1⟩ (s.ship.length - i) i x = bestF ⟨w, s, (dangerE w s).1⟩ s.ship.length 0 sta0) (0, sta0, l0, c0, Option.none, 0, [], []) ⟨Nat.zero_le _, sta0_ok, hmk0, rfl, OwnS.nil, rfl⟩ ⟨rfl, rfl, rfl, rfl, rfl, rfl, True.intro⟩ sb ?_
  rintro ⟨i, x, l, c, oa, cp, C, pre⟩ ⟨hin, hx, hmk, hpl, hown, hbf⟩ IH
  change VRun _ _ _ _ _ [(4, .slice oa i cp), (5, I (mostF ⟨w, s, (dangerE w s).1⟩ s.ship.length 0 sta0)), (7, ptr b3), (9, ptr b5), (10, ptr b6), (11, ptr b7)] _ ((bm, mPc l c) :: (b7, blk [I (i : Int), I x.md, I x.qu] 110) :: (b6, blk [.func (.func 31) #[] #[ptr b3, ptr b5]] 114) :: (b5, blk [.func (.func 35) #[] #[ptr b3, ptr b4, ptr b6]] 106) :: (b4, blk [.map (some bm)] 105) :: (b3, blk (clLg ⟨h, oa1, c1⟩ ⟨w, s, (dangerE w s).1⟩) 102) :: (C ++ (B ++ ((b2, blk (clSc h s) 59) :: (b1, blk (clWn w) 37) :: H)))) _
  refine vseq (vseq ?_)
  refine DR [(.q, 0), (.q, 1), (.q, 2), (.q, 3), (.q, 4), (.q, 5)] Tryz.mixed ?_
  refine DF ?_
  refine DL ?_
  refine DF ?_
  refine DN ?_
  refine DD (vcp rfl rfl rfl (c_steps h s)) rfl ?_
  refine DS ?_
  refine vdend rfl ?_
  refine vcondd rfl (fun h35 => ?_) (fun h35 => ?_)
  ·
   obtain ⟨n', hn'⟩ : ∃ n', s.ship.length - i = n' + 1 := ⟨s.ship.length - i - 1, by omega⟩
   obtain ⟨b, hbM, hbl, hbg, hbmin⟩ := bestM_min ⟨w, s, (dangerE w s).1⟩ (by simp only; omega) n' i x
   have hbl2 : b < w.soft.toNat + 2 := hbl
   refine vskip (vblock (K2 ?_))
   refine QA ?_
   refine vnil (vseq (vblock ?_))
   refine vwhile (σ := Nat × List EnP × Nat) (fun ⟨m, l1, c3⟩ => b - m) (fun ⟨m, l1, c3⟩ => [(4, .slice oa i cp), (5, I (mostF ⟨w, s, (dangerE w s).1⟩ s.ship.length 0 sta0)), (7, ptr b3), (9, ptr b5), (10, ptr b6), (11, ptr b7), (12, I (m : Int))]) (fun ⟨m, l1, c3⟩ => (bm, mPc l1 c3) :: (b7, blk [I (i : Int), I x.md, I x.qu] 110) :: (b6, blk [.func (.func 31) #[] #[ptr b3, ptr b5]] 114) :: (b5, blk [.func (.func 35) #[] #[ptr b3, ptr b4, ptr b6]] 106) :: (b4, blk [.map (some bm)] 105) :: (b3, blk (clLg ⟨h, oa1, c1⟩ ⟨w, s, (dangerE w s).1⟩) 102) :: (C ++ (B ++ ((b2, blk (clSc h s) 59) :: (b1, blk (clWn w) 37) :: H)))) (fun ⟨m, l1, c3⟩ => m ≤ b ∧ MK ⟨w, s, (dangerE w s).1⟩ l1) (0, l, c) ⟨Nat.zero_le _, hmk⟩ ⟨rfl, rfl, rfl, rfl, rfl, rfl, rfl, True.intro⟩ sb ?_
   rintro ⟨m, l1, c3⟩ ⟨hm, hmk1⟩ IH1
   change VRun _ _ _ _ _ [(4, .slice oa i cp), (5, I (mostF ⟨w, s, (dangerE w s).1⟩ s.ship.length 0 sta0)), (7, ptr b3), (9, ptr b5), (10, ptr b6), (11, ptr b7), (12, I (m : Int))] _ ((bm, mPc l1 c3) :: (b7, blk [I (i : Int), I x.md, I x.qu] 110) :: (b6, blk [.func (.func 31) #[] #[ptr b3, ptr b5]] 114) :: (b5, blk [.func (.func 35) #[] #[ptr b3, ptr b4, ptr b6]] 106) :: (b4, blk [.map (some bm)] 105) :: (b3, blk (clLg ⟨h, oa1, c1⟩ ⟨w, s, (dangerE w s).1⟩) 102) :: (C ++ (B ++ ((b2, blk (clSc h s) 59) :: (b1, blk (clWn w) 37) :: H)))) _
   refine vseq (vseq ?_)
   refine vdrawP (G0 := [(bm, mPc l1 c3)]) (H0 := (b7, blk [I (i : Int), I x.md, I x.qu] 110) :: (b6, blk [.func (.func 31) #[] #[ptr b3, ptr b5]] 114) :: (b5, blk [.func (.func 35) #[] #[ptr b3, ptr b4, ptr b6]] 106) :: (b4, blk [.map (some bm)] 105) :: (b3, blk (clLg ⟨h, oa1, c1⟩ ⟨w, s, (dangerE w s).1⟩) 102) :: (C ++ (B ++ ((b2, blk (clSc h s) 59) :: (b1, blk (clWn w) 37) :: H)))) (.refl _) [(.q, 0), (.q, 1), (.q, 2), (.q, 4), (.q, 5), (.e, 3), (.e, 6), (.q, 7)] Tryz.mixed (by kernel_rfl) (allocOk_of _ (by kernel_rfl)) ?_
   refine DL ?_
   refine DN ?_
   refine DM ?_
   refine DL ?_
   refine DN ?_
   refine vde (mone rfl) (vcg (R := fun v H' => ∃ G2, H' = G2 ++ ((b7, blk [I (i : Int), I x.md, I x.qu] 110) :: (b6, blk [.func (.func 31) #[] #[ptr b3, ptr b5]] 114) :: (b5, blk [.func (.func 35) #[] #[ptr b3, ptr b4, ptr b6]] 106) :: (b4, blk [.map (some bm)] 105) :: (b3, blk (clLg ⟨h, oa1, c1⟩ ⟨w, s, (dangerE w s).1⟩) 102) :: (C ++ (B ++ ((b2, blk (clSc h s) 59) :: (b1, blk (clWn w) 37) :: H)))) ∧ (v = I (gainF ⟨w, s, (dangerE w s).1⟩ n' i x m) ∧ ∃ l' c', G2 = [(bm, mPc l' c')] ∧ MK ⟨w, s, (dangerE w s).1⟩ l')) rfl rfl rfl (gain_all ⟨w, s, (dangerE w s).1⟩ n' ((b7, blk [I (i : Int), I x.md, I x.qu] 110) :: (b6, blk [.func (.func 31) #[] #[ptr b3, ptr b5]] 114) :: (b5, blk [.func (.func 35) #[] #[ptr b3, ptr b4, ptr b6]] 106) :: (b4, blk [.map (some bm)] 105) :: (b3, blk (clLg ⟨h, oa1, c1⟩ ⟨w, s, (dangerE w s).1⟩) 102) :: (C ++ (B ++ ((b2, blk (clSc h s) 59) :: (b1, blk (clWn w) 37) :: H)))) ⟨h, oa1, c1⟩ b3 b4 b5 b6 bm i x m l1 c3 (hB C).cons (by omega) (by simp only; omega) hx hmk1) (fun o H' ⟨o', h1, h2, l', c', h3, h4⟩ => ⟨_, h2, [(bm, o')], h1, rfl, l', c', by rw [h3], h4⟩)) rfl rfl ?_
   rintro _ _ ⟨rfl, lg, cg, rfl, hmk2⟩
   refine vde (mone rfl) (vcg (R := fun v H' => ∃ G2, H' = G2 ++ ((b7, blk [I (i : Int), I x.md, I x.qu] 110) :: (b6, blk [.func (.func 31) #[] #[ptr b3, ptr b5]] 114) :: (b5, blk [.func (.func 35) #[] #[ptr b3, ptr b4, ptr b6]] 106) :: (b4, blk [.map (some bm)] 105) :: (b3, blk (clLg ⟨h, oa1, c1⟩ ⟨w, s, (dangerE w s).1⟩) 102) :: (C ++ (B ++ ((b2, blk (clSc h s) 59) :: (b1, blk (clWn w) 37) :: H)))) ∧ (v = I (mostF ⟨w, s, (dangerE w s).1⟩ (n' + 1) i x) ∧ ∃ l' c', G2 = [(bm, mPc l' c')] ∧ MK ⟨w, s, (dangerE w s).1⟩ l')) rfl rfl rfl (most_all ⟨w, s, (dangerE w s).1⟩ (n' + 1) ((b7, blk [I (i : Int), I x.md, I x.qu] 110) :: (b6, blk [.func (.func 31) #[] #[ptr b3, ptr b5]] 114) :: (b5, blk [.func (.func 35) #[] #[ptr b3, ptr b4, ptr b6]] 106) :: (b4, blk [.map (some bm)] 105) :: (b3, blk (clLg ⟨h, oa1, c1⟩ ⟨w, s, (dangerE w s).1⟩) 102) :: (C ++ (B ++ ((b2, blk (clSc h s) 59) :: (b1, blk (clWn w) 37) :: H)))) ⟨h, oa1, c1⟩ b3 b4 b5 b6 bm i x lg cg (hB C).cons (by omega) (by simp only; omega) hx hmk2) (fun o H' ⟨o', h1, h2, l', c', h3, h4⟩ => ⟨_, h2, [(bm, o')], h1, rfl, l', c', by rw [h3], h4⟩)) rfl rfl ?_
   rintro _ _ ⟨rfl, l2, c2, rfl, hmk3⟩
   refine DG ?_
   refine vdend rfl ?_
   refine vcondd rfl (fun h43 => ?_) (fun h43 => ?_)
   ·
    refine vskip (vblock (vregion ?_))
    refine QM ?_
    refine QQ (vadd rfl rfl (by unfold InR; omega)) rfl ?_
    refine QA ?_
    refine vnil (vinblock ?_)
    have hmb : m ≠ b := fun e => h43 (e ▸ hbg)
    exact vback (IH1 (m + 1, l2, c2) ⟨by omega, hmk3⟩ (by show _ - (m + 1) < _ - m; omega)) ⟨rfl, rfl, rfl, rfl, rfl, rfl, rfl, True.intro⟩ sb2
   ·
    have hmb : m = b := by rcases Nat.lt_or_ge m b with hlt | hge; exact absurd (Classical.not_not.1 h43) (hbmin m hlt); omega
    refine vexit (k' := _) rfl ?_
    refine K2 ?_
    refine QM ?_
    refine QM ?_
    refine vone rfl (vxg (vbs rfl rfl rfl rfl rfl rfl) rfl rfl ?_)
    rintro _ _ ⟨bn, rfl, rfl⟩
    refine vone rfl (vxg (vappF (a := ⟨bn, 0, Option.none⟩) (m := 1) (c := 1) (size := 1) (bytes := 8) (F := fun X => (bn, blk [I (m : Int)] 3) :: (bm, mPc l2 c2) :: (b7, blk [I (i : Int), I x.md, I x.qu] 110) :: (b6, blk [.func (.func 31) #[] #[ptr b3, ptr b5]] 114) :: (b5, blk [.func (.func 35) #[] #[ptr b3, ptr b4, ptr b6]] 106) :: (b4, blk [.map (some bm)] 105) :: (b3, blk (clLg ⟨h, oa1, c1⟩ ⟨w, s, (dangerE w s).1⟩) 102) :: (X ++ (B ++ ((b2, blk (clSc h s) 59) :: (b1, blk (clWn w) 37) :: H)))) (B := C) (xs := pre.flatMap encI) (news := [I (m : Int)]) (fun X => perm_mid [(bn, blk [I (m : Int)] 3), (bm, mPc l2 c2), (b7, blk [I (i : Int), I x.md, I x.qu] 110), (b6, blk [.func (.func 31) #[] #[ptr b3, ptr b5]] 114), (b5, blk [.func (.func 35) #[] #[ptr b3, ptr b4, ptr b6]] 106), (b4, blk [.map (some bm)] 105), (b3, blk (clLg ⟨h, oa1, c1⟩ ⟨w, s, (dangerE w s).1⟩) 102)] X (B ++ ((b2, blk (clSc h s) 59) :: (b1, blk (clWn w) 37) :: H))) rfl rfl hown rfl (news_blk (b := bn) (List.Mem.head _)) (fun u hu => by rw [List.mem_singleton.1 hu]; rfl) (by omega) (by simp only [maxLen]; omega) (by omega)) rfl rfl ?_)
    rintro _ _ ⟨C2, hown2, _, rfl⟩
    obtain ⟨oa2, cp2, rfl, hle2⟩ := hown2.shape
    refine QA ?_
    refine vnil ?_
    refine DR [(.q, 0), (.q, 1), (.q, 2), (.q, 3), (.q, 4), (.q, 5), (.q, 6), (.q, 7), (.q, 8), (.q, 9), (.q, 10), (.c, 11)] Tryz.mixed ?_
    refine DF ?_
    refine DL ?_
    refine DD (vadd rfl rfl (by unfold InR; omega)) rfl ?_
    refine DN ?_
    refine DF ?_
    refine DL ?_
    refine DF ?_
    refine DN ?_
    refine DM ?_
    refine DD (vcq rfl rfl rfl (c_after ⟨h, oa1, c1⟩ ⟨w, s, (dangerE w s).1⟩ _ i (by simp only; omega) x hx m)) rfl ?_
    refine DB ?_
    refine vdcs (mone rfl) (vstn rfl rfl rfl rfl rfl) rfl ?_
    refine vdend rfl (vinblock ?_)
    exact vback (IH (i + 1, afterP ⟨w, s, (dangerE w s).1⟩ i x m, l2, c2, oa2, cp2, C2, pre ++ [(m : Int)]) ⟨by omega, after_okSt hw0 _ _ _, hmk3, by simp [hpl], by rw [List.flatMap_append]; exact hown2, by rw [← hbf, hn', bestF_succ, hbM, ← hmb, List.append_assoc, show s.ship.length - (i + 1) = n' by omega]; rfl⟩ (by show _ - (i + 1) < _ - i; omega)) ⟨rfl, rfl, rfl, rfl, rfl, rfl, True.intro⟩ sb2
  ·
   refine vexit (k' := _) rfl ?_
   refine K2 ?_
   refine QM ?_
   refine QM ?_
   refine QA ?_
   refine QA ?_
   refine QA ?_
   refine vnil ?_
   refine vret (vr3 (H' := C ++ (B ++ H)) Tryz.func12 rfl (.tmp rfl) (.tmp rfl) (.tmp rfl) sb2 ?_)
   (have hi : i = s.ship.length := (by omega); subst hi; rw [best_y h20, ← hbf, Nat.sub_self]; simp only [bestF, List.append_nil]; exact ⟨_, rfl, C ++ B, by rw [List.append_assoc], oa, cp, by rw [hpl], (OwnS.slo (enc := encI) (l := pre) hown encI_len (by decide) rfl hpl).appLB⟩)
end Go.Proofs.YtmfmecgiaekelaaGreatDoor
namespace Go.Proofs.YtmfmecgiaekelaaGreatDoor
open Go
set_option maxRecDepth 100000
def wT : Wn := ⟨5, 2, 3, 1, 0, 1, 0⟩
def scT : Sc := ⟨[zR, zR, zR], [zR, zR, zR], [true, true, true], [false, false, false], []⟩
theorem smallT : smallR zR := by
  refine ⟨by unfold zR Rg.ok; decide, by decide, by decide, by kernel_rfl⟩
theorem okW_T : okW wT := by unfold okW wT; decide
theorem okSc_T : okSc scT := by
  refine ⟨by decide, by decide, by decide, by decide, by decide, ?_, ?_, ?_, ?_⟩
  · intro r hr; rw [show r = zR by simp [scT] at hr; exact hr]; exact smallT
  · intro r hr; rw [show r = zR by simp [scT] at hr; exact hr]; exact smallT
  · intro x hx; cases hx
  · intro i x y hx hy; cases hx
theorem chkS_T : chkS scT = 0 := chkS_t okSc_T
theorem both_T : ¬ bothE wT (chkS scT) ≠ 0 := by rw [chkS_T]; unfold bothE; rw [if_pos (chkW_t okW_T)]; simp
theorem risk_T : riskP wT scT = some [false, false, false] := by kernel_rfl
theorem danger_T : dangerE wT scT = ([false, false, false], 0) := danger_y both_T risk_T
theorem dang0_T : ¬ (dangerE wT scT).2 ≠ 0 := by rw [danger_T]; simp
def gT : Lg := ⟨wT, scT, [false, false, false]⟩
theorem best_T : bestE wT scT = ([0, 1, 2], 1, 0) := by
  rw [best_y dang0_T, danger_T]
  have h1 : bestF gT 3 0 sta0 = [0, 1, 2] := by kernel_rfl
  have h2 : mostF gT 3 0 sta0 = 1 := by kernel_rfl
  show (bestF gT 3 0 sta0, mostF gT 3 0 sta0, (0 : Int)) = _
  rw [h1, h2]
theorem guard_T : guardE wT 20 1 = (4, 0) := by kernel_rfl
end Go.Proofs.YtmfmecgiaekelaaGreatDoor
namespace Go.Proofs.YtmfmecgiaekelaaGreatDoor
open Go
set_option maxRecDepth 100000
attribute [local irreducible] tightP hullP rootP farP rows endsOf meetE gapE winR goV tabE bestE guardE
theorem veqK {P : Program} {N : Nat} {E : Env} {D : List Deferred} {H : Heap} {d : Nat} {x y : Operand} {T ty T' : TypeId} {pos : String} {af : Array Edge} {g : Option (Nat × Bool)} {u v : Value} {b : Bool} (hx : ev E x = some u) (hy : ev E y = some v) (h1 : ∀ w, (eqGuard .eql T x y u v).run P w = .ok () w) (h2 : ∀ w, (binOp .eql T u v).run P w = .ok (.bool b) w) :
    OQ P N E D H ⟨some d, .binOp .eql T x y T', ty, pos, af, g⟩ (.bool b) :=
  ov (by simp) (fun t w hA hE => by
    simp only [execOp, ev_eval hA hx, ev_eval hA hy, Sem.run_bind, h1, Result.andThen, h2, Sem.run_pure])
theorem vmksP {P : Program} {N : Nat} {E : Env} {D : List Deferred} {d : Nat} {x y : Operand} {T ty : TypeId} {pos : String} {af : Array Edge} {g : Option (Nat × Bool)} {n e esz by_ : Nat} {zs : List Value} [hT : TMs P T e esz by_ zs] (hx : ev E x = some (.int .i64 (n : Int))) (hy : ev E y = some (.int .i64 (n : Int))) (hz : zs.length = esz) (h0 : 0 < esz) (hn : by_ * n ≤ 281474976710656) (h6 : n ≤ 9223372036854775807) :
    ∀ t, Agree N E t → Psh P D ⟨some d, .makeSlice T x y, ty, pos, af, g⟩ t (fun b => .slice (some ⟨b, 0, Option.none⟩) n n) (blk (rep n zs) e) := by
  intro t hA w
  obtain ⟨i, z, h1, h2, h3, h4, h5⟩ := hT.inf
  have hb' : (i.bytes : Int) * (n : Int) ≤ 281474976710656 := by
    have h : ((i.bytes * n : Nat) : Int) ≤ 281474976710656 := by rw [h5]; omega
    rwa [Int.natCast_mul] at h
  have hr := run_make (P := P) w T e i z hT.und h1 h2 .i64 .i64 n n (by omega) (Int.le_refl _) hb' (by omega)
  have hm : madeCells z.cells (n * i.size) = (rep n zs).toArray := by
    unfold madeCells
    apply Array.ext'
    rw [h3, h4]
    refine List.ext_getElem? fun j => ?_
    by_cases hj : j < n * esz
    · have hp := Nat.mod_lt j h0
      simp only [Array.toList_map, Array.toList_range, List.getElem?_map, List.getElem?_range hj, Option.map_some]
      rw [rep_get _ _ _ (by rw [hz]; exact hj)]
      simp only [List.size_toArray, hz]
      rw [getElem!_pos _ _ (by simp [hz, hp])]
      simp [hz, hp]
    · have h5 : (rep n zs)[j]? = Option.none := List.getElem?_eq_none (by rw [rep_len, hz]; omega)
      have h6 : ((Array.range (n * esz)).map (fun i => zs.toArray[i % zs.toArray.size]!)).toList[j]? = Option.none := List.getElem?_eq_none (by simp; omega)
      rw [h6, h5]
  simp only [Int.toNat_natCast, hm] at hr
  simp only [execOp, ev_eval hA hx, ev_eval hA hy, hr, Sem.run_bind, Result.andThen, Sem.run_pure]
  rfl
instance tMsR : TMs Tryz.prog 56 28 8 64 [I 0, I 0, I 0, I 0, I 0, I 0, I 0, I 0] := mkTMs (z := .agg [I 0, I 0, I 0, I 0, I 0, I 0, I 0, I 0].toArray) (by kernel_rfl) (by kernel_rfl) rfl
instance tMsB : TMs Tryz.prog 57 4 1 1 [.bool false] := mkTMs (z := .bool false) (by kernel_rfl) (by kernel_rfl) rfl
abbrev encSh (x : Int × Int × Bool) : List Value := [I x.1, I x.2.1, .bool x.2.2]
abbrev shT (b1 b2 b3 b4 : Nat) : SH := ⟨some ⟨b1, 0, Option.none⟩, 3, some ⟨b2, 0, Option.none⟩, 3, some ⟨b3, 0, Option.none⟩, 3, some ⟨b4, 0, Option.none⟩, 3, Option.none, 0⟩
theorem sc_T {H : Heap} {b1 b2 b3 b4 : Nat} {T1 T2 T3 T4 : TypeId} {cr cr' cb cb' : List Value} (h1 : (b1, blk cr T1) ∈ H) (h2 : (b2, blk cr' T2) ∈ H) (h3 : (b3, blk cb T3) ∈ H) (h4 : (b4, blk cb' T4) ∈ H)
    (e1 : cr = [zR, zR, zR].flatMap clR) (e2 : cr' = [zR, zR, zR].flatMap clR) (e3 : cb = [true, true, true].flatMap encB) (e4 : cb' = [false, false, false].flatMap encB) : ScO H (shT b1 b2 b3 b4) scT := by
  haveI a1 : HAt H b1 cr T1 := ⟨h1⟩
  haveI a2 : HAt H b2 cr' T2 := ⟨h2⟩
  haveI a3 : HAt H b3 cb T3 := ⟨h3⟩
  haveI a4 : HAt H b4 cb' T4 := ⟨h4⟩
  exact ⟨SlO.flat (fun _ => rfl) e1, SlO.flat (fun _ => rfl) e2, SlO.flat (fun _ => rfl) e3, SlO.flat (fun _ => rfl) e4, SlO.nil, ⟨Nat.le_refl 3, Nat.le_refl 3⟩, (fun x hx => by cases hx), by decide⟩
theorem w_BestT (h : SH) (H : Heap) [hsc : ScO H h scT] [hgl : Glob H] : VCall Tryz.prog 12 [vWn wT, vSc h scT].toArray H (fun o H' => ∃ v, o = .val v ∧ ∃ B, H' = B ++ H ∧ ∃ oa c, v = tup [.slice oa 3 c, I 1, I 0] ∧ SlO B oa 1 encI [0, 1, 2]) := by
  refine (d_Best wT h scT H).mono fun o H' ⟨v, h1, B, h2, oa, c, h3, h5⟩ => ⟨v, h1, B, h2, oa, c, ?_, ?_⟩
  · rw [h3, best_T]; rfl
  · rw [best_T] at h5; exact h5
theorem w_GuardT : VPure Tryz.prog 7 [vWn wT, I 20, I 1] (tup [I 4, I 0]) := by
  have := c_Guard wT 20 1
  rw [guard_T] at this; exact this
theorem q_watched (H : Heap) [hgl : Glob H] : VHas Tryz.prog 6 [] (.bool true) H H := by
 refine CV 72 Tryz.func6 ?_
 refine K2 ?_
 refine QA ?_
 refine K3 ?_
 refine QB ?_
 refine AL fun b1 => ?_
 refine SN ?_
 refine vnil (vseq ?_)
 refine vdraw [(.m, 0), (.m, 1), (.m, 2), (.m, 3), (.q, 4), (.a (blk [.slice Option.none 0 0, .slice Option.none 0 0, .slice Option.none 0 0, .slice Option.none 0 0, .slice Option.none 0 0] 59), 5), (.s, 6)] Tryz.mixed (by kernel_rfl) ⟨⟨_, _, _, _, _, rfl, _, inferInstance, rfl⟩, True.intro⟩ ?_
 refine vdm (mone rfl) (vmksP (n := 3) (esz := 8) (by_ := 64) (zs := [I 0, I 0, I 0, I 0, I 0, I 0, I 0, I 0]) rfl rfl rfl (by decide) (by decide) (by decide)) rfl rfl (fun n1 => ?_)
 refine vdm (mone rfl) (vmksP (n := 3) (esz := 8) (by_ := 64) (zs := [I 0, I 0, I 0, I 0, I 0, I 0, I 0, I 0]) rfl rfl rfl (by decide) (by decide) (by decide)) rfl rfl (fun n2 => ?_)
 refine vdm (mone rfl) (vbsP rfl rfl rfl rfl rfl rfl) rfl rfl (fun n3 => ?_)
 refine vdm (mone rfl) (vmksP (n := 3) (esz := 1) (by_ := 1) (zs := [.bool false]) rfl rfl rfl (by decide) (by decide) (by decide)) rfl rfl (fun n4 => ?_)
 refine DB ?_
 refine vda rfl rfl (fun b2 => ?_)
 refine vds (mone rfl) (vstn rfl rfl rfl rfl rfl) rfl ?_
 refine vdend rfl (K2 ?_)
 refine QN ?_
 refine QN ?_
 refine vone rfl (vxg (vcg rfl rfl rfl (w_BestT (hsc := sc_T (b1 := n1) (b2 := n2) (b3 := n3) (b4 := n4) (by repeat first | exact List.Mem.head _ | refine List.Mem.tail _ ?_) (by repeat first | exact List.Mem.head _ | refine List.Mem.tail _ ?_) (by repeat first | exact List.Mem.head _ | refine List.Mem.tail _ ?_) (by repeat first | exact List.Mem.head _ | refine List.Mem.tail _ ?_) rfl rfl rfl rfl) (shT n1 n2 n3 n4) _) (fun o H' h => h)) rfl rfl ?_)
 rintro _ _ ⟨BB, rfl, ⟨oa4, c4, rfl, hk5⟩⟩
 refine QM ?_
 refine QX ?_
 refine QX ?_
 refine QX ?_
 refine QA ?_
 refine QA ?_
 refine QA ?_
 refine K3 ?_
 refine QN ?_
 refine QQ (vcp rfl rfl rfl (w_GuardT)) rfl ?_
 refine QM ?_
 refine QX ?_
 refine QX ?_
 refine QA ?_
 refine QA ?_
 refine K3 ?_
 refine QB ?_
 refine vone rfl (vxg (vbs rfl rfl rfl rfl rfl rfl) rfl rfl ?_)
 rintro _ _ ⟨n5, rfl, rfl⟩
 refine vone rfl (vxg (vcg (R := fun v H' => ∃ oa' c' B, v = tup [.slice oa' 1 c', I 0] ∧ H' = B ++ _ ∧ OwnS 87 3 (.slice oa' 1 c') 1 [I 1, I 0, .bool false] B) rfl rfl rfl (d_Fire0 (hs := SlO.flat (b := n5) (fun _ => rfl) (by rfl)) (some ⟨n5, 0, Option.none⟩) 2 _) (fun o H' ⟨oa', c', B, e1, e2, e3⟩ => ⟨_, e1, oa', c', B, rfl, e2, e3⟩)) rfl rfl ?_)
 rintro _ _ ⟨oa5, c5, BF, rfl, rfl, hown⟩
 haveI hsF : SlO BF oa5 3 encSh [(1, 0, false)] := OwnS.slo (enc := encSh) (l := [(1, 0, false)]) hown (fun _ => rfl) (by decide) rfl rfl
 refine QM ?_
 refine QX ?_
 refine QX ?_
 refine QA ?_
 refine QA ?_
 refine K3 ?_
 refine QM ?_
 refine QE ?_
 refine vknow (d := 35) (b' := true) rfl rfl ?_
 refine QM ?_
 refine YM ?_
 refine YE ?_
 refine vknow (d := 38) (b' := true) rfl rfl ?_
 refine QT ?_
 refine QM ?_
 refine YM ?_
 refine YE ?_
 refine vknow (d := 42) (b' := true) rfl rfl ?_
 refine QT ?_
 refine QM ?_
 refine YM ?_
 refine vyes rfl rfl rfl (vxg (vbs rfl rfl rfl rfl rfl rfl) rfl rfl ?_)
 rintro _ _ ⟨n6, rfl, rfl⟩
 refine YY (vcq rfl rfl rfl (c_AlikeI (SlO0 := inferInstance) (SlO1 := SlO.flat (b := n6) (fun _ => rfl) (by rfl)) [0, 1, 2] [0, 1, 2] oa4 (some ⟨n6, 0, Option.none⟩) 3 3 c4 3 rfl rfl (by decide) _)) rfl ?_
 refine vknow (d := 47) (b' := true) rfl (by decide) ?_
 refine QT ?_
 refine QM ?_
 refine YM ?_
 refine YE ?_
 refine vknow (d := 51) (b' := true) rfl rfl ?_
 refine QT ?_
 refine QM ?_
 refine YM ?_
 refine YE ?_
 refine vknow (d := 55) (b' := true) rfl rfl ?_
 refine QT ?_
 refine QM ?_
 refine YM ?_
 refine YY (vlen rfl) rfl ?_
 refine YE ?_
 refine vknow (d := 60) (b' := true) rfl rfl ?_
 refine QT ?_
 refine QM ?_
 refine YM ?_
 refine YY (visg (enc := encSh) (xs := [(1, 0, false)]) (z := (1, 0, false)) rfl rfl (by decide) rfl) rfl ?_
 refine YY (vldS (enc := encSh) (xs := [(1, 0, false)]) (z := (1, 0, false)) rfl rfl) rfl ?_
 refine YB ?_
 refine YY (veqK (b := true) rfl rfl (fun w => by kernel_rfl) (fun w => by kernel_rfl)) rfl ?_
 refine vknow (d := 67) (b' := true) rfl rfl ?_
 refine QT ?_
 refine QM ?_
 refine YY (vcq rfl rfl rfl (q_steered _)) rfl ?_
 refine vknow (d := 70) (b' := true) rfl rfl ?_
 refine QT ?_
 refine QA ?_
 refine vnil ?_
 refine vret (V1 (H) Tryz.func6 ?_)
 exact ⟨rfl, rfl⟩
end Go.Proofs.YtmfmecgiaekelaaGreatDoor
namespace Go.Proofs.YtmfmecgiaekelaaGreatDoor
open Go
set_option maxRecDepth 100000
attribute [local irreducible] tightP hullP rootP farP rows endsOf restP pickP swumP d2 stepsC qAt guardE bestP
theorem ok_bdT {p : Pt} (h : p.ok) : bdP p ∧ (-32768 ≤ p.x ∧ p.x ≤ 32768) ∧ -32768 ≤ p.y ∧ p.y ≤ 32768 := by
  unfold Pt.ok at h
  unfold bdP; omega
theorem guard_yesT {w : Wn} {far ship : Int} (h : (guardE w far ship).2 = 0) : okW w ∧ (0 ≤ far ∧ far ≤ 32768) ∧ (0 ≤ ship ∧ ship ≤ 1000) ∧ (guardE w far ship).1 = guardN w far ship 1000 0 := by
  unfold guardE at *
  by_cases h1 : okW w
  · by_cases h2 : (0 ≤ far ∧ far ≤ 32768) ∧ (0 ≤ ship ∧ ship ≤ 1000)
    · by_cases h3 : far ≤ w.zone
      · rw [if_pos h1, if_pos h2, if_pos h3] at h; cases h
      · rw [if_pos h1, if_pos h2, if_neg h3]; exact ⟨h1, h2.1, h2.2, rfl⟩
    · rw [if_pos h1, if_neg h2] at h; cases h
  · rw [if_neg h1] at h; cases h
theorem d2_neg (p q : Pt) : (p.x - q.x) * (p.x - q.x) + (p.y - q.y) * (p.y - q.y) = d2 p q := by unfold d2; grind
theorem d2_pos {p q : Pt} (h : p ≠ q) : 0 < d2 p q := by
  unfold d2
  have h1 := sq_nn (q.x - p.x)
  have h2 := sq_nn (q.y - p.y)
  rcases Int.lt_or_le 0 ((q.x - p.x) * (q.x - p.x) + (q.y - p.y) * (q.y - p.y)) with g | g
  · exact g
  · exfalso
    apply h
    have e1 : (q.x - p.x) * (q.x - p.x) = 0 := by omega
    have e2 : (q.y - p.y) * (q.y - p.y) = 0 := by omega
    have e3 : q.x - p.x = 0 := by rcases Int.mul_eq_zero.1 e1 with g | g <;> exact g
    have e4 : q.y - p.y = 0 := by rcases Int.mul_eq_zero.1 e2 with g | g <;> exact g
    have e5 : p.x = q.x := by omega
    have e6 : p.y = q.y := by omega
    cases p; cases q; simp only at e5 e6; rw [e5, e6]
theorem d2_ok {p q : Pt} (hp : p.ok) (hq : q.ok) : 0 ≤ d2 p q ∧ d2 p q ≤ 1099511627776 := by
  unfold Pt.ok at hp hq
  have h1 := sq_abs (y := q.x - p.x) (h := 65536) (by omega)
  have h2 := sq_abs (y := q.y - p.y) (h := 65536) (by omega)
  have h3 := sq_nn (q.x - p.x)
  have h4 := sq_nn (q.y - p.y)
  unfold d2; omega
theorem way_two {c : Cz} {a b : Ps} {x : List Pt × Int} {p q : Pt} (hok : okCz c) (ha : okPs a) (hb : okPs b) (h : bestP c a b = some x) (h0 : x.1[0]? = some p) (h1 : x.1[1]? = some q) : p.ok ∧ q.ok ∧ p ≠ q := by
  have hm : x ∈ passP c a b := by
    unfold bestP at h
    rcases firstL_mem h with h | h
    · cases h
    · exact h
  obtain ⟨g1, g2⟩ := pass_ok ha.1 hb.1 hok.2.2.2.2.2.2.2.1 hm
  refine ⟨g1 p (List.mem_of_getElem? h0), g1 q (List.mem_of_getElem? h1), ?_⟩
  rcases hl : x.1 with _ | ⟨p', _ | ⟨q', r⟩⟩
  · rw [hl] at h0; cases h0
  · rw [hl] at h1; cases h1
  · rw [hl] at h0 h1
    cases h0; cases h1
    exact (g2 _ _ hl).1
structure FSt (w : Wn) (far s : Int) (a b : Pt) (n t : Int) (p : Pt) : Prop where
  tb : 1 ≤ t ∧ t ≤ 41
  g : gInv far (w.speed + (s + 2)) (t - 1) p (qAt a b n (t - 1))
  pb : (-(32768 + 64 * t) ≤ p.x ∧ p.x ≤ 32768 + 64 * t) ∧ -(32768 + 64 * t) ≤ p.y ∧ p.y ≤ 32768 + 64 * t
theorem FSt.bd {w : Wn} {far s : Int} {a b : Pt} {n t : Int} {p : Pt} (h : FSt w far s a b n t p) : bdP p := by
  obtain ⟨h1, _, h3⟩ := h
  unfold bdP; omega
theorem qAt_0 (a b : Pt) (n : Int) : qAt a b n 0 = a := by unfold qAt; simp
theorem FSt.first {w : Wn} {far s : Int} {a b p : Pt} {n : Int} (hf : 0 ≤ far) (hp : p.ok) (hd : ¬ d2 p a ≤ far * far) : FSt w far s a b n 1 p := by
  have h1 := (ok_bdT hp).2
  refine ⟨by omega, ?_, by omega⟩
  unfold gInv
  rw [show (1 : Int) - 1 = 0 by omega, Int.zero_mul, Int.sub_zero, qAt_0]
  omega
theorem FSt.next {w : Wn} {far s : Int} {a b : Pt} {n t : Int} {p : Pt} {lb : List Int} {i : Int} (hw : okW w) (hs : 1 ≤ s ∧ s ≤ 998) (hn : 1 ≤ n) (hd : d2 a b ≤ (n * s) * (n * s)) (h : FSt w far s a b n t p) (ht : t ≤ guardN w far (s + 2) 1000 0) (ht4 : t ≤ 40) :
    FSt w far s a b n (t + 1) (swumP p w.speed lb i) ∧ w.zone * w.zone < d2 (swumP p w.speed lb i) (qAt a b n t) := by
  have hw' := hw
  unfold okW at hw'
  obtain ⟨a1, a2, a3⟩ := swum_bd (p := p) (speed := w.speed) (bits := lb) (a := i) (by omega)
  obtain ⟨h1, h2, h3⟩ := h
  have hg := (guardN_spec w far (s + 2) 1000 0).2.2 t (by omega) ht
  have hq := q_step hn (by omega) hd (t - 1)
  rw [show t - 1 + 1 = t by omega] at hq
  obtain ⟨g1, g2⟩ := gInv_step (t := t - 1) (by omega) (by omega) (by omega) h2 (by rw [show t - 1 + 1 = t by omega]; exact hg) a1 hq
  rw [show t - 1 + 1 = t + 1 - 1 by omega] at g1
  refine ⟨⟨by omega, ?_, by omega⟩, g2⟩
  rw [show t + 1 - 1 = t by omega] at g1 ⊢
  exact g1
theorem qAt_bd {a b : Pt} {n t : Int} (ha : a.ok) (hb : b.ok) (hn : 1 ≤ n) (ht : 0 ≤ t ∧ t ≤ n) : bdP (qAt a b n t) := by
  unfold Pt.ok at ha hb
  have one : ∀ u : Int, -65536 ≤ u ∧ u ≤ 65536 → -65536 ≤ (u * t) / n ∧ (u * t) / n ≤ 65536 := by
    intro u hu
    have h1 : u * t ≤ 65536 * n := by
      rcases Int.le_total 0 u with g | g
      · exact Int.mul_le_mul hu.2 ht.2 ht.1 (by omega)
      · have := Int.mul_nonneg_of_nonpos_of_nonpos g (show -t ≤ 0 by omega)
        have e : u * -t = -(u * t) := Int.mul_neg u t
        omega
    have h2 : -65536 * n ≤ u * t := by
      rcases Int.le_total 0 u with g | g
      · have := Int.mul_nonneg g ht.1
        omega
      · have := Int.mul_le_mul (show -u ≤ 65536 by omega) ht.2 ht.1 (by omega)
        have e : -u * t = -(u * t) := Int.neg_mul u t
        omega
    exact ⟨(Int.le_ediv_iff_mul_le (by omega)).2 h2, by
      have := Int.ediv_le_ediv (show 0 < n by omega) h1
      rw [Int.mul_ediv_cancel _ (by omega)] at this
      exact this⟩
  have h1 := one (b.x - a.x) (by omega)
  have h2 := one (b.y - a.y) (by omega)
  unfold qAt bdP
  simp only
  omega
theorem mul_t {u t : Int} (hu : -65536 ≤ u ∧ u ≤ 65536) (ht : 0 ≤ t ∧ t ≤ 41) : -2686976 ≤ u * t ∧ u * t ≤ 2686976 := by
  have := abs_mul_bd (a := u) (b := t) (m := 65536) (k := 41) hu (by omega)
  omega
theorem steps_far {c : Cz} {a b : Pt} (hok : okCz c) (ha : a.ok) (hb : b.ok) (hne : a ≠ b) : 1 ≤ stepsC c a b ∧ d2 a b ≤ (stepsC c a b * c.speed) * (stepsC c a b * c.speed) := by
  have hsp := hok.2.2.2.2.2.2.2.2.2.2.2.2.1
  obtain ⟨h0, h1⟩ := d2_ok ha hb
  obtain ⟨s1, s2, s3⟩ := steps_spec (c := c) (a := a) (b := b) hsp.1 h1 h0
  obtain ⟨r1, r2, _, _⟩ := rootUp_spec h0 h1
  refine ⟨s3 (d2_pos hne), ?_⟩
  have := Int.mul_le_mul s1 s1 r1 (by omega)
  omega
theorem c_StepsT (h : CH) (c : Cz) (a b : Pt) (H : Heap) [hcz : CzO H h c] (hok : okCz c) (ha : a.ok) (hb : b.ok) : VHas Tryz.prog 9 [vCz h c, vP a, vP b] (tup [I (stepsC c a b), I 0]) H H := by
  have := q_Steps h c a b H
  rw [stpE_y hok ⟨ha, hb⟩] at this; exact this
theorem w_Far (h : CH) (c : Cz) (w : Wn) (os : Option Addr) (ns cs : Nat) (st : Pt) (ob : Option Addr) (cb : Nat) (lb : List Int) (sp : Int) (a b : Ps) (far : Int) (H : Heap) [hgl : Glob H] [hcz : CzO H h c] [hs3 : SlO H ob 1 encI lb] (hm : lb.length ≤ 9223372036854775807) (hb : ∀ n ∈ lb, InR n) : VHas Tryz.prog 3 [vCz h c, .agg ([I w.zone, I w.speed, I w.hold, I w.pre, I w.delay, I w.soft, I w.pause, .slice os ns cs, I st.x, I st.y, .slice ob lb.length cb, I sp]).toArray, .agg ([I a.pt.x, I a.pt.y, I a.oc, I b.pt.x, I b.pt.y, I b.oc, I far]).toArray] (.bool true) H H := by
 refine CV 185 Tryz.func3 ?_
 refine K2 ?_
 refine BX fun b1 => ?_
 refine BX fun b2 => ?_
 refine BX fun b3 => ?_
 refine QA ?_
 refine vnil (vseq ?_)
 refine vdraw [(.q, 0), (.q, 1), (.q, 2), (.q, 3), (.a (blk [.int .i64 0, .int .i64 0, .int .i64 0, .int .i64 0, .int .i64 0, .int .i64 0] 42), 4), (.s, 5), (.q, 6)] Tryz.mixed (by kernel_rfl) ⟨⟨_, _, _, _, _, rfl, _, inferInstance, rfl⟩, True.intro⟩ ?_
 refine DF ?_
 refine DN ?_
 refine DF ?_
 refine DL ?_
 refine vda rfl rfl (fun b4 => ?_)
 refine vds (mone rfl) (vstn rfl rfl rfl rfl rfl) rfl ?_
 refine DA ?_
 refine vdend rfl (K2 ?_)
 refine QN ?_
 refine QQ (via rfl rfl (by omega)) rfl ?_
 refine QN ?_
 refine QQ (via rfl rfl (by omega)) rfl ?_
 refine QN ?_
 refine vone rfl (vxg (vcg (R := fun v H' => ∃ B, H' = B ++ ((b4, blk [I a.pt.x, I a.pt.y, I a.oc, I b.pt.x, I b.pt.y, I b.oc] 42) :: (b3, blk [I a.pt.x, I a.pt.y, I a.oc, I b.pt.x, I b.pt.y, I b.oc, I far] 44) :: (b2, blk [I w.zone, I w.speed, I w.hold, I w.pre, I w.delay, I w.soft, I w.pause, .slice os ns cs, I st.x, I st.y, .slice ob lb.length cb, I sp] 41) :: (b1, blk (clCz h c) 35) :: H) ∧ PasR c a b v B) rfl rfl rfl (d_Passage h c a b _) (fun o H' ⟨v, e1, B, e2, e3⟩ => ⟨v, e1, B, e2, e3⟩)) rfl rfl ?_)
 rintro _ _ ⟨B, rfl, hpr⟩
 rcases hpr with ⟨hok, rfl⟩ | ⟨hok, _, rfl⟩ | ⟨hok, hpa, hpb, ⟨_, rfl⟩ | ⟨x, oa, cp, hbe, rfl, hsx⟩⟩
 ·
  refine QM ?_
  refine QX ?_
  refine QX ?_
  refine QX ?_
  refine QA ?_
  refine QA ?_
  refine QA ?_
  refine vnil (vseq (K2 ?_))
  refine QM ?_
  refine QG ?_
  refine QM ?_
  refine NO ?_
  refine NO ?_
  refine NO ?_
  refine QT ?_
  refine QM ?_
  refine NO ?_
  refine NO ?_
  refine NO ?_
  refine QT ?_
  refine vnil (vcondt rfl (K2 ?_))
  refine QQ (vcq rfl rfl rfl (q_watched _)) rfl ?_
  refine QA ?_
  refine vnil ?_
  refine vret (V1 (H) Tryz.func3 ?_)
  exact ⟨rfl, rfl⟩
 ·
  refine QM ?_
  refine QX ?_
  refine QX ?_
  refine QX ?_
  refine QA ?_
  refine QA ?_
  refine QA ?_
  refine vnil (vseq (K2 ?_))
  refine QM ?_
  refine QG ?_
  refine QM ?_
  refine NO ?_
  refine NO ?_
  refine NO ?_
  refine QT ?_
  refine QM ?_
  refine NO ?_
  refine NO ?_
  refine NO ?_
  refine QT ?_
  refine vnil (vcondt rfl (K2 ?_))
  refine QQ (vcq rfl rfl rfl (q_watched _)) rfl ?_
  refine QA ?_
  refine vnil ?_
  refine vret (V1 (H) Tryz.func3 ?_)
  exact ⟨rfl, rfl⟩
 ·
  refine QM ?_
  refine QX ?_
  refine QX ?_
  refine QX ?_
  refine QA ?_
  refine QA ?_
  refine QA ?_
  refine vnil (vseq (K2 ?_))
  refine QM ?_
  refine QG ?_
  refine QM ?_
  refine NO ?_
  refine NO ?_
  refine NO ?_
  refine QT ?_
  refine QM ?_
  refine NO ?_
  refine NO ?_
  refine NO ?_
  refine QT ?_
  refine vnil (vcondt rfl (K2 ?_))
  refine QQ (vcq rfl rfl rfl (q_watched _)) rfl ?_
  refine QA ?_
  refine vnil ?_
  refine vret (V1 (H) Tryz.func3 ?_)
  exact ⟨rfl, rfl⟩
 ·
  have hsp := hok.2.2.2.2.2.2.2.2.2.2.2.2.1
  refine QM ?_
  refine QX ?_
  refine QX ?_
  refine QX ?_
  refine QA ?_
  refine QA ?_
  refine QA ?_
  refine vnil (vseq (K2 ?_))
  refine QM ?_
  refine QG ?_
  refine QM ?_
  refine YM ?_
  refine YY (vlen rfl) rfl ?_
  refine YS ?_
  refine QU ?_
  refine QM ?_
  refine vsplitd (d := 42) rfl (fun h42 => ?_) (fun h42 => ?_)
  ·
   refine NO ?_
   refine NO ?_
   refine NO ?_
   refine QT ?_
   refine vnil (vcondt rfl (K2 ?_))
   refine QQ (vcq rfl rfl rfl (q_watched _)) rfl ?_
   refine QA ?_
   refine vnil ?_
   refine vret (V1 (H) Tryz.func3 ?_)
   exact ⟨rfl, rfl⟩
  ·
   refine YF ?_
   refine YL ?_
   refine YY (vgtr rfl rfl) rfl ?_
   refine QU ?_
   refine vnil ?_
   refine vcondd rfl (fun h46 => ?_) (fun h46 => ?_)
   ·
    refine K2 ?_
    refine QQ (vcq rfl rfl rfl (q_watched _)) rfl ?_
    refine QA ?_
    refine vnil ?_
    refine vret (V1 (H) Tryz.func3 ?_)
    exact ⟨rfl, rfl⟩
   ·
    refine vskip (K2 ?_)
    refine QF ?_
    refine QN ?_
    refine QM ?_
    refine QF ?_
    refine QL ?_
    refine QQ (vadd rfl rfl (by unfold InR; omega)) rfl ?_
    refine QQ (vcp rfl rfl rfl (c_Guard w far (c.speed + 2))) rfl ?_
    refine QM ?_
    refine QX ?_
    refine QX ?_
    refine QA ?_
    refine QA ?_
    refine vnil (vseq (K2 ?_))
    refine QM ?_
    refine QG ?_
    refine QM ?_
    refine vsplitd (d := 60) rfl (fun h60 => ?_) (fun h60 => ?_)
    ·
     refine NO ?_
     refine NO ?_
     refine NO ?_
     refine NO ?_
     refine QT ?_
     refine vnil (vcondt rfl (K2 ?_))
     refine QQ (vcq rfl rfl rfl (q_watched _)) rfl ?_
     refine QA ?_
     refine vnil ?_
     refine vret (V1 (H) Tryz.func3 ?_)
     exact ⟨rfl, rfl⟩
    ·
     refine YF ?_
     refine YN ?_
     refine YY (vcp rfl rfl rfl (c_region_CheckPoint st)) rfl ?_
     refine YG ?_
     refine QU ?_
     refine vnil ?_
     refine vcondd rfl (fun h65 => ?_) (fun h65 => ?_)
     ·
      refine K2 ?_
      refine QQ (vcq rfl rfl rfl (q_watched _)) rfl ?_
      refine QA ?_
      refine vnil ?_
      refine vret (V1 (H) Tryz.func3 ?_)
      exact ⟨rfl, rfl⟩
     ·
      obtain ⟨hw, hfar, _, hgk⟩ := guard_yesT (Classical.not_not.1 h60)
      have hw' := hw
      unfold okW at hw'
      have hstk := chkP_zero.1 (Classical.not_not.1 h65)
      have hstb := (ok_bdT hstk).2
      obtain ⟨p0, hp0⟩ := get_of_lt x.1 (i := 0) (by omega)
      obtain ⟨q0, hq0⟩ := get_of_lt x.1 (i := 1) (by omega)
      obtain ⟨hp0k, hq0k, hne⟩ := way_two hok hpa hpb hbe hp0 hq0
      obtain ⟨hn1, hnd⟩ := steps_far hok hp0k hq0k hne
      have hp0b := (ok_bdT hp0k).2
      have hq0b := (ok_bdT hq0k).2
      have hff := mul_bd hfar hfar
      have hzz := mul_bd hw'.1 hw'.1
      have k1 := sq_abs (y := st.x - p0.x) (h := 65536) (by omega)
      have k2 := sq_abs (y := st.y - p0.y) (h := 65536) (by omega)
      have k3 := sq_nn (st.x - p0.x)
      have k4 := sq_nn (st.y - p0.y)
      refine vskip (vseq ?_)
      refine vdraw [(.q, 0), (.q, 1), (.q, 2), (.q, 3), (.q, 4), (.q, 5), (.a (blk [.int .i64 0, .int .i64 0] 30), 6), (.a (blk [.int .i64 0, .int .i64 0] 30), 7), (.s, 8), (.s, 9)] Tryz.mixed (by kernel_rfl) ⟨⟨_, _, _, _, _, rfl, _, inferInstance, rfl⟩, ⟨⟨_, _, _, _, _, rfl, _, inferInstance, rfl⟩, True.intro⟩⟩ ?_
      refine DM ?_
      refine DD (visg (enc := encP) rfl rfl (by omega) hp0) rfl ?_
      refine DD (vldS (enc := encP) rfl hp0) rfl ?_
      refine DM ?_
      refine DD (visg (enc := encP) rfl rfl (by omega) hq0) rfl ?_
      refine DD (vldS (enc := encP) rfl hq0) rfl ?_
      refine vda rfl rfl (fun b5 => ?_)
      refine vda rfl rfl (fun b6 => ?_)
      refine vds (mone rfl) (vstn rfl rfl rfl rfl rfl) rfl ?_
      refine vds (mone rfl) (vstn rfl rfl rfl rfl rfl) rfl ?_
      refine vdend rfl (K2 ?_)
      refine QN ?_
      refine QN ?_
      refine QN ?_
      refine QQ (vcq rfl rfl rfl (c_StepsT h c p0 q0 _ hok hp0k hq0k)) rfl ?_
      refine QM ?_
      refine QX ?_
      refine QX ?_
      refine QA ?_
      refine QA ?_
      refine vnil (vseq (K2 ?_))
      refine QM ?_
      refine QG ?_
      refine vknow (d := 81) (b' := false) rfl rfl ?_
      refine QM ?_
      refine YM ?_
      refine YS ?_
      refine vknow (d := 84) (b' := false) rfl (decide_eq_false (by omega)) ?_
      refine QU ?_
      refine vnil (vcondf rfl (vskip (vseq ?_)))
      refine DR [(.q, 0), (.q, 1), (.q, 2), (.q, 3), (.q, 4), (.q, 5), (.q, 6), (.q, 7), (.q, 8), (.q, 9), (.q, 10), (.q, 11), (.q, 12), (.q, 13)] Tryz.mixed ?_
      refine DF ?_
      refine DF ?_
      refine DL ?_
      refine DF ?_
      refine DL ?_
      refine DD (vsub rfl rfl (by unfold InR; omega)) rfl ?_
      refine DF ?_
      refine DF ?_
      refine DL ?_
      refine DF ?_
      refine DL ?_
      refine DD (vsub rfl rfl (by unfold InR; omega)) rfl ?_
      refine DA ?_
      refine DA ?_
      refine vdend rfl (vseq (K2 ?_))
      refine QM ?_
      refine QM ?_
      refine QQ (vmul rfl rfl (by unfold InR; omega)) rfl ?_
      refine QM ?_
      refine QM ?_
      refine QQ (vmul rfl rfl (by unfold InR; omega)) rfl ?_
      refine QQ (vadd rfl rfl (by unfold InR; omega)) rfl ?_
      refine QM ?_
      refine QM ?_
      refine QQ (vmul rfl rfl (by unfold InR; omega)) rfl ?_
      refine QQ (vleq rfl rfl) rfl ?_
      refine vnil ?_
      refine vcondd rfl (fun h108 => ?_) (fun h108 => ?_)
      ·
       refine K2 ?_
       refine QQ (vcq rfl rfl rfl (q_watched _)) rfl ?_
       refine QA ?_
       refine vnil ?_
       refine vret (V1 (H) Tryz.func3 ?_)
       exact ⟨rfl, rfl⟩
      ·
       refine vskip (K2 ?_)
       refine QF ?_
       refine QN ?_
       refine AL fun b7 => ?_
       refine SN ?_
       refine vnil (vseq (K2 ?_))
       refine QA ?_
       refine vnil (vblock ?_)
       refine vwhile (σ := Int × Pt) (fun ⟨t, p⟩ => (41 - t).toNat) (fun ⟨t, p⟩ => [(3, ptr b1), (4, ptr b2), (5, ptr b3), (8, I far), (12, I (guardE w far (c.speed + 2)).1), (13, ptr b5), (14, ptr b6), (15, I (stepsC c p0 q0)), (18, ptr b7), (19, I t)]) (fun ⟨t, p⟩ => (b7, blk (encP p) 30) :: (b6, blk (encP q0) 30) :: (b5, blk (encP p0) 30) :: (b2, blk [I w.zone, I w.speed, I w.hold, I w.pre, I w.delay, I w.soft, I w.pause, .slice os ns cs, I st.x, I st.y, .slice ob lb.length cb, I sp] 41) :: H) (fun ⟨t, p⟩ => FSt w far c.speed p0 q0 (stepsC c p0 q0) t p) (1, st) (FSt.first hfar.1 hstk (by rw [← d2_neg]; exact h108)) ⟨rfl, rfl, rfl, rfl, rfl, rfl, rfl, rfl, rfl, rfl, True.intro⟩ sb ?_
       rintro ⟨t, p⟩ hG IH
       change VRun _ _ _ _ _ [(3, ptr b1), (4, ptr b2), (5, ptr b3), (8, I far), (12, I (guardE w far (c.speed + 2)).1), (13, ptr b5), (14, ptr b6), (15, I (stepsC c p0 q0)), (18, ptr b7), (19, I t)] _ ((b7, blk (encP p) 30) :: (b6, blk (encP q0) 30) :: (b5, blk (encP p0) 30) :: (b2, blk [I w.zone, I w.speed, I w.hold, I w.pre, I w.delay, I w.soft, I w.pause, .slice os ns cs, I st.x, I st.y, .slice ob lb.length cb, I sp] 41) :: H) _
       have hGt := hG.tb
       refine vseq (K2 ?_)
       refine QM ?_
       refine QM ?_
       refine QQ (vleq rfl rfl) rfl ?_
       refine QM ?_
       refine vsplitd (d := 115) rfl (fun h115 => ?_) (fun h115 => ?_)
       ·
        refine YM ?_
        refine YM ?_
        refine YY (vleq rfl rfl) rfl ?_
        refine QT ?_
        refine QM ?_
        refine vsplitd (d := 120) rfl (fun h120 => ?_) (fun h120 => ?_)
        ·
         refine YM ?_
         refine YY (vleq rfl rfl) rfl ?_
         refine QT ?_
         refine vnil ?_
         refine vcondd rfl (fun h123 => ?_) (fun h123 => ?_)
         ·
          obtain ⟨hG2, hfarz⟩ := hG.next (lb := lb) (i := 2 * t) hw (by omega) hn1 hnd (by omega) (by omega)
          have hqb := qAt_bd (n := stepsC c p0 q0) (t := t) hp0k hq0k hn1 ⟨by omega, by omega⟩
          have hpb2 := hG2.bd
          rw [← d2_neg] at hfarz
          unfold qAt at hfarz hqb
          unfold bdP at hqb hpb2
          simp only at hfarz hqb
          have m1 := mul_t (u := q0.x - p0.x) (t := t) (by omega) (by omega)
          have m2 := mul_t (u := q0.y - p0.y) (t := t) (by omega) (by omega)
          have m3 := sqd_bd hqb.1 hpb2.1
          have m4 := sqd_bd hqb.2 hpb2.2
          refine vskip (vseq (vblock (K2 ?_)))
          refine QN ?_
          refine QF ?_
          refine QF ?_
          refine QL ?_
          refine QF ?_
          refine QL ?_
          refine QM ?_
          refine QQ (vcq rfl rfl rfl (c_swim p w.speed (by omega) hG.bd lb ob cb _ hm hb t (by omega))) rfl ?_
          refine SN ?_
          refine vnil (vseq ?_)
          refine vdraw [(.q, 0), (.q, 1), (.q, 2), (.q, 3), (.q, 4), (.q, 5), (.q, 6), (.q, 7), (.q, 8), (.q, 9), (.q, 10), (.q, 11), (.q, 12), (.q, 13), (.q, 14), (.q, 15), (.q, 16), (.q, 17), (.q, 18), (.q, 19), (.q, 20), (.q, 21), (.q, 22), (.q, 23), (.q, 24), (.a (blk [.int .i64 0, .int .i64 0] 30), 25), (.s, 26)] Tryz.mixed (by kernel_rfl) ⟨⟨_, _, _, _, _, rfl, _, inferInstance, rfl⟩, True.intro⟩ ?_
          refine DF ?_
          refine DL ?_
          refine DF ?_
          refine DL ?_
          refine DF ?_
          refine DL ?_
          refine DD (vsub rfl rfl (by unfold InR; omega)) rfl ?_
          refine DM ?_
          refine DD (vmul rfl rfl (by unfold InR; omega)) rfl ?_
          refine DM ?_
          refine DD (vcp rfl rfl rfl (c_DownP _ _ (by omega) (by omega))) rfl ?_
          refine DD (vadd rfl rfl (by unfold InR; omega)) rfl ?_
          refine DF ?_
          refine DL ?_
          refine DF ?_
          refine DL ?_
          refine DF ?_
          refine DL ?_
          refine DD (vsub rfl rfl (by unfold InR; omega)) rfl ?_
          refine DM ?_
          refine DD (vmul rfl rfl (by unfold InR; omega)) rfl ?_
          refine DM ?_
          refine DD (vcp rfl rfl rfl (c_DownP _ _ (by omega) (by omega))) rfl ?_
          refine DD (vadd rfl rfl (by unfold InR; omega)) rfl ?_
          refine DB ?_
          refine vda rfl rfl (fun b8 => ?_)
          refine vds (mone rfl) (vstn rfl rfl rfl rfl rfl) rfl ?_
          refine vdend rfl (vseq ?_)
          refine DR [(.q, 0), (.q, 1), (.q, 2), (.q, 3), (.q, 4), (.q, 5), (.q, 6), (.q, 7), (.q, 8), (.q, 9), (.q, 10), (.q, 11)] Tryz.mixed ?_
          refine DF ?_
          refine DL ?_
          refine DF ?_
          refine DL ?_
          refine DD (vsub rfl rfl (by unfold InR; omega)) rfl ?_
          refine DF ?_
          refine DL ?_
          refine DF ?_
          refine DL ?_
          refine DD (vsub rfl rfl (by unfold InR; omega)) rfl ?_
          refine DA ?_
          refine DA ?_
          refine vdend rfl (K2 ?_)
          refine QM ?_
          refine QM ?_
          refine QQ (vmul rfl rfl (by unfold InR; omega)) rfl ?_
          refine QM ?_
          refine QM ?_
          refine QQ (vmul rfl rfl (by unfold InR; omega)) rfl ?_
          refine QQ (vadd rfl rfl (by unfold InR; omega)) rfl ?_
          refine QF ?_
          refine QF ?_
          refine QL ?_
          refine QF ?_
          refine QF ?_
          refine QL ?_
          refine QQ (vmul rfl rfl (by unfold InR; omega)) rfl ?_
          refine QQ (vleq rfl rfl) rfl ?_
          refine vknow (d := 183) (b' := false) rfl (decide_eq_false (Int.not_le.2 hfarz)) ?_
          refine vnil (vcondf rfl (vskip (vinblock (vregion ?_))))
          refine QM ?_
          refine QQ (vadd rfl rfl (by unfold InR; omega)) rfl ?_
          refine QA ?_
          refine vnil ?_
          exact vback (IH (t + 1, swumP p w.speed lb (2 * t)) hG2 (by show (_ : Int).toNat < (_ : Int).toNat; omega)) ⟨rfl, rfl, rfl, rfl, rfl, rfl, rfl, rfl, rfl, rfl, True.intro⟩ sb2
         ·
          refine vexit (k' := _) rfl ?_
          refine K2 ?_
          refine QQ (vcq rfl rfl rfl (q_watched _)) rfl ?_
          refine QA ?_
          refine vnil ?_
          refine vret (V1 (H) Tryz.func3 ?_)
          exact ⟨rfl, rfl⟩
        ·
         refine NO ?_
         refine NO ?_
         refine QU ?_
         refine vnil (vcondf rfl ?_)
         refine vexit (k' := _) rfl ?_
         refine K2 ?_
         refine QQ (vcq rfl rfl rfl (q_watched _)) rfl ?_
         refine QA ?_
         refine vnil ?_
         refine vret (V1 (H) Tryz.func3 ?_)
         exact ⟨rfl, rfl⟩
       ·
        refine NO ?_
        refine NO ?_
        refine NO ?_
        refine QU ?_
        refine QM ?_
        refine NO ?_
        refine NO ?_
        refine QU ?_
        refine vnil (vcondf rfl ?_)
        refine vexit (k' := _) rfl ?_
        refine K2 ?_
        refine QQ (vcq rfl rfl rfl (q_watched _)) rfl ?_
        refine QA ?_
        refine vnil ?_
        refine vret (V1 (H) Tryz.func3 ?_)
        exact ⟨rfl, rfl⟩
end Go.Proofs.YtmfmecgiaekelaaGreatDoor
namespace Go.Proofs.YtmfmecgiaekelaaGreatDoor
open Go
set_option maxRecDepth 100000
open Go.ChangeShapes Go.WideShapes Go.ChangeAt Go.RowKit
theorem Tryz.enterK : Tryz.prog.mayEnter = true := by kernel_rfl
theorem Tryz.liftsK : (Rows.topFarRow.lifted == Tryz.prog.liftsFinal) = true := by kernel_rfl
theorem Tryz.makeK : (Tryz.prog.make == some Rows.topFarRow.make) = true := by kernel_rfl
section
variable {HH : Type} {enc : TypeId × Value → HH} {P : Program} {W : World}
theorem cells_i {ks : List CK} {l : List Value} (h : CellsAre enc P W (.i :: ks) l) : ∃ n r, l = I n :: r ∧ InR n ∧ CellsAre enc P W ks r := by
  cases l with
  | nil => exact h.elim
  | cons v r => obtain ⟨⟨n, rfl, hn⟩, h2⟩ := h; exact ⟨n, r, rfl, hn, h2⟩
theorem cells_nil {l : List Value} (h : CellsAre enc P W [] l) : l = [] := by
  cases l with
  | nil => rfl
  | cons v r => exact h.elim
theorem trodAll_below (hl : laidOutB P = true) {W' : World} (hb : Below W.heap.size W W') : ∀ {ts : List TypeId} {vs : List Value} {ds : List (DataW HH)} {ps : List MemPlace}, (∀ t ∈ ts, P.readableRec t = true ∧ t < P.types.size) → (∀ x ∈ ps, x.block < W.heap.size) →
    DataW.TrodAll enc P W 0 (fun _ => true) true ts vs ds ps → DataW.TrodAll enc P W' 0 (fun b => decide (b < W.heap.size)) true ts vs ds ps
  | [], vs, ds, ps, _, _, h => by
    obtain ⟨rfl, rfl, rfl⟩ := Go.ChangeShapes.trodAll_nil h
    exact trodAll_mk0
  | t :: ts, vs, ds, ps, ht, hps, h => by
    obtain ⟨v, vs', d, ds', p, q, rfl, rfl, rfl, h1, h2⟩ := Go.ChangeShapes.trodAll_cons h
    exact trodAll_cons_mk (Below.trod hl (ht t (by simp)).1 (ht t (by simp)).2 h1 hb (fun x hx => hps x (by simp [hx]))) (trodAll_below hl hb (fun u hu => ht u (by simp [hu])) (fun x hx => hps x (by simp [hx])) h2)
end
def restFacts (P : Program) (fn : Func) (s : ChangeSpec) (c : OpenClaim) : Bool :=
  c.wf (OpenSpec.ofChange s) && (fn.params.all (P.readableRec ·) && (namedTie P c.named s.vars &&
  ((c.stops == []) && ((c.knobs == []) &&
  ((c.maps == (fn.params.toList ++ s.plain.varTypes P).any (P.mapsRec ·)) && ((c.ifaces == (fn.params.toList ++ s.plain.varTypes P).any (P.ifacesRec ·)) && ((c.mapsOut == P.mapsAmong fn.resultTypes.toList) &&
  ((c.loops == (fn.params.toList ++ s.plain.varTypes P).any (P.loopsFrom ·)) && ((c.wideKeys == (fn.params.toList ++ s.plain.varTypes P ++ fn.resultTypes.toList).any (P.wideKeysFrom ·)) &&
  (s.vars.all (P.varReadable ·) && (fn.resultTypes.all (fun t => P.readableRec t && decide (t < P.types.size)) && ((c.ifacesOut == fn.resultTypes.toList.any (P.ifacesRec ·)) && ((c.loopsOut == fn.resultTypes.toList.any (P.loopsFrom ·)) && (c.shortTexts.isNone &&
  ((c.veiled == (fn.params.toList ++ s.plain.varTypes P ++ fn.resultTypes.toList).any (P.veiledRec ·)) && c.veiledFits P fn.params.toList (fn.params.toList ++ s.plain.varTypes P ++ fn.resultTypes.toList))))))))))))))))
theorem joined_of {P : Program} {f : FuncId} {fn : Func} {s : ChangeSpec} {c : OpenClaim} (h1 : laidOutB P = true) (h2 : mapsRowed P = true) (h3 : (P.stops == []) = true) (h4 : (P.stopKnobs == []) = true) (h5 : (c.plainKeys == P.plainKeys) = true) (h6 : P.stopsHeard = true)
    (i1 : (c.inPlace == P.inPlace f) = true) (i2 : (c.unfollowed == P.unfollowed f) = true) (i3 : (c.recurses == P.recurses f) = true) (i4 : (c.named == P.varsNamed f) = true) (rest : restFacts P fn s c = true)
    (j0 : c.domain.isEmpty = true) (j1 : (c.kinds == []) = true) (j2 : P.mayEnter = true) (j3 : (c.lifted == P.liftsFinal) = true) (j4 : (P.make == some c.make) = true) (j5 : (c.pinned == c.pinnedBy) = true) : joinedFacts P f fn s c = true := by
  simp only [restFacts, Bool.and_eq_true] at rest
  obtain ⟨r1, r2, r3, r4, r5, r6, r7, r8, r9, r10, r11, r12, r13, r14, r15, r16, r17⟩ := rest
  unfold joinedFacts
  simp only [h1, h2, h3, h4, h5, h6, i1, i2, i3, i4, r1, r2, r3, r4, r5, r6, r7, r8, r9, r10, r11, r12, r13, r14, r15, r16, r17, j0, j1, j2, j3, j4, j5, if_true, Bool.and_self, Bool.and_true, Bool.true_and]
theorem Tryz.ownK : ownKnob Tryz.prog.godebug = none := by kernel_rfl
theorem Tryz.laidOutK : laidOutB Tryz.prog = true := by kernel_rfl
theorem Tryz.mapsK : mapsRowed Tryz.prog = true := by kernel_rfl
theorem Tryz.stopsK : (Tryz.prog.stops == []) = true := by kernel_rfl
theorem Tryz.knobsK : (Tryz.prog.stopKnobs == []) = true := by kernel_rfl
theorem Tryz.heardK : Tryz.prog.stopsHeard = true := by kernel_rfl
section
variable {HH : Type} {enc : TypeId × Value → HH} {P : Program} {W : World}
theorem cells_slX {e : TypeId} {ks : List CK} {l : List Value} (h : CellsAre enc P W (.sl e :: ks) l) : ∃ (v : Value) (r : List Value), l = v :: r ∧ CellIs enc P W (.sl e) v ∧ CellsAre enc P W ks r := by
  cases l with
  | nil => exact h.elim
  | cons v r => obtain ⟨h1, h2⟩ := h; exact ⟨v, r, rfl, h1, h2⟩
end
theorem sl_I {HH : Type} {enc : TypeId × Value → HH} {W : World} {v : Value} (h : CellIs enc Tryz.prog W (.sl 3) v) : ∃ (oa : Option Addr) (m c : Nat) (l : List Int), v = .slice oa m c ∧ l.length = m ∧ m ≤ 9223372036854775807 ∧ (∀ x ∈ l, (fun n => InR n) x) ∧ (oa = Option.none → m = 0 ∧ c = 0) ∧ SlO (allH W) oa 1 encI l ∧ m ≤ c :=
  slice_of2 (n := 9) (ks := [.i]) encI (fun n => InR n) (by kernel_rfl) (by kernel_rfl) (by decide) (fun row hr hl => by
    obtain ⟨x0, row, rfl, b0, hr⟩ := cells_i hr
    obtain rfl := cells_nil hr
    exact ⟨x0, rfl, b0⟩) h
theorem sl_P {HH : Type} {enc : TypeId × Value → HH} {W : World} {v : Value} (h : CellIs enc Tryz.prog W (.sl 30) v) : ∃ (oa : Option Addr) (m c : Nat) (l : List Pt), v = .slice oa m c ∧ l.length = m ∧ m ≤ 9223372036854775807 ∧ (∀ x ∈ l, (fun _ => True) x) ∧ (oa = Option.none → m = 0 ∧ c = 0) ∧ SlO (allH W) oa 2 encP l ∧ m ≤ c :=
  slice_of2 (n := 9) (ks := [.i, .i]) encP (fun _ => True) (by kernel_rfl) (by kernel_rfl) (by decide) (fun row hr hl => by
    obtain ⟨x0, row, rfl, b0, hr⟩ := cells_i hr
    obtain ⟨x1, row, rfl, b1, hr⟩ := cells_i hr
    obtain rfl := cells_nil hr
    exact ⟨⟨x0, x1⟩, rfl, True.intro⟩) h
theorem sl_Bd {HH : Type} {enc : TypeId × Value → HH} {W : World} {v : Value} (h : CellIs enc Tryz.prog W (.sl 26) v) : ∃ (oa : Option Addr) (m c : Nat) (l : List Bd), v = .slice oa m c ∧ l.length = m ∧ m ≤ 9223372036854775807 ∧ (∀ x ∈ l, (fun _ => True) x) ∧ (oa = Option.none → m = 0 ∧ c = 0) ∧ SlO (allH W) oa 2 encBd l ∧ m ≤ c :=
  slice_of2 (n := 9) (ks := [.i, .i]) encBd (fun _ => True) (by kernel_rfl) (by kernel_rfl) (by decide) (fun row hr hl => by
    obtain ⟨x0, row, rfl, b0, hr⟩ := cells_i hr
    obtain ⟨x1, row, rfl, b1, hr⟩ := cells_i hr
    obtain rfl := cells_nil hr
    exact ⟨⟨x0, x1⟩, rfl, True.intro⟩) h
theorem sl_Lg {HH : Type} {enc : TypeId × Value → HH} {W : World} {v : Value} (h : CellIs enc Tryz.prog W (.sl 140) v) : ∃ (oa : Option Addr) (m c : Nat) (l : List (Pt × Pt)), v = .slice oa m c ∧ l.length = m ∧ m ≤ 9223372036854775807 ∧ (∀ x ∈ l, (fun _ => True) x) ∧ (oa = Option.none → m = 0 ∧ c = 0) ∧ SlO (allH W) oa 4 encLg l ∧ m ≤ c :=
  slice_of2 (n := 9) (ks := [.i, .i, .i, .i]) encLg (fun _ => True) (by kernel_rfl) (by kernel_rfl) (by decide) (fun row hr hl => by
    obtain ⟨x0, row, rfl, b0, hr⟩ := cells_i hr
    obtain ⟨x1, row, rfl, b1, hr⟩ := cells_i hr
    obtain ⟨x2, row, rfl, b2, hr⟩ := cells_i hr
    obtain ⟨x3, row, rfl, b3, hr⟩ := cells_i hr
    obtain rfl := cells_nil hr
    exact ⟨(⟨x0, x1⟩, ⟨x2, x3⟩), rfl, True.intro⟩) h
theorem sl_SP {HH : Type} {enc : TypeId × Value → HH} {W : World} {v : Value} (h : CellIs enc Tryz.prog W (.sl 24) v) : ∃ (oa : Option Addr) (m c : Nat) (l : List (SlA Pt)), v = .slice oa m c ∧ l.length = m ∧ m ≤ 9223372036854775807 ∧ (∀ x ∈ l, (fun d => SlO (allH W) d.oa 2 encP d.l ∧ d.l.length ≤ 9223372036854775807) x) ∧ (oa = Option.none → m = 0 ∧ c = 0) ∧ SlO (allH W) oa 1 encSl l ∧ m ≤ c :=
  slice_of2 (n := 9) (ks := [.sl 30]) encSl (fun d => SlO (allH W) d.oa 2 encP d.l ∧ d.l.length ≤ 9223372036854775807) (by kernel_rfl) (by kernel_rfl) (by decide) (fun row hr hl => by
    obtain ⟨v, row2, e, hc, hr2⟩ := cells_slX hr
    subst e
    obtain rfl := cells_nil hr2
    obtain ⟨oa, m, c, l, rfl, rfl, h2, _, _, h5, _⟩ := sl_P hc
    exact ⟨⟨oa, c, l⟩, rfl, h5, h2⟩) h
theorem sl_SB {HH : Type} {enc : TypeId × Value → HH} {W : World} {v : Value} (h : CellIs enc Tryz.prog W (.sl 141) v) : ∃ (oa : Option Addr) (m c : Nat) (l : List (SlA Bd)), v = .slice oa m c ∧ l.length = m ∧ m ≤ 9223372036854775807 ∧ (∀ x ∈ l, (fun d => SlO (allH W) d.oa 2 encBd d.l ∧ d.l.length ≤ 9223372036854775807) x) ∧ (oa = Option.none → m = 0 ∧ c = 0) ∧ SlO (allH W) oa 1 encSl l ∧ m ≤ c :=
  slice_of2 (n := 9) (ks := [.sl 26]) encSl (fun d => SlO (allH W) d.oa 2 encBd d.l ∧ d.l.length ≤ 9223372036854775807) (by kernel_rfl) (by kernel_rfl) (by decide) (fun row hr hl => by
    obtain ⟨v, row2, e, hc, hr2⟩ := cells_slX hr
    subst e
    obtain rfl := cells_nil hr2
    obtain ⟨oa, m, c, l, rfl, rfl, h2, _, _, h5, _⟩ := sl_Bd hc
    exact ⟨⟨oa, c, l⟩, rfl, h5, h2⟩) h
theorem rd_35 {HH : Type} {enc : TypeId × Value → HH} {W : World} {base : Nat} {v : Value} {d : DataW HH} {ps : List MemPlace} (h : DataW.Trod enc Tryz.prog W 0 (fun _ => true) true 35 v d ps) (hv : Value.okWide Tryz.prog W .any base 35 v) : ∃ (h : CH) (c : Cz), v = vCz h c ∧ CzO (allH W) h c := by
  obtain ⟨l, rfl, hl⟩ := okWide_agg (by left; exact ⟨_, Tryz.underlying35⟩) hv
  have hc := trod_cells (n := 9) (ks := [.sl 140, .sl 24, .sl 30, .i, .i, .i, .i, .i, .i, .i, .i, .i, .i, .i, .i, .i, .sl 141]) (by kernel_rfl) h
  rw [hl] at hc
  obtain ⟨v1, l, rfl, c1, hc⟩ := cells_slX hc
  obtain ⟨v2, l, rfl, c2, hc⟩ := cells_slX hc
  obtain ⟨v3, l, rfl, c3, hc⟩ := cells_slX hc
  obtain ⟨x0, l, rfl, b0, hc⟩ := cells_i hc
  obtain ⟨x1, l, rfl, b1, hc⟩ := cells_i hc
  obtain ⟨x2, l, rfl, b2, hc⟩ := cells_i hc
  obtain ⟨x3, l, rfl, b3, hc⟩ := cells_i hc
  obtain ⟨x4, l, rfl, b4, hc⟩ := cells_i hc
  obtain ⟨x5, l, rfl, b5, hc⟩ := cells_i hc
  obtain ⟨x6, l, rfl, b6, hc⟩ := cells_i hc
  obtain ⟨x7, l, rfl, b7, hc⟩ := cells_i hc
  obtain ⟨x8, l, rfl, b8, hc⟩ := cells_i hc
  obtain ⟨x9, l, rfl, b9, hc⟩ := cells_i hc
  obtain ⟨x10, l, rfl, b10, hc⟩ := cells_i hc
  obtain ⟨x11, l, rfl, b11, hc⟩ := cells_i hc
  obtain ⟨x12, l, rfl, b12, hc⟩ := cells_i hc
  obtain ⟨v4, l, rfl, c4, hc⟩ := cells_slX hc
  obtain rfl := cells_nil hc
  obtain ⟨a1, m1, k1, l1, rfl, rfl, n1, _, _, s1, _⟩ := sl_Lg c1
  obtain ⟨a2, m2, k2, l2, rfl, rfl, n2, g2, _, s2, _⟩ := sl_SP c2
  obtain ⟨a3, m3, k3, l3, rfl, rfl, n3, _, _, s3, _⟩ := sl_P c3
  obtain ⟨a4, m4, k4, l4, rfl, rfl, n4, g4, _, s4, _⟩ := sl_SB c4
  exact ⟨⟨a1, k1, a2, k2, l2, a3, k3, a4, k4, l4⟩, ⟨l1, l2.map (·.l), l3, ⟨⟨x0, x1⟩, ⟨x2, x3⟩, ⟨x4, x5⟩, ⟨x6, x7⟩⟩, ⟨⟨x8, x9⟩, x10⟩, x11, x12, l4.map (·.l)⟩, rfl, s1, s2, g2, rfl, s3, s4, g4, rfl, n1, n2, n3, n4⟩
theorem rd_41 {HH : Type} {enc : TypeId × Value → HH} {W : World} {base : Nat} {v : Value} {d : DataW HH} {ps : List MemPlace} (h : DataW.Trod enc Tryz.prog W 0 (fun _ => true) true 41 v d ps) (hv : Value.okWide Tryz.prog W .any base 41 v) : ∃ (w : Wn) (os : Option Addr) (ns cs : Nat) (st : Pt) (ob : Option Addr) (cb : Nat) (lb : List Int) (sp : Int), v = .agg [I w.zone, I w.speed, I w.hold, I w.pre, I w.delay, I w.soft, I w.pause, .slice os ns cs, I st.x, I st.y, .slice ob lb.length cb, I sp].toArray ∧ SlO (allH W) ob 1 encI lb ∧ lb.length ≤ 9223372036854775807 ∧ ∀ n ∈ lb, InR n := by
  obtain ⟨l, rfl, hl⟩ := okWide_agg (by left; exact ⟨_, Tryz.underlying41⟩) hv
  have hc := trod_cells (n := 9) (ks := [.i, .i, .i, .i, .i, .i, .i, .sl 286, .i, .i, .sl 3, .i]) (by kernel_rfl) h
  rw [hl] at hc
  obtain ⟨x0, l, rfl, b0, hc⟩ := cells_i hc
  obtain ⟨x1, l, rfl, b1, hc⟩ := cells_i hc
  obtain ⟨x2, l, rfl, b2, hc⟩ := cells_i hc
  obtain ⟨x3, l, rfl, b3, hc⟩ := cells_i hc
  obtain ⟨x4, l, rfl, b4, hc⟩ := cells_i hc
  obtain ⟨x5, l, rfl, b5, hc⟩ := cells_i hc
  obtain ⟨x6, l, rfl, b6, hc⟩ := cells_i hc
  obtain ⟨v1, l, rfl, c1, hc⟩ := cells_slX hc
  obtain ⟨x7, l, rfl, b7, hc⟩ := cells_i hc
  obtain ⟨x8, l, rfl, b8, hc⟩ := cells_i hc
  obtain ⟨v2, l, rfl, c2, hc⟩ := cells_slX hc
  obtain ⟨x9, l, rfl, b9, hc⟩ := cells_i hc
  obtain rfl := cells_nil hc
  obtain ⟨a2, m2, k2, l2, rfl, rfl, n2, g2, _, s2, _⟩ := sl_I c2
  rcases c1 with rfl | ⟨a, len, cap, rfl, _⟩
  · exact ⟨⟨x0, x1, x2, x3, x4, x5, x6⟩, Option.none, 0, 0, ⟨x7, x8⟩, a2, k2, l2, x9, rfl, s2, n2, g2⟩
  · exact ⟨⟨x0, x1, x2, x3, x4, x5, x6⟩, some a, len, cap, ⟨x7, x8⟩, a2, k2, l2, x9, rfl, s2, n2, g2⟩
theorem rd_44 {HH : Type} {enc : TypeId × Value → HH} {W : World} {base : Nat} {v : Value} {d : DataW HH} {ps : List MemPlace} (h : DataW.Trod enc Tryz.prog W 0 (fun _ => true) true 44 v d ps) (hv : Value.okWide Tryz.prog W .any base 44 v) : ∃ x0 x1 x2 x3 x4 x5 x6 : Int, v = .agg [I x0, I x1, I x2, I x3, I x4, I x5, I x6].toArray ∧ InR x0 ∧ InR x1 ∧ InR x2 ∧ InR x3 ∧ InR x4 ∧ InR x5 ∧ InR x6 := by
  obtain ⟨l, rfl, hl⟩ := okWide_agg (by left; exact ⟨_, Tryz.underlying44⟩) hv
  have hc := trod_cells (n := 9) (ks := [.i, .i, .i, .i, .i, .i, .i]) (by kernel_rfl) h
  rw [hl] at hc
  obtain ⟨x0, l, rfl, b0, hc⟩ := cells_i hc
  obtain ⟨x1, l, rfl, b1, hc⟩ := cells_i hc
  obtain ⟨x2, l, rfl, b2, hc⟩ := cells_i hc
  obtain ⟨x3, l, rfl, b3, hc⟩ := cells_i hc
  obtain ⟨x4, l, rfl, b4, hc⟩ := cells_i hc
  obtain ⟨x5, l, rfl, b5, hc⟩ := cells_i hc
  obtain ⟨x6, l, rfl, b6, hc⟩ := cells_i hc
  obtain rfl := cells_nil hc
  exact ⟨x0, x1, x2, x3, x4, x5, x6, rfl, b0, b1, b2, b3, b4, b5, b6⟩
end Go.Proofs.YtmfmecgiaekelaaGreatDoor
