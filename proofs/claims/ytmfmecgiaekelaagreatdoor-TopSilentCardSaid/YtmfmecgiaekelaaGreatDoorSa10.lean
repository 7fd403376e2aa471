/-
  Parts of the proof: rules of the engine, walks of functions, plain Lean. No condition.
-/
import Derived.Test.YtmfmecgiaekelaaGreatDoorSa09
namespace Go.Proofs.YtmfmecgiaekelaaGreatDoor
open Go
set_option maxRecDepth 100000
attribute [local irreducible] tightP hullP rootP farP rows endsOf
section
open Classical in
theorem pmS (X L m R : Heap) : (X ++ (L ++ (m ++ R))).Perm (m ++ (X ++ (L ++ R))) := perm_of fun a => by simp only [List.count_append]; omega
open Classical in
theorem pmT (m X L K H : Heap) : (m ++ (X ++ (L ++ (K ++ H)))).Perm (L ++ (m ++ (K ++ (X ++ H)))) := perm_of fun a => by simp only [List.count_append]; omega
open Classical in
theorem pmU (R X H Y B : Heap) : (R ++ ((X ++ H) ++ (Y ++ B))).Perm (R ++ (X ++ (Y ++ (B ++ H)))) := perm_of fun a => by simp only [List.count_append]; omega
open Classical in
theorem pmV (R Y B H : Heap) : (R ++ (Y ++ (B ++ H))).Perm (R ++ (H ++ (Y ++ B))) := perm_of fun a => by simp only [List.count_append]; omega
end
theorem nextA_call (oa : Option Addr) (nn cp : Nat) (r : Re) (e : Int) (bf be bp bx : Nat) (fv : Value) (X L K H : Heap) [hat : HAt H be [I e] 3] : VCall Tryz.prog 76 [.slice oa nn cp, vRe r, I 0, ptr bf, ptr be, ptr bp, ptr bx].toArray (X ++ (L ++ (bf, blk [fv] 142) :: (K ++ H))) (fun o H' => H' = L ++ (bf, blk [.slice oa nn cp] 142) :: (K ++ (X ++ H)) ∧ o = .val (.bool (decide (r.2 = e)))) := by
  refine VCall.conv (VCall.perm (pmS X L [(bf, blk [fv] 142)] (K ++ H)) (d_nextA oa nn cp r e bf be bp bx fv (X ++ (L ++ (K ++ H))))) ?_
  rintro o H' ⟨h1, h2⟩
  subst h1
  exact ⟨_, pmT [(bf, blk [.slice oa nn cp] 142)] X L K H, rfl, h2⟩
theorem d_nextB (h : CH) (c : Cz) (bm bc : Nat) (H : Heap) [hcz : CzO H h c] [hat : HAt H bc (clCh h c bm) 130] (bk bf be bp bx : Nat) (z : Pt × Pt) (hz : c.lines[0]? = some z) (h1 : c.lines.length = 1) (d : List Bd) (hd : c.opens[0]? = some d) (hok : okCz c) (b0 : Int × Int) (hgo : goV c (c.start, 0) (wayV z 0) d = some b0) [hat1 : HAt H be [I b0.2] 3] [hat2 : HAt H bp (clPl bc bk) 178] [hat3 : HAt H bx [.func (.func 76) #[] #[ptr bf, ptr be, ptr bp, ptr bx]] 187] (lk : List EnK) (nk : Nat) (hlk : KnK c lk) (l : List EnS) (n : Nat) (hl : KnS c l) : VCall Tryz.prog 76 [.slice Option.none 0 0, vRe (c.start, 0), I 1, ptr bf, ptr be, ptr bp, ptr bx].toArray ((bf, blk [.slice Option.none 0 0] 142) :: (bk, mKp lk nk) :: (bm, mSt l n) :: H) (fun o H' => ∃ sl lk' nk' l' n' B, H' = (bf, blk [sl] 142) :: (bk, mKp lk' nk') :: (bm, mSt l' n') :: (B ++ H) ∧ o = .val (.bool true) ∧ KnK c lk' ∧ KnS c l') := by
 refine CV 57 Tryz.func76 ?_
 refine KK2 ?_
 refine BX fun b1 => ?_
 refine BX fun b2 => ?_
 refine BX fun b3 => ?_
 refine AL fun b4 => ?_
 refine vnil (vscope (vseq (KK2 ?_)))
 refine QL ?_
 refine QE ?_
 refine vknow (d := 15) (b' := false) rfl (by decide) ?_
 refine vnil (vcondf rfl (vskip (vseq (vlabel (vseq (KK2 ?_))))))
 refine QN ?_
 refine QL ?_
 refine vone rfl (vxg (vcg (R := fun v H' => ∃ ks kp, v = .func (.func 110) #[] #[ptr kp, ptr ks] ∧ H' = (ks, blk [I ((1 : Nat) : Int)] 3) :: (kp, blk (clPl bc bk) 178) :: (b4, blk [.bool false] 4) :: (b3, blk [I 1] 3) :: (b2, blk (clRe (c.start, 0)) 189) :: (b1, blk [.slice Option.none 0 0] 142) :: (bf, blk [.slice Option.none 0 0] 142) :: (bk, mKp lk nk) :: (bm, mSt l n) :: H) rfl rfl rfl (n_shoots bc bk 1 _) (fun o H' ⟨ks, kp, h1, h2⟩ => ⟨_, h1, ks, kp, rfl, h2⟩)) rfl rfl ?_)
 rintro _ _ ⟨ks1, kp1, rfl, rfl⟩
 refine vnil (vblock ?_)
 refine vrangeM (X := XSh H) (xs := (shP 1 c.lines.length)) (caps := [ptr kp1, ptr ks1]) (Hi := ((ks1, blk [I ((1 : Nat) : Int)] 3) :: (kp1, blk (clPl bc bk) 178) :: H)) (Hc := ((b4, blk [.bool false] 4) :: (b3, blk [I 1] 3) :: (b2, blk (clRe (c.start, 0)) 189) :: (b1, blk [.slice Option.none 0 0] 142) :: (bf, blk [.slice Option.none 0 0] 142) :: (bk, mKp lk nk) :: (bm, mSt l n) :: [])) (ps := [24]) (fun pre H1 => pre = [] ∧ H1 = (b4, blk [.bool false] 4) :: (b3, blk [I 1] 3) :: (b2, blk (clRe (c.start, 0)) 189) :: (b1, blk [.slice Option.none 0 0] 142) :: (bf, blk [.slice Option.none 0 0] 142) :: (bk, mKp lk nk) :: (bm, mSt l n) :: []) (fun cd H1 => cd = .ret ∧ ∃ sl lk nk l n B, H1 = (b4, blk [.bool true] 4) :: (b3, blk [I 1] 3) :: (b2, blk (clRe (c.start, 0)) 189) :: (b1, blk [.slice Option.none 0 0] 142) :: (bf, blk [sl] 142) :: (bk, mKp lk nk) :: (bm, mSt l n) :: B ∧ KnK c lk ∧ KnS c l) rfl (it_shoots h c bm bc bk 1 kp1 ks1 (by omega) (by omega) H) (pmO [(ks1, blk [I ((1 : Nat) : Int)] 3), (kp1, blk (clPl bc bk) 178)] [(b4, blk [.bool false] 4), (b3, blk [I 1] 3), (b2, blk (clRe (c.start, 0)) 189), (b1, blk [.slice Option.none 0 0] 142), (bf, blk [.slice Option.none 0 0] 142), (bk, mKp lk nk), (bm, mSt l n)] H) ⟨rfl, rfl⟩ (fun x vs Hx ⟨h, _⟩ => by rw [h]; rfl) rfl ?_ ?_ ?_
 ·
  intro lp rec pre x post vs Hx H1 hrs hxs hX hI
  obtain ⟨rfl, hHx⟩ := hX
  have hHx := hHx.symm
  subst hHx
  obtain ⟨rfl, rfl⟩ := hI
  rw [h1, shP_1] at hxs
  simp only [List.nil_append, List.cons.injEq] at hxs
  obtain ⟨rfl, _⟩ := hxs
  refine VRun.perm (H' := (lp, Obj.loop rec) :: (b4, blk [.bool false] 4) :: (b3, blk [I 1] 3) :: (b2, blk (clRe (c.start, 0)) 189) :: (b1, blk [.slice Option.none 0 0] 142) :: (bf, blk [.slice Option.none 0 0] 142) :: (bk, mKp lk nk) :: (bm, mSt l n) :: H) ((List.perm_append_comm (l₁ := [(b4, blk [.bool false] 4), (b3, blk [I 1] 3), (b2, blk (clRe (c.start, 0)) 189), (b1, blk [.slice Option.none 0 0] 142), (bf, blk [.slice Option.none 0 0] 142), (bk, mKp lk nk), (bm, mSt l n)]) (l₂ := H)).symm.cons _) ?_
  refine vregion ?_
  refine AL fun b5 => ?_
  refine SN ?_
  refine vnil ?_
  refine vbegin hrs ?_
  refine vblock (KK2 ?_)
  refine QN ?_
  refine QN ?_
  refine QN ?_
  refine vone rfl (vxg (vcg (R := fun vv H' => ∃ lk2 nk2 l2 n2, vv = tup [vPr b0, .bool true] ∧ H' = (b5, blk [I 0, I 0] 185) :: (lp, Obj.loop (bsy rec)) :: (b4, blk [.bool false] 4) :: (b3, blk [I 1] 3) :: (b2, blk (clRe (c.start, 0)) 189) :: (b1, blk [.slice Option.none 0 0] 142) :: (bf, blk [.slice Option.none 0 0] 142) :: (bk, mKp lk2 nk2) :: (bm, mSt l2 n2) :: H ∧ KnK c lk2 ∧ KnS c l2) rfl rfl rfl (goes_call h c bm bc H bk 0 0 z hz d hd hok (c.start, 0) (show (0 : Int) ≤ 0 ∧ (0 : Int) ≤ 100000000 from by decide) lk nk hlk l n hl [(b5, blk [I 0, I 0] 185), (lp, Obj.loop (bsy rec)), (b4, blk [.bool false] 4), (b3, blk [I 1] 3), (b2, blk (clRe (c.start, 0)) 189), (b1, blk [.slice Option.none 0 0] 142), (bf, blk [.slice Option.none 0 0] 142)]) (fun o H' ⟨lk2, nk2, l2, n2, h1, h2, h3, h4⟩ => ⟨tup [vPr b0, .bool true], (by rw [h4, hgo] <;> rfl), lk2, nk2, l2, n2, rfl, h1, h2, h3⟩)) rfl rfl ?_)
  rintro _ _ ⟨lk2, nk2, l2, n2, rfl, rfl, hlk2, hl2⟩
  refine QM ?_
  refine QX ?_
  refine QX ?_
  refine AL fun b6 => ?_
  refine SN ?_
  refine QA ?_
  refine vnil (vseq (KK2 ?_))
  refine QM ?_
  refine QQ (vnot rfl) rfl ?_
  refine QM ?_
  refine YF ?_
  refine YL ?_
  refine YL ?_
  refine YY (vgtr rfl rfl) rfl ?_
  refine vknow (d := 38) (b' := false) rfl (decide_eq_false (by omega)) ?_
  refine QU ?_
  refine vnil (vcondf rfl (vskip (vseq ?_)))
  refine DR [(.q, 0), (.q, 1), (.q, 2), (.q, 3), (.q, 6), (.q, 7), (.q, 8), (.q, 9), (.q, 11), (.q, 12), (.q, 13), (.q, 14), (.q, 15), (.m, 4), (.s, 5), (.q, 10), (.w, 16)] Tryz.mixed ?_
  refine DL ?_
  refine DL ?_
  refine DD (vcq rfl rfl rfl (q_CloneNil _)) rfl ?_
  refine DN ?_
  refine DN ?_
  refine DN ?_
  refine DF ?_
  refine DL ?_
  refine DL ?_
  refine DF ?_
  refine DL ?_
  refine DD (vshl1 (i := 0) (by omega) rfl rfl) rfl ?_
  refine DD (vandn1 rfl rfl) rfl ?_
  refine vdm (mone rfl) (vbsP rfl rfl rfl rfl rfl rfl) rfl rfl (fun b7 => ?_)
  refine vdsd (mone rfl) (vappF (a := ⟨b7, 0, Option.none⟩) (m := 1) (c := 1) (size := 2) (bytes := 16) (F := fun C => (b7, blk [I 0, I 0] 185) :: C) (H0 := [(b7, blk [I 0, I 0] 185)]) (B := []) (xs := []) (news := [I 0, I 0]) (fun C => List.perm_append_comm (l₁ := [(b7, blk [I 0, I 0] 185)]) (l₂ := C)) rfl rfl OwnS.nil rfl (news_blk (b := b7) (List.Mem.head _)) (fun u hu => by simp at hu; subst hu; rfl) (by omega) (by simp only [maxLen]; omega) (by omega)) rfl rfl ?_
  rintro _ _ ⟨B2, hown2, _, rfl⟩
  obtain ⟨oa2, cp2, rfl, hle2⟩ := hown2.shape
  refine DD (vcq rfl rfl rfl (q_after h c bm bc _ bk 0 0 z hz hok b0.2)) rfl ?_
  refine vdw (appHO_of _ _) (mone rfl) (vcg (R := fun vv H' => vv = .bool (decide (b0.2 = b0.2)) ∧ H' = (b6, blk [I b0.1, I b0.2] 26) :: (b5, blk [I 0, I 0] 185) :: (lp, Obj.loop (bsy rec)) :: (b4, blk [.bool false] 4) :: (b3, blk [I 1] 3) :: (b2, blk (clRe (c.start, 0)) 189) :: (b1, blk [.slice Option.none 0 0] 142) :: (bf, blk [.slice oa2 1 cp2] 142) :: (bk, mKp lk2 nk2) :: (bm, mSt l2 n2) :: (((b7, blk [I 0, I 0] 185) :: B2) ++ H)) rfl rfl rfl (nextA_call oa2 1 cp2 (toV (wayV z 0), b0.2) b0.2 bf be bp bx _ ((b7, blk [I 0, I 0] 185) :: B2) [(b6, blk [I b0.1, I b0.2] 26), (b5, blk [I 0, I 0] 185), (lp, Obj.loop (bsy rec)), (b4, blk [.bool false] 4), (b3, blk [I 1] 3), (b2, blk (clRe (c.start, 0)) 189), (b1, blk [.slice Option.none 0 0] 142)] [(bk, mKp lk2 nk2), (bm, mSt l2 n2)] H) (fun o H' ⟨h1, h2⟩ => ⟨_, h2, rfl, h1⟩)) rfl rfl ?_
  rintro _ _ ⟨rfl, rfl⟩
  refine vdknow (d := 56) (b' := true) rfl (decide_eq_true rfl) ?_
  refine vdend rfl (vcondt rfl (KK2 ?_))
  refine SU ?_
  refine vnil ?_
  refine VRun.sub (H' := (lp, Obj.loop (bsy rec)) :: (b4, blk [.bool true] 4) :: (b3, blk [I 1] 3) :: (b2, blk (clRe (c.start, 0)) 189) :: (b1, blk [.slice Option.none 0 0] 142) :: (bf, blk [.slice oa2 1 cp2] 142) :: (bk, mKp lk2 nk2) :: (bm, mSt l2 n2) :: (((b7, blk [I 0, I 0] 185) :: B2) ++ H)) sb2 ?_
  refine VRun.perm (H' := (lp, Obj.loop (bsy rec)) :: (H ++ ((b4, blk [.bool true] 4) :: (b3, blk [I 1] 3) :: (b2, blk (clRe (c.start, 0)) 189) :: (b1, blk [.slice Option.none 0 0] 142) :: (bf, blk [.slice oa2 1 cp2] 142) :: (bk, mKp lk2 nk2) :: (bm, mSt l2 n2) :: ((b7, blk [I 0, I 0] 185) :: B2)))) (pmV [(lp, Obj.loop (bsy rec))] [(b4, blk [.bool true] 4), (b3, blk [I 1] 3), (b2, blk (clRe (c.start, 0)) 189), (b1, blk [.slice Option.none 0 0] 142), (bf, blk [.slice oa2 1 cp2] 142), (bk, mKp lk2 nk2), (bm, mSt l2 n2)] ((b7, blk [I 0, I 0] 185) :: B2) H) ?_
  refine vroundI_ret (.refl _) ?_
  exact ⟨_, rfl, rfl, _, lk2, nk2, l2, n2, _, rfl, hlk2, hl2⟩
 ·
  intro r1 H1 hI
  obtain ⟨hpre, rfl⟩ := hI
  refine VRun.perm (H' := (r1, .deferred (some [])) :: (ks1, blk [I ((1 : Nat) : Int)] 3) :: (kp1, blk (clPl bc bk) 178) :: (b4, blk [.bool false] 4) :: (b3, blk [I 1] 3) :: (b2, blk (clRe (c.start, 0)) 189) :: (b1, blk [.slice Option.none 0 0] 142) :: (bf, blk [.slice Option.none 0 0] 142) :: (bk, mKp lk nk) :: (bm, mSt l n) :: H) ((pmO [(ks1, blk [I ((1 : Nat) : Int)] 3), (kp1, blk (clPl bc bk) 178)] [(b4, blk [.bool false] 4), (b3, blk [I 1] 3), (b2, blk (clRe (c.start, 0)) 189), (b1, blk [.slice Option.none 0 0] 142), (bf, blk [.slice Option.none 0 0] 142), (bk, mKp lk nk), (bm, mSt l n)] H).symm.cons _) ?_
  refine vinblock (KK2 ?_)
  refine SU ?_
  refine vnil ?_
  refine vret (vret_mark (VC ((bf, _) :: (bk, _) :: (bm, _) :: H) Tryz.func76 ?_))
  exact absurd hpre (by rw [h1, shP_1]; simp)
 ·
  intro r1 c H1 hI
  obtain ⟨rfl, sl, lk3, nk3, l3, n3, B, rfl, hlk3, hl3⟩ := hI
  refine VRun.perm (H' := (r1, .deferred (some [])) :: (ks1, blk [I ((1 : Nat) : Int)] 3) :: (kp1, blk (clPl bc bk) 178) :: (b4, blk [.bool true] 4) :: (b3, blk [I 1] 3) :: (b2, blk (clRe (c.start, 0)) 189) :: (b1, blk [.slice Option.none 0 0] 142) :: (bf, blk [sl] 142) :: (bk, mKp lk3 nk3) :: (bm, mSt l3 n3) :: (B ++ H)) (pmU [(r1, .deferred (some []))] [(ks1, blk [I ((1 : Nat) : Int)] 3), (kp1, blk (clPl bc bk) 178)] H [(b4, blk [.bool true] 4), (b3, blk [I 1] 3), (b2, blk (clRe (c.start, 0)) 189), (b1, blk [.slice Option.none 0 0] 142), (bf, blk [sl] 142), (bk, mKp lk3 nk3), (bm, mSt l3 n3)] B) ?_
  refine vret (vret_mark (VC ((bf, _) :: (bk, _) :: (bm, _) :: (B ++ H)) Tryz.func76 ?_))
  exact ⟨sl, lk3, nk3, l3, n3, B, rfl, rfl, hlk3, hl3⟩
end Go.Proofs.YtmfmecgiaekelaaGreatDoor
namespace Go.Proofs.YtmfmecgiaekelaaGreatDoor
open Go
set_option maxRecDepth 100000
attribute [local irreducible] tightP hullP rootP farP rows endsOf
section
open Classical in
theorem pmW (X Y c Z H : Heap) : (X ++ (Y ++ (c ++ (Z ++ H)))).Perm ((X ++ (c ++ H)) ++ (Y ++ Z)) := perm_of fun a => by simp only [List.count_append]; omega
open Classical in
theorem pmX (R c H Y Z : Heap) : (R ++ ((c ++ H) ++ (Y ++ Z))).Perm (R ++ (Y ++ (c ++ (Z ++ H)))) := perm_of fun a => by simp only [List.count_append]; omega
open Classical in
theorem pmY (X f Y K H : Heap) : (X ++ (f ++ (Y ++ (K ++ H)))).Perm (f ++ (K ++ (X ++ (Y ++ H)))) := perm_of fun a => by simp only [List.count_append]; omega
end
theorem planOf_call (h : CH) (c : Cz) (H : Heap) [hcz : CzO H h c] (hok : okCz c) : VCall Tryz.prog 72 [vCz h c].toArray H (fun o H' => ∃ bc bm bk, o = .val (tup [vPl bc bk, I 0]) ∧ H' = (bk, mKp [] 0) :: (bm, mSt [] 0) :: (bc, blk (clCh h c bm) 130) :: H) := by
  refine VCall.conv (d_planOf h c H hok) ?_
  rintro o H' ⟨bc, bm, bk, h1, h2⟩
  subst h2
  exact ⟨_, (List.Perm.swap _ _ _).cons _, bc, bm, bk, h1, rfl⟩
theorem table_call (h : CH) (c : Cz) (bm bc : Nat) (H : Heap) [hcz : CzO H h c] [hat : HAt H bc (clCh h c bm) 130] (bk : Nat) (z : Pt × Pt) (hz : c.lines[0]? = some z) (h1 : c.lines.length = 1) (d : List Bd) (hd : c.opens[0]? = some d) (hok : okCz c) (lk : List EnK) (nk : Nat) (hlk : KnK c lk) (l : List EnS) (n : Nat) (hl : KnS c l) (L : Heap) :
    VCall Tryz.prog 73 [vPl bc bk].toArray (L ++ (bk, mKp lk nk) :: (bm, mSt l n) :: H) (fun o H' => ∃ bt lk' nk' l' n', H' = (bt, blk [I (-1), I (-1), I (tabE c z d 0), I (tabE c z d 1)] 3) :: (L ++ (bk, mKp lk' nk') :: (bm, mSt l' n') :: H) ∧ o = .val (.slice (some ⟨bt, 0, Option.none⟩) 4 4) ∧ KnK c lk' ∧ KnS c l') := by
  refine VCall.conv (VCall.perm (pmJ L [(bk, mKp lk nk), (bm, mSt l n)] H) (d_table h c bm bc (L ++ H) bk z hz h1 d hd hok lk nk hlk l n hl)) ?_
  rintro o H' ⟨bt, lk', nk', l', n', e1, e2, e3, e4⟩
  subst e1
  exact ⟨_, (pmJ L [(bk, mKp lk' nk'), (bm, mSt l' n')] H).symm.cons _, bt, lk', nk', l', n', rfl, e2, e3, e4⟩
theorem ear_go {c : Cz} {z : Pt × Pt} {d : List Bd} {w : Int} {b : Int × Int} (h : goV c (c.start, 0) (wayV z w) d = some b) : tabE c z d w = b.2 := by
  apply tab_s; unfold earE; simp only [List.flatMap_cons, List.flatMap_nil, List.append_nil]; rw [goL_s h]; rfl
def endP (e : Int) (pre : List (Nat × Int)) : Int := if pre.isEmpty = true then -1 else e
section
open Classical in
theorem pmZ (X f Y K C B H : Heap) : (f ++ (K ++ (B ++ (X ++ (Y ++ (C ++ H)))))).Perm (X ++ (f ++ (Y ++ (K ++ (C ++ (B ++ H)))))) := perm_of fun a => by simp only [List.count_append]; omega
end
theorem nextB_call (h : CH) (c : Cz) (bm bc : Nat) (X Y C H : Heap) [hcz : CzO (X ++ (Y ++ (C ++ H))) h c] [hat : HAt (X ++ (Y ++ (C ++ H))) bc (clCh h c bm) 130] (bk bf be bp bx : Nat) (z : Pt × Pt) (hz : c.lines[0]? = some z) (h1 : c.lines.length = 1) (d : List Bd) (hd : c.opens[0]? = some d) (hok : okCz c) (b0 : Int × Int) (hgo : goV c (c.start, 0) (wayV z 0) d = some b0) [hat1 : HAt (X ++ (Y ++ (C ++ H))) be [I b0.2] 3] [hat2 : HAt (X ++ (Y ++ (C ++ H))) bp (clPl bc bk) 178] [hat3 : HAt (X ++ (Y ++ (C ++ H))) bx [.func (.func 76) #[] #[ptr bf, ptr be, ptr bp, ptr bx]] 187] (lk : List EnK) (nk : Nat) (hlk : KnK c lk) (l : List EnS) (n : Nat) (hl : KnS c l) :
    VCall Tryz.prog 76 [.slice Option.none 0 0, vRe (c.start, 0), I 1, ptr bf, ptr be, ptr bp, ptr bx].toArray (X ++ ((bf, blk [.slice Option.none 0 0] 142) :: (Y ++ (bk, mKp lk nk) :: (bm, mSt l n) :: (C ++ H)))) (fun o H' => ∃ sl lk' nk' l' n' B, H' = X ++ ((bf, blk [sl] 142) :: (Y ++ (bk, mKp lk' nk') :: (bm, mSt l' n') :: (C ++ (B ++ H)))) ∧ o = .val (.bool true) ∧ KnK c lk' ∧ KnS c l') := by
  refine VCall.conv (VCall.perm (pmY X [(bf, blk [.slice Option.none 0 0] 142)] Y [(bk, mKp lk nk), (bm, mSt l n)] (C ++ H)) (d_nextB h c bm bc (X ++ (Y ++ (C ++ H))) bk bf be bp bx z hz h1 d hd hok b0 hgo lk nk hlk l n hl)) ?_
  rintro o H' ⟨sl, lk', nk', l', n', B, e1, e2, e3, e4⟩
  subst e1
  exact ⟨_, pmZ X [(bf, blk [sl] 142)] Y [(bk, mKp lk' nk'), (bm, mSt l' n')] C B H, sl, lk', nk', l', n', B, rfl, e2, e3, e4⟩
theorem d_Best1 (h : CH) (c : Cz) (H : Heap) [hcz : CzO H h c] (z : Pt × Pt) (hz : c.lines[0]? = some z) (h1 : c.lines.length = 1) (d : List Bd) (hd : c.opens[0]? = some d) (hok : okCz c) (b0 : Int × Int) (hgo : goV c (c.start, 0) (wayV z 0) d = some b0) (hb0 : 0 ≤ b0.2) (hmin : tabE c z d 1 < 0 ∨ b0.2 ≤ tabE c z d 1) : VCall Tryz.prog 50 [vCz h c].toArray H (fun o H' => ∃ B sl, H' = B ++ H ∧ o = .val (tup [sl, I b0.2, I 0])) := by
 have ht0 := ear_go hgo
 refine CV 64 Tryz.func50 ?_
 refine KK2 ?_
 refine BX fun b1 => ?_
 refine QA ?_
 refine AL fun b2 => ?_
 refine QA ?_
 refine KK3 ?_
 refine QN ?_
 refine vone rfl (vxg (vcg (R := fun v H' => ∃ bc bm bk, v = tup [vPl bc bk, I 0] ∧ H' = (bk, mKp [] 0) :: (bm, mSt [] 0) :: (bc, blk (clCh h c bm) 130) :: (b2, blk [I (0)] 3) :: (b1, blk (clCz h c) 35) :: H) rfl rfl rfl (planOf_call h c ((b2, blk [I (0)] 3) :: (b1, blk (clCz h c) 35) :: H) hok) (fun o H' ⟨bc, bm, bk, e1, e2⟩ => ⟨_, e1, bc, bm, bk, rfl, e2⟩)) rfl rfl ?_)
 rintro _ _ ⟨bc, bm, bk, rfl, rfl⟩
 refine QM ?_
 refine QX ?_
 refine QX ?_
 refine AL fun b3 => ?_
 refine SN ?_
 refine QA ?_
 refine vnil (vseq (KK2 ?_))
 refine QM ?_
 refine QG ?_
 refine vknow (d := 18) (b' := false) rfl (by decide) ?_
 refine vnil (vcondf rfl (vskip (KK2 ?_)))
 refine QF ?_
 refine QL ?_
 refine QC ?_
 refine QF ?_
 refine QF ?_
 refine QL ?_
 refine QQ (vlen1 rfl h1) rfl ?_
 refine QQ (vshl11 rfl rfl) rfl ?_
 refine QQ (vsub rfl rfl (by unfold InR; omega)) rfl ?_
 refine AL fun b4 => ?_
 refine SU ?_
 refine KK3 ?_
 refine QN ?_
 refine vone rfl (vxg (vcg (R := fun v H' => ∃ bt lk l n nk, v = .slice (some ⟨bt, 0, Option.none⟩) 4 4 ∧ H' = (bt, blk [I (-1), I (-1), I (tabE c z d 0), I (tabE c z d 1)] 3) :: (b4, blk [I 1] 3) :: (b3, blk (clPl bc bk) 178) :: (bk, mKp lk nk) :: (bm, mSt l n) :: (bc, blk (clCh h c bm) 130) :: (b2, blk [I (0)] 3) :: (b1, blk (clCz h c) 35) :: H ∧ KnK c lk ∧ KnS c l) rfl rfl rfl (table_call h c bm bc ((bc, blk (clCh h c bm) 130) :: (b2, blk [I (0)] 3) :: (b1, blk (clCz h c) 35) :: H) bk z hz h1 d hd hok [] 0 KnK.nil [] 0 KnS.nil [(b4, blk [I 1] 3), (b3, blk (clPl bc bk) 178)]) (fun o H' ⟨bt, lk, nk, l, n, e1, e2, e3, e4⟩ => ⟨_, e2, bt, lk, l, n, nk, rfl, e1, e3, e4⟩)) rfl rfl ?_)
 rintro _ _ ⟨bt, lk, l, n, nk, rfl, rfl, hlk, hl⟩
 refine AL fun b5 => ?_
 refine SU ?_
 refine KK3 ?_
 refine SU ?_
 refine vnil (vseq (KK2 ?_))
 refine QN ?_
 refine QL ?_
 refine vone rfl (vxg (vcg (R := fun v H' => ∃ ks kp, v = .func (.func 110) #[] #[ptr kp, ptr ks] ∧ H' = (ks, blk [I ((1 : Nat) : Int)] 3) :: (kp, blk (clPl bc bk) 178) :: (b5, blk [.slice (some ⟨bt, 0, Option.none⟩) 4 4] 39) :: (bt, blk [I (-1), I (-1), I (tabE c z d 0), I (tabE c z d 1)] 3) :: (b4, blk [I 1] 3) :: (b3, blk (clPl bc bk) 178) :: (bk, mKp lk nk) :: (bm, mSt l n) :: (bc, blk (clCh h c bm) 130) :: (b2, blk [I (-1)] 3) :: (b1, blk (clCz h c) 35) :: H) rfl rfl rfl (n_shoots bc bk 1 _) (fun o H' ⟨ks, kp, e1, e2⟩ => ⟨_, e1, ks, kp, rfl, e2⟩)) rfl rfl ?_)
 rintro _ _ ⟨ks1, kp1, rfl, rfl⟩
 refine vnil (vblock ?_)
 refine vrangeM (X := XSh ((bc, blk (clCh h c bm) 130) :: H)) (xs := (shP 1 c.lines.length)) (caps := [ptr kp1, ptr ks1]) (Hi := ((ks1, blk [I ((1 : Nat) : Int)] 3) :: (kp1, blk (clPl bc bk) 178) :: (bc, blk (clCh h c bm) 130) :: H)) (Hc := ((b5, blk [.slice (some ⟨bt, 0, Option.none⟩) 4 4] 39) :: (bt, blk [I (-1), I (-1), I (tabE c z d 0), I (tabE c z d 1)] 3) :: (b4, blk [I 1] 3) :: (b3, blk (clPl bc bk) 178) :: (bk, mKp lk nk) :: (bm, mSt l n) :: (b2, blk [I (-1)] 3) :: (b1, blk (clCz h c) 35) :: [])) (ps := [34]) (fun pre H1 => H1 = (b5, blk [.slice (some ⟨bt, 0, Option.none⟩) 4 4] 39) :: (bt, blk [I (-1), I (-1), I (tabE c z d 0), I (tabE c z d 1)] 3) :: (b4, blk [I 1] 3) :: (b3, blk (clPl bc bk) 178) :: (bk, mKp lk nk) :: (bm, mSt l n) :: (b2, blk [I (endP (tabE c z d 0) pre)] 3) :: (b1, blk (clCz h c) 35) :: []) (fun _ _ => False) rfl (it_shoots h c bm bc bk 1 kp1 ks1 (by omega) (by omega) ((bc, blk (clCh h c bm) 130) :: H)) (pmW [(ks1, blk [I ((1 : Nat) : Int)] 3), (kp1, blk (clPl bc bk) 178)] [(b5, blk [.slice (some ⟨bt, 0, Option.none⟩) 4 4] 39), (bt, blk [I (-1), I (-1), I (tabE c z d 0), I (tabE c z d 1)] 3), (b4, blk [I 1] 3), (b3, blk (clPl bc bk) 178), (bk, mKp lk nk), (bm, mSt l n)] [(bc, blk (clCh h c bm) 130)] [(b2, blk [I (-1)] 3), (b1, blk (clCz h c) 35)] H) rfl (fun x vs Hx ⟨h, _⟩ => by rw [h]; rfl) rfl ?_ ?_ ?_
 ·
  intro lp rec pre x post vs Hx H1 hrs hxs hX hI
  obtain ⟨rfl, hHx⟩ := hX
  subst hHx
  obtain rfl := hI
  rw [h1, shP_1] at hxs
  refine VRun.perm (H' := (lp, Obj.loop rec) :: (b5, blk [.slice (some ⟨bt, 0, Option.none⟩) 4 4] 39) :: (bt, blk [I (-1), I (-1), I (tabE c z d 0), I (tabE c z d 1)] 3) :: (b4, blk [I 1] 3) :: (b3, blk (clPl bc bk) 178) :: (bk, mKp lk nk) :: (bm, mSt l n) :: (bc, blk (clCh h c bm) 130) :: (b2, blk [I (endP (tabE c z d 0) pre)] 3) :: (b1, blk (clCz h c) 35) :: H) (pmX [(lp, Obj.loop rec)] [(bc, blk (clCh h c bm) 130)] H [(b5, blk [.slice (some ⟨bt, 0, Option.none⟩) 4 4] 39), (bt, blk [I (-1), I (-1), I (tabE c z d 0), I (tabE c z d 1)] 3), (b4, blk [I 1] 3), (b3, blk (clPl bc bk) 178), (bk, mKp lk nk), (bm, mSt l n)] [(b2, blk [I (endP (tabE c z d 0) pre)] 3), (b1, blk (clCz h c) 35)]) ?_
  refine vregion ?_
  refine AL fun b6 => ?_
  rcases two_at hxs with ⟨rfl, rfl⟩ | ⟨rfl, rfl⟩
  ·
   refine SN ?_
   refine vnil ?_
   refine vbegin hrs ?_
   refine vblock (vseq ?_)
   refine DR [(.q, 0), (.q, 1), (.q, 2), (.q, 3), (.q, 4), (.q, 5), (.q, 6), (.q, 7)] Tryz.mixed ?_
   refine DL ?_
   refine DN ?_
   refine DL ?_
   refine DN ?_
   refine DD (vcq rfl rfl rfl (q_place1 h c bm bc _ bk _ (by omega) h1)) rfl ?_
   refine DD (vis rfl rfl (by omega)) rfl ?_
   refine DL ?_
   refine DA ?_
   refine vdend rfl (KK2 ?_)
   refine QM ?_
   refine QQ (vgeq rfl rfl) rfl ?_
   refine QM ?_
   refine vsplitd (d := 44) rfl (fun h44 => ?_) (fun h44 => ?_)
   ·
    refine YL ?_
    refine YS ?_
    refine YM ?_
    refine vsplitd (d := 47) rfl (fun h47 => ?_) (fun h47 => ?_)
    ·
     refine NO ?_
     refine NO ?_
     refine NO ?_
     refine YT ?_
     refine QT ?_
     refine vnil (vcondt rfl (vregion ?_))
     refine QM ?_
     refine SU ?_
     refine vnil (vinblock ?_)
     (refine VRun.sub (H' := (lp, Obj.loop (bsy rec)) :: (b5, blk [.slice (some ⟨bt, 0, Option.none⟩) 4 4] 39) :: (bt, blk [I (-1), I (-1), I (tabE c z d 0), I (tabE c z d 1)] 3) :: (b4, blk [I 1] 3) :: (b3, blk (clPl bc bk) 178) :: (bk, mKp lk nk) :: (bm, mSt l n) :: (bc, blk (clCh h c bm) 130) :: (b2, blk [I (endP (tabE c z d 0) ([] ++ [((0 : Nat), (0 : Int))]))] 3) :: (b1, blk (clCz h c) 35) :: H) sb2 ?_; refine VRun.perm (H' := (lp, Obj.loop (bsy rec)) :: (((bc, blk (clCh h c bm) 130) :: H) ++ ((b5, blk [.slice (some ⟨bt, 0, Option.none⟩) 4 4] 39) :: (bt, blk [I (-1), I (-1), I (tabE c z d 0), I (tabE c z d 1)] 3) :: (b4, blk [I 1] 3) :: (b3, blk (clPl bc bk) 178) :: (bk, mKp lk nk) :: (bm, mSt l n) :: (b2, blk [I (endP (tabE c z d 0) ([] ++ [((0 : Nat), (0 : Int))]))] 3) :: (b1, blk (clCz h c) 35) :: []))) (pmX [(lp, Obj.loop (bsy rec))] [(bc, blk (clCh h c bm) 130)] H [(b5, blk [.slice (some ⟨bt, 0, Option.none⟩) 4 4] 39), (bt, blk [I (-1), I (-1), I (tabE c z d 0), I (tabE c z d 1)] 3), (b4, blk [I 1] 3), (b3, blk (clPl bc bk) 178), (bk, mKp lk nk), (bm, mSt l n)] [(b2, blk [I (endP (tabE c z d 0) ([] ++ [((0 : Nat), (0 : Int))]))] 3), (b1, blk (clCz h c) 35)]).symm ?_; refine vroundI_end (.refl _) ?_; exact ⟨_, rfl, rfl⟩)
    ·
     refine YM ?_
     refine YL ?_
     refine YS ?_
     refine YU ?_
     refine QT ?_
     refine vnil ?_
     refine vcondd rfl (fun h52 => ?_) (fun h52 => ?_)
     ·
      refine vregion ?_
      refine QM ?_
      refine SU ?_
      refine vnil (vinblock ?_)
      (exfalso; have ee0 : endP (tabE c z d 0) [] = -1 := rfl; have ee1 : endP (tabE c z d 0) [((0 : Nat), (0 : Int))] = tabE c z d 0 := rfl; omega)
     ·
      refine vskip (vinblock ?_)
      (exfalso; have ee0 : endP (tabE c z d 0) [] = -1 := rfl; have ee1 : endP (tabE c z d 0) [((0 : Nat), (0 : Int))] = tabE c z d 0 := rfl; omega)
   ·
    refine NO ?_
    refine NO ?_
    refine NO ?_
    refine vnou rfl rfl rfl rfl rfl ?_
    refine vnou rfl rfl rfl rfl rfl ?_
    refine vnou rfl rfl rfl rfl rfl ?_
    refine NO ?_
    refine QU ?_
    refine vnil (vcondf rfl (vskip (vinblock ?_)))
    (exfalso; have ee0 : endP (tabE c z d 0) [] = -1 := rfl; have ee1 : endP (tabE c z d 0) [((0 : Nat), (0 : Int))] = tabE c z d 0 := rfl; omega)
  ·
   refine SN ?_
   refine vnil ?_
   refine vbegin hrs ?_
   refine vblock (vseq ?_)
   refine DR [(.q, 0), (.q, 1), (.q, 2), (.q, 3), (.q, 4), (.q, 5), (.q, 6), (.q, 7)] Tryz.mixed ?_
   refine DL ?_
   refine DN ?_
   refine DL ?_
   refine DN ?_
   refine DD (vcq rfl rfl rfl (q_place1 h c bm bc _ bk _ (by omega) h1)) rfl ?_
   refine DD (vis rfl rfl (by omega)) rfl ?_
   refine DL ?_
   refine DA ?_
   refine vdend rfl (KK2 ?_)
   refine QM ?_
   refine QQ (vgeq rfl rfl) rfl ?_
   refine QM ?_
   refine vsplitd (d := 44) rfl (fun h44 => ?_) (fun h44 => ?_)
   ·
    refine YL ?_
    refine YS ?_
    refine YM ?_
    refine vsplitd (d := 47) rfl (fun h47 => ?_) (fun h47 => ?_)
    ·
     refine NO ?_
     refine NO ?_
     refine NO ?_
     refine YT ?_
     refine QT ?_
     refine vnil (vcondt rfl (vregion ?_))
     refine QM ?_
     refine SU ?_
     refine vnil (vinblock ?_)
     (exfalso; have ee0 : endP (tabE c z d 0) [] = -1 := rfl; have ee1 : endP (tabE c z d 0) [((0 : Nat), (0 : Int))] = tabE c z d 0 := rfl; omega)
    ·
     refine YM ?_
     refine YL ?_
     refine YS ?_
     refine YU ?_
     refine QT ?_
     refine vnil ?_
     refine vcondd rfl (fun h52 => ?_) (fun h52 => ?_)
     ·
      refine vregion ?_
      refine QM ?_
      refine SU ?_
      refine vnil (vinblock ?_)
      (exfalso; have ee0 : endP (tabE c z d 0) [] = -1 := rfl; have ee1 : endP (tabE c z d 0) [((0 : Nat), (0 : Int))] = tabE c z d 0 := rfl; omega)
     ·
      refine vskip (vinblock ?_)
      (refine VRun.sub (H' := (lp, Obj.loop (bsy rec)) :: (b5, blk [.slice (some ⟨bt, 0, Option.none⟩) 4 4] 39) :: (bt, blk [I (-1), I (-1), I (tabE c z d 0), I (tabE c z d 1)] 3) :: (b4, blk [I 1] 3) :: (b3, blk (clPl bc bk) 178) :: (bk, mKp lk nk) :: (bm, mSt l n) :: (bc, blk (clCh h c bm) 130) :: (b2, blk [I (endP (tabE c z d 0) ([((0 : Nat), (0 : Int))] ++ [((0 : Nat), (1 : Int))]))] 3) :: (b1, blk (clCz h c) 35) :: H) sb2 ?_; refine VRun.perm (H' := (lp, Obj.loop (bsy rec)) :: (((bc, blk (clCh h c bm) 130) :: H) ++ ((b5, blk [.slice (some ⟨bt, 0, Option.none⟩) 4 4] 39) :: (bt, blk [I (-1), I (-1), I (tabE c z d 0), I (tabE c z d 1)] 3) :: (b4, blk [I 1] 3) :: (b3, blk (clPl bc bk) 178) :: (bk, mKp lk nk) :: (bm, mSt l n) :: (b2, blk [I (endP (tabE c z d 0) ([((0 : Nat), (0 : Int))] ++ [((0 : Nat), (1 : Int))]))] 3) :: (b1, blk (clCz h c) 35) :: []))) (pmX [(lp, Obj.loop (bsy rec))] [(bc, blk (clCh h c bm) 130)] H [(b5, blk [.slice (some ⟨bt, 0, Option.none⟩) 4 4] 39), (bt, blk [I (-1), I (-1), I (tabE c z d 0), I (tabE c z d 1)] 3), (b4, blk [I 1] 3), (b3, blk (clPl bc bk) 178), (bk, mKp lk nk), (bm, mSt l n)] [(b2, blk [I (endP (tabE c z d 0) ([((0 : Nat), (0 : Int))] ++ [((0 : Nat), (1 : Int))]))] 3), (b1, blk (clCz h c) 35)]).symm ?_; refine vroundI_end (.refl _) ?_; exact ⟨_, rfl, rfl⟩)
   ·
    refine NO ?_
    refine NO ?_
    refine NO ?_
    refine vnou rfl rfl rfl rfl rfl ?_
    refine vnou rfl rfl rfl rfl rfl ?_
    refine vnou rfl rfl rfl rfl rfl ?_
    refine NO ?_
    refine QU ?_
    refine vnil (vcondf rfl (vskip (vinblock ?_)))
    (refine VRun.sub (H' := (lp, Obj.loop (bsy rec)) :: (b5, blk [.slice (some ⟨bt, 0, Option.none⟩) 4 4] 39) :: (bt, blk [I (-1), I (-1), I (tabE c z d 0), I (tabE c z d 1)] 3) :: (b4, blk [I 1] 3) :: (b3, blk (clPl bc bk) 178) :: (bk, mKp lk nk) :: (bm, mSt l n) :: (bc, blk (clCh h c bm) 130) :: (b2, blk [I (endP (tabE c z d 0) ([((0 : Nat), (0 : Int))] ++ [((0 : Nat), (1 : Int))]))] 3) :: (b1, blk (clCz h c) 35) :: H) sb2 ?_; refine VRun.perm (H' := (lp, Obj.loop (bsy rec)) :: (((bc, blk (clCh h c bm) 130) :: H) ++ ((b5, blk [.slice (some ⟨bt, 0, Option.none⟩) 4 4] 39) :: (bt, blk [I (-1), I (-1), I (tabE c z d 0), I (tabE c z d 1)] 3) :: (b4, blk [I 1] 3) :: (b3, blk (clPl bc bk) 178) :: (bk, mKp lk nk) :: (bm, mSt l n) :: (b2, blk [I (endP (tabE c z d 0) ([((0 : Nat), (0 : Int))] ++ [((0 : Nat), (1 : Int))]))] 3) :: (b1, blk (clCz h c) 35) :: []))) (pmX [(lp, Obj.loop (bsy rec))] [(bc, blk (clCh h c bm) 130)] H [(b5, blk [.slice (some ⟨bt, 0, Option.none⟩) 4 4] 39), (bt, blk [I (-1), I (-1), I (tabE c z d 0), I (tabE c z d 1)] 3), (b4, blk [I 1] 3), (b3, blk (clPl bc bk) 178), (bk, mKp lk nk), (bm, mSt l n)] [(b2, blk [I (endP (tabE c z d 0) ([((0 : Nat), (0 : Int))] ++ [((0 : Nat), (1 : Int))]))] 3), (b1, blk (clCz h c) 35)]).symm ?_; refine vroundI_end (.refl _) ?_; exact ⟨_, rfl, rfl⟩)
 ·
  intro r1 H1 hI
  rw [h1, shP_1] at hI
  obtain rfl := hI
  refine VRun.perm (H' := (r1, .deferred (some [])) :: (ks1, blk [I ((1 : Nat) : Int)] 3) :: (kp1, blk (clPl bc bk) 178) :: (b5, blk [.slice (some ⟨bt, 0, Option.none⟩) 4 4] 39) :: (bt, blk [I (-1), I (-1), I (tabE c z d 0), I (tabE c z d 1)] 3) :: (b4, blk [I 1] 3) :: (b3, blk (clPl bc bk) 178) :: (bk, mKp lk nk) :: (bm, mSt l n) :: (bc, blk (clCh h c bm) 130) :: (b2, blk [I (tabE c z d 0)] 3) :: (b1, blk (clCz h c) 35) :: H) ((pmW [(ks1, blk [I ((1 : Nat) : Int)] 3), (kp1, blk (clPl bc bk) 178)] [(b5, blk [.slice (some ⟨bt, 0, Option.none⟩) 4 4] 39), (bt, blk [I (-1), I (-1), I (tabE c z d 0), I (tabE c z d 1)] 3), (b4, blk [I 1] 3), (b3, blk (clPl bc bk) 178), (bk, mKp lk nk), (bm, mSt l n)] [(bc, blk (clCh h c bm) 130)] [(b2, blk [I (tabE c z d 0)] 3), (b1, blk (clCz h c) 35)] H).symm.cons _) ?_
  rw [ht0]
  refine vinblock (vseq (KK2 ?_))
  refine QL ?_
  refine QS ?_
  refine vknow (d := 55) (b' := false) rfl (decide_eq_false (by omega)) ?_
  refine vnil (vcondf rfl (vskip (KK2 ?_)))
  refine AL fun b7 => ?_
  refine KK3 ?_
  refine AL fun b8 => ?_
  refine KK3 ?_
  refine QQ (vmf rfl) rfl ?_
  refine SU ?_
  refine vnil (vseq ?_)
  refine DR [(.q, 0), (.q, 1), (.q, 2), (.q, 3), (.w, 4)] Tryz.mixed ?_
  refine DL ?_
  refine DN ?_
  refine DD (vcq rfl rfl rfl (q_start h c bm bc _ bk)) rfl ?_
  refine DL ?_
  refine vdw rfl (mone rfl) (vcg (R := fun v H' => ∃ sl lk2 nk2 l2 n2 B, v = .bool true ∧ H' = (b8, blk [.func (.func 76) #[] #[ptr b7, ptr b2, ptr b3, ptr b8]] 187) :: (b7, blk [sl] 142) :: (r1, .deferred (some [])) :: (ks1, blk [I ((1 : Nat) : Int)] 3) :: (kp1, blk (clPl bc bk) 178) :: (b5, blk [.slice (some ⟨bt, 0, Option.none⟩) 4 4] 39) :: (bt, blk [I (-1), I (-1), I (b0.2), I (tabE c z d 1)] 3) :: (b4, blk [I 1] 3) :: (b3, blk (clPl bc bk) 178) :: (bk, mKp lk2 nk2) :: (bm, mSt l2 n2) :: (bc, blk (clCh h c bm) 130) :: (b2, blk [I (b0.2)] 3) :: (b1, blk (clCz h c) 35) :: (B ++ H)) rfl rfl rfl (nextB_call h c bm bc [(b8, blk [.func (.func 76) #[] #[ptr b7, ptr b2, ptr b3, ptr b8]] 187)] [(r1, .deferred (some [])), (ks1, blk [I ((1 : Nat) : Int)] 3), (kp1, blk (clPl bc bk) 178), (b5, blk [.slice (some ⟨bt, 0, Option.none⟩) 4 4] 39), (bt, blk [I (-1), I (-1), I (b0.2), I (tabE c z d 1)] 3), (b4, blk [I 1] 3), (b3, blk (clPl bc bk) 178)] [(bc, blk (clCh h c bm) 130), (b2, blk [I (b0.2)] 3), (b1, blk (clCz h c) 35)] H bk b7 b2 b3 b8 z hz h1 d hd hok b0 hgo lk nk hlk l n hl) (fun o H' ⟨sl, lk2, nk2, l2, n2, B, e1, e2, _, _⟩ => ⟨_, e2, sl, lk2, nk2, l2, n2, B, rfl, e1⟩)) rfl rfl ?_
  rintro _ _ ⟨sl, lk2, nk2, l2, n2, B, rfl, rfl⟩
  refine vdend rfl (vseq ?_)
  refine DR [(.q, 0), (.q, 1), (.q, 2), (.q, 3), (.q, 4)] Tryz.mixed ?_
  refine DL ?_
  refine DL ?_
  refine DA ?_
  refine vdqn (mone rfl) (vst1s rfl rfl rfl rfl) rfl ?_
  refine DA ?_
  refine vdend rfl ?_
  refine vret (vret_mark (vr3 (H' := B ++ H) Tryz.func50 rfl (.tmp rfl) (.cell1 rfl rfl) (.tmp rfl) sb2 ?_))
  exact ⟨B, sl, rfl, rfl⟩
 ·
  intro r1 c H1 hI
  exact hI.elim
end Go.Proofs.YtmfmecgiaekelaaGreatDoor
namespace Go.Proofs.YtmfmecgiaekelaaGreatDoor
open Go
set_option maxRecDepth 100000
attribute [local irreducible] tightP hullP rootP farP rows endsOf
theorem c_twithin (n a b : Int) : VPure Tryz.prog 123 [I n, I a, I b] (.bool (decide (a ≤ n ∧ n ≤ b))) := by
 intro H
 refine CV 15 Tryz.func123 ?_
 refine KK2 ?_
 refine QA ?_
 refine KK3 ?_
 refine QM ?_
 refine QM ?_
 refine QQ (vgeq rfl rfl) rfl ?_
 refine QM ?_
 refine vsplitd (d := 10) rfl (fun h10 => ?_) (fun h10 => ?_)
 ·
  refine YM ?_
  refine YM ?_
  refine YY (vleq rfl rfl) rfl ?_
  refine QT ?_
  refine QA ?_
  refine vnil ?_
  refine vret (V1 (H) Tryz.func123 ?_)
  exact ⟨obd (by omega), rfl⟩
 ·
  refine NO ?_
  refine NO ?_
  refine NO ?_
  refine QU ?_
  refine QA ?_
  refine vnil ?_
  refine vret (V1 (H) Tryz.func123 ?_)
  exact ⟨obf (by omega), rfl⟩
theorem c_tbound (b : Bd) (m : Int) (hm : -1000000 ≤ m ∧ m ≤ 1000000) : VPure Tryz.prog 124 [.agg #[I b.lo, I b.hi], I m] (.bool (decide ((-m ≤ b.lo ∧ b.lo ≤ b.hi) ∧ b.hi ≤ m))) := by
 intro H
 refine CV 18 Tryz.func124 ?_
 refine KK2 ?_
 refine BX fun b1 => ?_
 refine QA ?_
 refine KK3 ?_
 refine QF ?_
 refine QL ?_
 refine QM ?_
 refine QQ (vneg rfl (by unfold InR; omega)) rfl ?_
 refine QF ?_
 refine QL ?_
 refine QQ (vcp rfl rfl rfl (c_twithin _ _ _)) rfl ?_
 refine QM ?_
 refine vsplitd (d := 12) rfl (fun h12 => ?_) (fun h12 => ?_)
 ·
  refine YF ?_
  refine YL ?_
  refine YM ?_
  refine YY (vleq rfl rfl) rfl ?_
  refine QT ?_
  refine QA ?_
  refine vnil ?_
  refine vret (V1 (H) Tryz.func124 ?_)
  exact ⟨obd (by omega), rfl⟩
 ·
  refine NO ?_
  refine NO ?_
  refine NO ?_
  refine NO ?_
  refine QU ?_
  refine QA ?_
  refine vnil ?_
  refine vret (V1 (H) Tryz.func124 ?_)
  exact ⟨obf (by omega), rfl⟩
theorem c_tdown (n : Int) (hn : 0 ≤ n ∧ n ≤ 1000000000) : VPure Tryz.prog 126 [I n] (I (n / 64)) := by
 have e1 : n.tdiv 64 = n / 64 := Int.tdiv_eq_ediv_of_nonneg hn.1
 have e2 : n.tmod 64 = n % 64 := Int.tmod_eq_emod_of_nonneg hn.1
 intro H
 refine CV 12 Tryz.func126 ?_
 refine KK2 ?_
 refine QA ?_
 refine KK3 ?_
 refine QM ?_
 refine QQ (vquo rfl rfl (by omega) (by unfold InR; omega)) rfl ?_
 refine QA ?_
 refine vnil (vseq (KK2 ?_))
 refine QM ?_
 refine QQ (vrem rfl rfl (by omega)) rfl ?_
 refine QS ?_
 refine vnil ?_
 refine vcondd rfl (fun h8 => ?_) (fun h8 => ?_)
 ·
  refine vregion ?_
  refine QM ?_
  refine QQ (vsub rfl rfl (by unfold InR; omega)) rfl ?_
  refine QA ?_
  refine KK3 ?_
  refine QM ?_
  refine QA ?_
  refine vnil ?_
  refine vret (V1 (H) Tryz.func126 ?_)
  (exfalso; omega)
 ·
  refine vskip (KK2 ?_)
  refine QM ?_
  refine QA ?_
  refine vnil ?_
  refine vret (V1 (H) Tryz.func126 ?_)
  exact ⟨oI e1, rfl⟩
theorem q_numbers1 (n m : Int) (b : Nat) (hm : 0 ≤ m ∧ m ≤ 1000000) (H : Heap) [hat : HAt H b [I m] 3] : VHas Tryz.prog 125 [I n, ptr b] (.bool (!decide (-m ≤ n ∧ n ≤ m))) H H := by
 refine CV 10 Tryz.func125 ?_
 refine KK2 ?_
 refine QA ?_
 refine KK3 ?_
 refine QM ?_
 refine QL ?_
 refine QQ (vneg rfl (by unfold InR; omega)) rfl ?_
 refine QL ?_
 refine QQ (vcp rfl rfl rfl (c_twithin _ _ _)) rfl ?_
 refine QQ (vnot rfl) rfl ?_
 refine QA ?_
 refine vnil ?_
 refine vret (V1 (H) Tryz.func125 ?_)
 exact ⟨rfl, rfl⟩
end Go.Proofs.YtmfmecgiaekelaaGreatDoor
namespace Go.Proofs.YtmfmecgiaekelaaGreatDoor
open Go
set_option maxRecDepth 100000
attribute [local irreducible] tightP hullP rootP farP rows endsOf
structure Str where
  head : Int
  oa : Option Addr
  cp : Nat
  ss : List (Int × Int × Int × Int × Int)
  lo : Int
  hi : Int
  dr : Int
abbrev encS5 (x : Int × Int × Int × Int × Int) : List Value := [I x.1, I x.2.1, I x.2.2.1, I x.2.2.2.1, I x.2.2.2.2]
abbrev clStr (s : Str) : List Value := [I s.head, .slice s.oa s.ss.length s.cp, I s.lo, I s.hi, I s.dr]
abbrev vStr (s : Str) : Value := .agg (clStr s).toArray
theorem q_numbers (s : Str) (l : List Int) (oa : Option Addr) (c : Nat) (m : Int) (hm : 0 ≤ m ∧ m ≤ 1000000) (hn : l.length = s.ss.length) (hl : l.length ≤ 100000) (hall : l.any (fun n => !decide (-m ≤ n ∧ n ≤ m)) = false) (H : Heap) [hsl : SlO H oa 1 encI l] : VHas Tryz.prog 84 [vStr s, .slice oa l.length c, I m] (.bool true) (H) (H) := by
 refine CV 20 Tryz.func84 ?_
 refine KK2 ?_
 refine BX fun b1 => ?_
 refine BX fun b2 => ?_
 refine QA ?_
 refine KK3 ?_
 refine QM ?_
 refine QQ (vlen rfl) rfl ?_
 refine QF ?_
 refine QF ?_
 refine QL ?_
 refine QQ (vlen rfl) rfl ?_
 refine QE ?_
 refine vknow (d := 13) (b' := true) rfl (decide_eq_true (by rw [hn])) ?_
 refine QM ?_
 refine YM ?_
 refine YY (vmf rfl) rfl ?_
 refine YY (vcq rfl rfl rfl (q_ContainsI 125 [ptr b2] (fun n => !decide (-m ≤ n ∧ n ≤ m)) l _ _ _ rfl (by omega) _ (fun n _ => q_numbers1 n m b2 hm _))) rfl ?_
 refine vknow (d := 17) (b' := false) rfl hall ?_
 refine YY (vnot rfl) rfl ?_
 refine QT ?_
 refine QA ?_
 refine vnil ?_
 refine vret (V1 (H) Tryz.func84 ?_)
 exact ⟨rfl, rfl⟩
end Go.Proofs.YtmfmecgiaekelaaGreatDoor
namespace Go.Proofs.YtmfmecgiaekelaaGreatDoor
open Go
set_option maxRecDepth 100000
attribute [local irreducible] tightP hullP rootP farP rows endsOf
abbrev sec0 : Int × Int × Int × Int × Int := (9, 64, 0, 0, 0)
abbrev clS0 (oa : Option Addr) (cp : Nat) : List Value := [I 3, .slice oa 1 cp, I (-9), I 9, I 0]
abbrev vS0 (oa : Option Addr) (cp : Nat) : Value := .agg (clS0 oa cp).toArray
theorem s0_at : [sec0][0]? = some sec0 := rfl
theorem i0_at (n : Int) : [n][0]? = some n := rfl
theorem q_eased0 (oa : Option Addr) (cp : Nat) (H : Heap) [hs0 : SlO H oa 5 encS5 [sec0]] : VHas Tryz.prog 87 [vS0 oa cp, I 0, I 0, I 3, I 2] (I 5) H H := by
 refine CV 65 Tryz.func87 ?_
 refine KK2 ?_
 refine BX fun b1 => ?_
 refine QA ?_
 refine KK3 ?_
 refine QF ?_
 refine QF ?_
 refine QL ?_
 refine QM ?_
 refine QQ (visg (enc := encS5) (z := sec0) rfl rfl (by omega) s0_at) rfl ?_
 refine QQ (vldS (enc := encS5) (z := sec0) rfl s0_at) rfl ?_
 refine AL fun b2 => ?_
 refine SN ?_
 refine KK3 ?_
 refine QF ?_
 refine QL ?_
 refine QQ (vsub rfl rfl (by unfold InR; decide)) rfl ?_
 refine QM ?_
 refine QQ (vmul rfl rfl (by unfold InR; decide)) rfl ?_
 refine QF ?_
 refine QL ?_
 refine QM ?_
 refine QQ (vmul rfl rfl (by unfold InR; decide)) rfl ?_
 refine QQ (vadd rfl rfl (by unfold InR; decide)) rfl ?_
 refine QQ (vcp rfl rfl rfl (c_tdown _ (by decide))) rfl ?_
 refine QM ?_
 refine QQ (vadd rfl rfl (by unfold InR; decide)) rfl ?_
 refine QA ?_
 refine vnil (vseq (KK2 ?_))
 refine QM ?_
 refine QF ?_
 refine QF ?_
 refine QF ?_
 refine QL ?_
 refine QQ (vgtr rfl rfl) rfl ?_
 refine vknow (d := 37) (b' := false) rfl (by decide) ?_
 refine vnil (vcondf rfl (KK2 ?_))
 refine QM ?_
 refine QF ?_
 refine QF ?_
 refine QF ?_
 refine QL ?_
 refine QS ?_
 refine vknow (d := 52) (b' := false) rfl (by decide) ?_
 refine vnil (vcondf rfl (vskip (KK2 ?_)))
 refine QM ?_
 refine QQ (vmin2 rfl rfl) rfl ?_
 refine QQ (vmax2 rfl rfl) rfl ?_
 refine QA ?_
 refine vnil ?_
 refine vret (V1 (H) Tryz.func87 ?_)
 exact ⟨oI (by decide), rfl⟩
theorem q_Step1 (oa od : Option Addr) (cp cd bl bd : Nat) (H : Heap) [hs0 : SlO H oa 5 encS5 [sec0]] [hl0 : HAt H bl (clS0 oa cp) 204] [hd0 : HAt H bd [.slice od 1 cd] 39] [hs2 : SlO H od 1 encI [2]] : VHas Tryz.prog 86 [I 0, I 0, I 3, ptr bl, ptr bd] (I 5) H H := by
 refine CV 18 Tryz.func86 ?_
 refine KK2 ?_
 refine QA ?_
 refine vnil (vseq ?_)
 refine DR [(.q, 0), (.q, 1), (.q, 2), (.q, 3), (.q, 4), (.q, 5), (.q, 6), (.q, 7), (.q, 8), (.q, 9)] Tryz.mixed ?_
 refine DN ?_
 refine DM ?_
 refine DM ?_
 refine DM ?_
 refine DL ?_
 refine DM ?_
 refine DD (visg (enc := encI) (z := 2) rfl rfl (by omega) (i0_at 2)) rfl ?_
 refine DD (vldS1 (enc := encI) (z := 2) rfl (i0_at 2) rfl) rfl ?_
 refine DD (vcq rfl rfl rfl (q_eased0 oa cp _)) rfl ?_
 refine DA ?_
 refine vdend rfl ?_
 refine vret (V1 (H) Tryz.func86 ?_)
 exact ⟨rfl, rfl⟩
theorem d_each0 (oa od ol : Option Addr) (cp cd cl bl bd : Nat) (H : Heap) [hs0 : SlO H oa 5 encS5 [sec0]] [hl0 : HAt H bl (clS0 oa cp) 204] [hd0 : HAt H bd [.slice od 1 cd] 39] [hs2 : SlO H od 1 encI [2]] [hs3 : SlO H ol 1 encI [0]] : VCall Tryz.prog 85 [.slice ol 1 cl, I 3, .func (.func 86) #[] #[ptr bl, ptr bd]].toArray H (fun o H' => ∃ b, o = .val (.slice (some ⟨b, 0, Option.none⟩) 1 1) ∧ H' = (b, blk [I 5] 3) :: H) := by
 refine CV 33 Tryz.func85 ?_
 refine KK2 ?_
 refine QA ?_
 refine KK3 ?_
 refine QM ?_
 refine QQ (vlen1 rfl rfl) rfl ?_
 refine vone rfl (vxg (vmksN (n := 1) (esz := 1) (by_ := 8) (zs := [.int .i64 0]) rfl rfl rfl (by decide) (by decide) (by decide)) rfl rfl ?_)
 rintro _ _ ⟨b1, rfl, rfl⟩
 refine QA ?_
 refine KK3 ?_
 refine QM ?_
 refine QA ?_
 refine vnil (vseq (KK2 ?_))
 refine QM ?_
 refine QQ (vlen1 rfl rfl) rfl ?_
 refine QM ?_
 refine vnil (vblock ?_)
 refine vloop1 ?_
 refine KK2 ?_
 refine QS ?_
 refine vnil (vseq (vcondt rfl (vskip (vseq (vblock (KK2 ?_))))))
 refine QM ?_
 refine QQ (visg (enc := encI) (z := 0) rfl rfl (by omega) (i0_at 0)) rfl ?_
 refine QQ (vldS1 (enc := encI) (z := 0) rfl (i0_at 0) rfl) rfl ?_
 refine QA ?_
 refine QA ?_
 refine KK3 ?_
 refine QM ?_
 refine QM ?_
 refine QM ?_
 refine QM ?_
 refine QM ?_
 refine QM ?_
 refine QQ (vcq rfl rfl rfl (q_Step1 oa od cp cd bl bd _)) rfl ?_
 refine QQ (vis rfl rfl (by omega)) rfl ?_
 refine SU ?_
 refine vnil (vregion ?_)
 refine QM ?_
 refine QA ?_
 refine vnil (vinblock (vregion ?_))
 refine QQ (vadd rfl rfl (by unfold InR; omega)) rfl ?_
 refine QM ?_
 refine vnil ?_
 refine vinloop1 ?_
 refine KK2 ?_
 refine QS ?_
 refine vnil (vseq (vcondf rfl ?_))
 refine vexit (k' := _) rfl ?_
 refine KK2 ?_
 refine QM ?_
 refine QA ?_
 refine vnil ?_
 refine vret (V1 ((b1, blk [I 5] 3) :: H) Tryz.func85 ?_)
 exact ⟨b1, rfl, rfl⟩
end Go.Proofs.YtmfmecgiaekelaaGreatDoor
namespace Go.Proofs.YtmfmecgiaekelaaGreatDoor
open Go
set_option maxRecDepth 100000
attribute [local irreducible] tightP hullP rootP farP rows endsOf
theorem q_Check0 (oa : Option Addr) (cp : Nat) (H : Heap) [hs0 : SlO H oa 5 encS5 [sec0]] : VHas Tryz.prog 83 [vS0 oa cp] (I 0) H H := by
 refine CV 64 Tryz.func83 ?_
 refine KK2 ?_
 refine BX fun b1 => ?_
 refine QA ?_
 refine vnil (vseq (KK2 ?_))
 refine QF ?_
 refine QL ?_
 refine QQ (vcp rfl rfl rfl (c_twithin _ _ _)) rfl ?_
 refine QQ (vnotd rfl) rfl ?_
 refine QM ?_
 refine vknow (d := 9) (b' := false) rfl (by decide) ?_
 refine YF ?_
 refine YL ?_
 refine YY (vlen1 rfl rfl) rfl ?_
 refine YY (vcp rfl rfl rfl (c_twithin _ _ _)) rfl ?_
 refine YY (vnotd rfl) rfl ?_
 refine QU ?_
 refine QM ?_
 refine vknow (d := 16) (b' := false) rfl (by decide) ?_
 refine YF ?_
 refine YN ?_
 refine YY (vcp rfl rfl rfl (c_tbound ⟨-9, 9⟩ 4000 (by decide))) rfl ?_
 refine YY (vnotd rfl) rfl ?_
 refine QU ?_
 refine QM ?_
 refine vknow (d := 22) (b' := false) rfl (by decide) ?_
 refine YF ?_
 refine YL ?_
 refine YY (vcp rfl rfl rfl (c_twithin _ _ _)) rfl ?_
 refine YY (vnotd rfl) rfl ?_
 refine QU ?_
 refine vknow (d := 27) (b' := false) rfl (by decide) ?_
 refine vnil (vcondf rfl (vskip (vseq (KK2 ?_))))
 refine QF ?_
 refine QL ?_
 refine QQ (vlen1 rfl rfl) rfl ?_
 refine QM ?_
 refine vnil (vblock ?_)
 refine vloop1 ?_
 refine KK2 ?_
 refine QS ?_
 refine vnil (vseq (vcondt rfl (vskip (vseq (vblock (KK2 ?_))))))
 refine QQ (visg (enc := encS5) (z := sec0) rfl rfl (by omega) s0_at) rfl ?_
 refine QQ (vldS (enc := encS5) (z := sec0) rfl s0_at) rfl ?_
 refine AL fun b2 => ?_
 refine SN ?_
 refine KK3 ?_
 refine QF ?_
 refine QL ?_
 refine QQ (vcp rfl rfl rfl (c_twithin _ _ _)) rfl ?_
 refine QQ (vnotd rfl) rfl ?_
 refine QM ?_
 refine vknow (d := 39) (b' := false) rfl (by decide) ?_
 refine YF ?_
 refine YL ?_
 refine YY (vcp rfl rfl rfl (c_twithin _ _ _)) rfl ?_
 refine YY (vnotd rfl) rfl ?_
 refine QU ?_
 refine QM ?_
 refine vknow (d := 45) (b' := false) rfl (by decide) ?_
 refine YF ?_
 refine YL ?_
 refine YY (vcp rfl rfl rfl (c_twithin _ _ _)) rfl ?_
 refine YY (vnotd rfl) rfl ?_
 refine QU ?_
 refine QM ?_
 refine vknow (d := 51) (b' := false) rfl (by decide) ?_
 refine YF ?_
 refine YL ?_
 refine YY (vcp rfl rfl rfl (c_twithin _ _ _)) rfl ?_
 refine YY (vnotd rfl) rfl ?_
 refine QU ?_
 refine QM ?_
 refine vknow (d := 57) (b' := false) rfl (by decide) ?_
 refine YF ?_
 refine YL ?_
 refine YY (vcp rfl rfl rfl (c_twithin _ _ _)) rfl ?_
 refine YY (vnotd rfl) rfl ?_
 refine QU ?_
 refine vknow (d := 62) (b' := false) rfl (by decide) ?_
 refine vnil (vcondf rfl (vskip (vinblock (vregion ?_))))
 refine QQ (vadd rfl rfl (by unfold InR; omega)) rfl ?_
 refine QM ?_
 refine vnil ?_
 refine vinloop1 ?_
 refine KK2 ?_
 refine QS ?_
 refine vnil (vseq (vcondf rfl ?_))
 refine vexit (k' := _) rfl ?_
 refine KK2 ?_
 refine QA ?_
 refine vnil ?_
 refine vret (V1 (H) Tryz.func83 ?_)
 exact ⟨rfl, rfl⟩
theorem d_tow0 (oa od ol : Option Addr) (cp cd cl : Nat) (H : Heap) [hs0 : SlO H oa 5 encS5 [sec0]] [hs2 : SlO H od 1 encI [2]] [hs3 : SlO H ol 1 encI [0]] : VCall Tryz.prog 52 [vS0 oa cp, .slice ol 1 cl, .slice od 1 cd].toArray H (fun o H' => ∃ b, o = .val (tup [.slice (some ⟨b, 0, Option.none⟩) 1 1, I 0]) ∧ H' = (b, blk [I 5] 3) :: H) := by
 refine CV 32 Tryz.func52 ?_
 refine KK2 ?_
 refine BX fun b1 => ?_
 refine BX fun b2 => ?_
 refine QA ?_
 refine QA ?_
 refine vnil (vseq (KK2 ?_))
 refine QN ?_
 refine QQ (vcq rfl rfl rfl (q_Check0 oa cp _)) rfl ?_
 refine QA ?_
 refine KK3 ?_
 refine QM ?_
 refine QG ?_
 refine vknow (d := 13) (b' := false) rfl (by decide) ?_
 refine vnil (vcondf rfl (vskip (KK2 ?_)))
 refine QN ?_
 refine QB ?_
 refine AL fun b3 => ?_
 refine SN ?_
 refine vnil (vseq (vblock (KK2 ?_)))
 refine QN ?_
 refine QM ?_
 refine QQ (vcq rfl rfl rfl (q_numbers ⟨3, oa, cp, [sec0], -9, 9, 0⟩ [0] ol cl 16384 (by decide) rfl (by decide) (by decide) _)) rfl ?_
 refine QQ (vnot rfl) rfl ?_
 refine QA ?_
 refine vknow (d := 17) (b' := false) rfl rfl ?_
 refine vnil (vcondf rfl (KK2 ?_))
 refine QN ?_
 refine QL ?_
 refine QQ (vcq rfl rfl rfl (q_numbers ⟨3, oa, cp, [sec0], -9, 9, 0⟩ [2] od cd 100 (by decide) rfl (by decide) (by decide) _)) rfl ?_
 refine QQ (vnot rfl) rfl ?_
 refine QA ?_
 refine vknow (d := 22) (b' := false) rfl rfl ?_
 refine vnil (vcondf rfl (vskip (vinblock (KK2 ?_))))
 refine QM ?_
 refine QF ?_
 refine QL ?_
 refine QQ (vmf rfl) rfl ?_
 refine vone rfl (vxg (vcg (R := fun v H' => ∃ b, v = .slice (some ⟨b, 0, Option.none⟩) 1 1 ∧ H' = (b, blk [I 5] 3) :: (b3, blk (clS0 oa cp) 204) :: (b2, blk [.slice od 1 cd] 39) :: (b1, blk (clS0 oa cp) 157) :: H) rfl rfl rfl (d_each0 oa od ol cp cd cl b3 b2 _) (fun o H' ⟨b, e1, e2⟩ => ⟨_, e1, b, rfl, e2⟩)) rfl rfl ?_)
 rintro _ _ ⟨b4, rfl, rfl⟩
 refine QA ?_
 refine QA ?_
 refine vnil ?_
 refine vret (vr2 (H' := (b4, blk [I 5] 3) :: H) Tryz.func52 rfl (.tmp rfl) (.tmp rfl) sb2 ?_)
 exact ⟨b4, rfl, rfl⟩
end Go.Proofs.YtmfmecgiaekelaaGreatDoor
namespace Go.Proofs.YtmfmecgiaekelaaGreatDoor
open Go
set_option maxRecDepth 100000
attribute [local irreducible] tightP hullP rootP farP rows endsOf
abbrev vF0 : Value := .agg #[I 1, I 1, I 1, I 1, I 0]
theorem c_swithin (n a b : Int) : VPure Tryz.prog 47 [I n, I a, I b] (.bool (decide (a ≤ n ∧ n ≤ b))) := by
 intro H
 refine CV 15 Tryz.func47 ?_
 refine KK2 ?_
 refine QA ?_
 refine KK3 ?_
 refine QM ?_
 refine QM ?_
 refine QQ (vgeq rfl rfl) rfl ?_
 refine QM ?_
 refine vsplitd (d := 10) rfl (fun h10 => ?_) (fun h10 => ?_)
 ·
  refine YM ?_
  refine YM ?_
  refine YY (vleq rfl rfl) rfl ?_
  refine QT ?_
  refine QA ?_
  refine vnil ?_
  refine vret (V1 (H) Tryz.func47 ?_)
  exact ⟨obd (by omega), rfl⟩
 ·
  refine NO ?_
  refine NO ?_
  refine NO ?_
  refine QU ?_
  refine QA ?_
  refine vnil ?_
  refine vret (V1 (H) Tryz.func47 ?_)
  exact ⟨obf (by omega), rfl⟩
theorem c_CheckFiring0  : VPure Tryz.prog 46 [vF0] (I 0) := by
 intro H
 refine CV 31 Tryz.func46 ?_
 refine KK2 ?_
 refine BX fun b1 => ?_
 refine QA ?_
 refine vnil (vseq (KK2 ?_))
 refine QF ?_
 refine QL ?_
 refine QQ (vcp rfl rfl rfl (c_swithin _ _ _)) rfl ?_
 refine QQ (vnotd rfl) rfl ?_
 refine QM ?_
 refine vknow (d := 7) (b' := false) rfl (by decide) ?_
 refine YF ?_
 refine YL ?_
 refine YY (vcp rfl rfl rfl (c_swithin _ _ _)) rfl ?_
 refine YY (vnotd rfl) rfl ?_
 refine QU ?_
 refine QM ?_
 refine vknow (d := 13) (b' := false) rfl (by decide) ?_
 refine YF ?_
 refine YL ?_
 refine YY (vcp rfl rfl rfl (c_swithin _ _ _)) rfl ?_
 refine YY (vnotd rfl) rfl ?_
 refine QU ?_
 refine QM ?_
 refine vknow (d := 19) (b' := false) rfl (by decide) ?_
 refine YF ?_
 refine YL ?_
 refine YY (vcp rfl rfl rfl (c_swithin _ _ _)) rfl ?_
 refine YY (vnotd rfl) rfl ?_
 refine QU ?_
 refine QM ?_
 refine vknow (d := 25) (b' := false) rfl (by decide) ?_
 refine YF ?_
 refine YL ?_
 refine YY (vcp rfl rfl rfl (c_swithin _ _ _)) rfl ?_
 refine YY (vnotd rfl) rfl ?_
 refine QU ?_
 refine vknow (d := 30) (b' := false) rfl (by decide) ?_
 refine vnil (vcondf rfl (vskip (KK2 ?_)))
 refine QA ?_
 refine vnil ?_
 refine vret (V1 (H) Tryz.func46 ?_)
 exact ⟨rfl, rfl⟩
theorem c_due0  : VPure Tryz.prog 71 [vF0, I 0] (I 1) := by
 intro H
 refine CV 12 Tryz.func71 ?_
 refine KK2 ?_
 refine BX fun b1 => ?_
 refine QA ?_
 refine KK3 ?_
 refine QF ?_
 refine QL ?_
 refine QM ?_
 refine QF ?_
 refine QL ?_
 refine QQ (vmul rfl rfl (by unfold InR; decide)) rfl ?_
 refine QQ (vadd rfl rfl (by unfold InR; decide)) rfl ?_
 refine QA ?_
 refine vnil ?_
 refine vret (V1 (H) Tryz.func71 ?_)
 exact ⟨oI (by decide), rfl⟩
end Go.Proofs.YtmfmecgiaekelaaGreatDoor
namespace Go.Proofs.YtmfmecgiaekelaaGreatDoor
open Go
set_option maxRecDepth 100000
attribute [local irreducible] tightP hullP rootP farP rows endsOf
theorem w2_0 : [(0 : Int), 2][0]? = some 0 := rfl
theorem w2_1 : [(0 : Int), 2][1]? = some 2 := rfl
theorem idx_02 {r : Int} (h : IdxR (fun n : Int => decide (n ≥ 1)) [0, 2] r) : r = 1 := by
  rcases h with ⟨_, h2⟩ | ⟨h1, z, h2, h3, h4⟩
  · exact absurd h2 (by decide)
  · have hlt := (List.getElem?_eq_some_iff.1 h2).1
    simp only [List.length_cons, List.length_nil] at hlt
    have : r = 0 ∨ r = 1 := by omega
    rcases this with rfl | rfl
    · simp at h2; subst h2; exact absurd h3 (by decide)
    · rfl
theorem q_isNaN (n : Int) (H : Heap) : VHas Tryz.prog 104 [I n] (.bool false) H H := by
 refine CV 6 Tryz.func104 ?_
 refine KK2 ?_
 refine QA ?_
 refine KK3 ?_
 refine QM ?_
 refine QM ?_
 refine QG ?_
 refine QA ?_
 refine vnil ?_
 refine vret (V1 (H) Tryz.func104 ?_)
 exact ⟨oV (by simp), rfl⟩
theorem q_cmpLess (a b : Int) (H : Heap) : VHas Tryz.prog 69 [I a, I b] (.bool (decide (a < b))) H H := by
 refine CV 17 Tryz.func69 ?_
 refine KK2 ?_
 refine QA ?_
 refine KK3 ?_
 refine QM ?_
 refine QQ (vcq rfl rfl rfl (q_isNaN a _)) rfl ?_
 refine QM ?_
 refine vknow (d := 7) (b' := false) rfl rfl ?_
 refine NO ?_
 refine NO ?_
 refine NO ?_
 refine QU ?_
 refine QM ?_
 refine vknow (d := 12) (b' := false) rfl rfl ?_
 refine YM ?_
 refine YM ?_
 refine YS ?_
 refine QU ?_
 refine QA ?_
 refine vnil ?_
 refine vret (V1 (H) Tryz.func69 ?_)
 exact ⟨rfl, rfl⟩
theorem q_reached1 (n m : Int) (b : Nat) (H : Heap) [hat : HAt H b [I m] 3] : VHas Tryz.prog 106 [I n, ptr b] (.bool (decide (n ≥ m))) H H := by
 refine CV 7 Tryz.func106 ?_
 refine KK2 ?_
 refine QA ?_
 refine KK3 ?_
 refine QM ?_
 refine QL ?_
 refine QQ (vgeq rfl rfl) rfl ?_
 refine QA ?_
 refine vnil ?_
 refine vret (V1 (H) Tryz.func106 ?_)
 exact ⟨rfl, rfl⟩
theorem q_reached0 (oa : Option Addr) (c : Nat) (H : Heap) [hs : SlO H oa 1 encI [0, 2]] : VHas Tryz.prog 70 [.slice oa 2 c, I 1] (I 1) H H := by
 refine CV 8 Tryz.func70 ?_
 refine KK2 ?_
 refine BX fun b1 => ?_
 refine QA ?_
 refine KK3 ?_
 refine QM ?_
 refine QQ (vmf rfl) rfl ?_
 refine vone rfl (vxg (vcg (R := fun v H' => v = I 1 ∧ H' = (b1, blk [I 1] 3) :: H) rfl rfl rfl (g_IndexI 106 [ptr b1] (fun n => decide (n ≥ 1)) [0, 2] oa 2 c rfl (by decide) ((b1, blk [I 1] 3) :: H) (fun n _ => q_reached1 n 1 b1 _)) (fun o H' ⟨r, e1, e2, e3⟩ => ⟨_, e1, by rw [idx_02 e2], e3⟩)) rfl rfl ?_)
 rintro _ _ ⟨rfl, rfl⟩
 refine QA ?_
 refine vnil ?_
 refine vret (V1 (H) Tryz.func70 ?_)
 exact ⟨rfl, rfl⟩
theorem q_sorted02 (oa : Option Addr) (c : Nat) (H : Heap) [hs : SlO H oa 1 encI [0, 2]] : VHas Tryz.prog 48 [.slice oa 2 c] (.bool true) H H := by
 refine CV 21 Tryz.func48 ?_
 refine KK2 ?_
 refine QA ?_
 refine vnil (vseq (KK2 ?_))
 refine QM ?_
 refine QQ (vlen rfl) rfl ?_
 refine QQ (vsub rfl rfl (by unfold InR; decide)) rfl ?_
 refine QA ?_
 refine vnil (vblock ?_)
 refine vloop1 ?_
 refine vseq (KK2 ?_)
 refine QM ?_
 refine QQ (vgtr rfl rfl) rfl ?_
 refine vnil (vcondt rfl (vskip (vseq (vblock (vseq ?_)))))
 refine DR [(.q, 0), (.q, 1), (.q, 2), (.q, 3), (.q, 4), (.q, 5), (.q, 6), (.q, 7), (.q, 8), (.q, 9)] Tryz.mixed ?_
 refine DM ?_
 refine DM ?_
 refine DD (visg (enc := encI) (z := 2) rfl rfl (by decide) w2_1) rfl ?_
 refine DD (vldS1 (enc := encI) (z := 2) rfl w2_1 rfl) rfl ?_
 refine DM ?_
 refine DM ?_
 refine DD (vsub rfl rfl (by unfold InR; decide)) rfl ?_
 refine DD (visg (enc := encI) (z := 0) rfl rfl (by decide) w2_0) rfl ?_
 refine DD (vldS1 (enc := encI) (z := 0) rfl w2_0 rfl) rfl ?_
 refine DD (vcq rfl rfl rfl (q_cmpLess 2 0 _)) rfl ?_
 refine vdknow (d := 20) (b' := false) rfl (by decide) ?_
 refine vdend rfl (vcondf rfl (vskip (vinblock (vregion ?_))))
 refine QM ?_
 refine QQ (vsub rfl rfl (by unfold InR; decide)) rfl ?_
 refine QA ?_
 refine vnil ?_
 refine vinloop1 ?_
 refine vseq (KK2 ?_)
 refine QM ?_
 refine QQ (vgtr rfl rfl) rfl ?_
 refine vnil (vcondf rfl ?_)
 refine vexit (k' := _) rfl ?_
 refine KK2 ?_
 refine QA ?_
 refine vnil ?_
 refine vret (V1 (H) Tryz.func48 ?_)
 exact ⟨rfl, rfl⟩
end Go.Proofs.YtmfmecgiaekelaaGreatDoor
namespace Go.Proofs.YtmfmecgiaekelaaGreatDoor
open Go
set_option maxRecDepth 100000
attribute [local irreducible] tightP hullP rootP farP rows endsOf
instance tApSh : TAp Tryz.prog 80 87 3 24 := mkTAp (z := .agg [I 0, I 0, .bool false].toArray) (by kernel_rfl) (by kernel_rfl) rfl
theorem d_fire0 (oa : Option Addr) (c : Nat) (H : Heap) [hs : SlO H oa 1 encI [0, 2]] : VCall Tryz.prog 49 [vF0, .slice oa 2 c].toArray H (fun o H' => ∃ oa' c' B, o = .val (.slice oa' 1 c') ∧ H' = B ++ H ∧ OwnS 87 3 (.slice oa' 1 c') 1 [I 1, I 0, .bool false] B) := by
 refine CV 55 Tryz.func49 ?_
 refine KK2 ?_
 refine BX fun b1 => ?_
 refine QA ?_
 refine KK3 ?_
 refine QA ?_
 refine vnil (vseq (KK2 ?_))
 refine QF ?_
 refine QL ?_
 refine QM ?_
 refine vnil (vblock ?_)
 refine vloop1 ?_
 refine KK2 ?_
 refine QS ?_
 refine vnil (vseq (vcondt rfl (vskip (vseq (vblock (KK2 ?_))))))
 refine QM ?_
 refine QA ?_
 refine vnil (vseq ?_)
 refine vdraw [(.q, 0), (.q, 1), (.q, 2), (.q, 3), (.q, 4), (.q, 5), (.q, 6), (.q, 7), (.q, 8), (.q, 9), (.a (blk [.int .i64 0, .int .i64 0, .bool false] 87), 10), (.s, 11)] Tryz.mixed (by kernel_rfl) ⟨⟨_, _, _, _, _, rfl, _, inferInstance, rfl⟩, True.intro⟩ ?_
 refine DM ?_
 refine DN ?_
 refine DM ?_
 refine DD (vcp rfl rfl rfl (c_due0)) rfl ?_
 refine DD (vcq rfl rfl rfl (q_reached0 oa c _)) rfl ?_
 refine DM ?_
 refine DF ?_
 refine DL ?_
 refine DD (vrem rfl rfl (by omega)) rfl ?_
 refine DB ?_
 refine vda rfl rfl (fun b2 => ?_)
 refine vds (mone rfl) (vstn rfl rfl rfl rfl rfl) rfl ?_
 refine vdend rfl (vseq ?_)
 refine DR [(.q, 0), (.q, 1), (.q, 2), (.q, 3), (.q, 4), (.q, 5), (.q, 6), (.q, 7), (.q, 8), (.q, 9), (.q, 10), (.q, 11), (.q, 12), (.q, 13), (.q, 14), (.q, 15), (.q, 16), (.q, 17), (.q, 18), (.q, 19), (.q, 20), (.q, 21), (.q, 22), (.q, 23), (.q, 24), (.q, 25), (.c, 26)] Tryz.mixed ?_
 refine DF ?_
 refine DL ?_
 refine DD (vgeq rfl rfl) rfl ?_
 refine DM ?_
 refine vdknow (d := 26) (b' := true) rfl (by decide) ?_
 refine WM ?_
 refine WF ?_
 refine WL ?_
 refine WW (vgeq rfl rfl) rfl ?_
 refine DT ?_
 refine DM ?_
 refine vdknow (d := 32) (b' := false) rfl (by decide) ?_
 refine NP ?_
 refine NP ?_
 refine NP ?_
 refine NP ?_
 refine NP ?_
 refine NP ?_
 refine NP ?_
 refine NP ?_
 refine NP ?_
 refine NP ?_
 refine NP ?_
 refine NP ?_
 refine NP ?_
 refine NP ?_
 refine DU ?_
 refine DF ?_
 refine vdcs (mone rfl) (vst1 rfl rfl rfl rfl) rfl ?_
 refine vdend rfl (vregion ?_)
 refine QM ?_
 refine QN ?_
 refine vone rfl (vxg (vbs rfl rfl rfl rfl rfl rfl) rfl rfl ?_)
 rintro _ _ ⟨b3, rfl, rfl⟩
 refine vone rfl (vxg (vappF (a := ⟨b3, 0, Option.none⟩) (m := 1) (c := 1) (size := 3) (bytes := 24) (F := fun C => C ++ ((b3, blk [I 1, I 0, .bool false] 87) :: (b2, blk [I 1, I 0, .bool false] 87) :: (b1, blk [I 1, I 1, I 1, I 1, I 0] 84) :: H)) (H0 := (b3, blk [I 1, I 0, .bool false] 87) :: (b2, blk [I 1, I 0, .bool false] 87) :: (b1, blk [I 1, I 1, I 1, I 1, I 0] 84) :: H) (B := []) (xs := []) (news := [I 1, I 0, .bool false]) (fun C => .refl _) rfl rfl OwnS.nil rfl (news_blk (b := b3) (List.Mem.head _)) (fun u hu => by simp at hu; rcases hu with rfl | rfl | rfl <;> rfl) (by omega) (by simp only [maxLen]; omega) (by omega)) rfl rfl ?_)
 rintro _ _ ⟨B2, hown2, _, rfl⟩
 obtain ⟨oa2, c2, rfl, hle2⟩ := hown2.shape
 refine QA ?_
 refine vnil (vinblock (vregion ?_))
 refine QQ (vadd rfl rfl (by unfold InR; omega)) rfl ?_
 refine QM ?_
 refine vnil ?_
 refine vinloop1 ?_
 refine KK2 ?_
 refine QS ?_
 refine vnil (vseq (vcondf rfl ?_))
 refine vexit (k' := _) rfl ?_
 refine KK2 ?_
 refine QM ?_
 refine QA ?_
 refine vnil ?_
 refine vret (V1 (B2 ++ H) Tryz.func49 ?_)
 exact ⟨oa2, c2, B2, rfl, rfl, hown2⟩
theorem d_Fire0 (oa : Option Addr) (c : Nat) (H : Heap) [hs : SlO H oa 1 encI [0, 2]] : VCall Tryz.prog 19 [vF0, .slice oa 2 c].toArray H (fun o H' => ∃ oa' c' B, o = .val (tup [.slice oa' 1 c', I 0]) ∧ H' = B ++ H ∧ OwnS 87 3 (.slice oa' 1 c') 1 [I 1, I 0, .bool false] B) := by
 refine CV 40 Tryz.func19 ?_
 refine KK2 ?_
 refine BX fun b1 => ?_
 refine QA ?_
 refine QA ?_
 refine vnil (vseq (KK2 ?_))
 refine QN ?_
 refine QQ (vcp rfl rfl rfl (c_CheckFiring0)) rfl ?_
 refine QA ?_
 refine KK3 ?_
 refine QM ?_
 refine QG ?_
 refine vknow (d := 11) (b' := false) rfl (by decide) ?_
 refine vnil (vcondf rfl (vskip (KK2 ?_)))
 refine QM ?_
 refine QQ (vlen rfl) rfl ?_
 refine QQ (vcp rfl rfl rfl (c_swithin _ _ _)) rfl ?_
 refine QM ?_
 refine vknow (d := 16) (b' := true) rfl (by decide) ?_
 refine YM ?_
 refine YY (vcq rfl rfl rfl (q_sorted02 oa c _)) rfl ?_
 refine QT ?_
 refine QA ?_
 refine vnil (vseq (KK2 ?_))
 refine QM ?_
 refine QQ (vnot rfl) rfl ?_
 refine QM ?_
 refine vknow (d := 22) (b' := false) rfl rfl ?_
 refine YM ?_
 refine YY (visg (enc := encI) (z := 0) rfl rfl (by decide) w2_0) rfl ?_
 refine YY (vldS1 (enc := encI) (z := 0) rfl w2_0 rfl) rfl ?_
 refine YS ?_
 refine QU ?_
 refine QM ?_
 refine vknow (d := 28) (b' := false) rfl (by decide) ?_
 refine YM ?_
 refine YM ?_
 refine YY (vlen rfl) rfl ?_
 refine YY (vsub rfl rfl (by unfold InR; decide)) rfl ?_
 refine YY (visg (enc := encI) (z := 2) rfl rfl (by decide) w2_1) rfl ?_
 refine YY (vldS1 (enc := encI) (z := 2) rfl w2_1 rfl) rfl ?_
 refine YY (vgtr rfl rfl) rfl ?_
 refine QU ?_
 refine vknow (d := 36) (b' := false) rfl (by decide) ?_
 refine vnil (vcondf rfl (vskip (KK2 ?_)))
 refine QN ?_
 refine QM ?_
 refine vone rfl (vxg (vcg (R := fun v H' => ∃ oa' c' B, v = .slice oa' 1 c' ∧ H' = B ++ ((b1, blk [I 1, I 1, I 1, I 1, I 0] 84) :: H) ∧ OwnS 87 3 (.slice oa' 1 c') 1 [I 1, I 0, .bool false] B) rfl rfl rfl (d_fire0 oa c _) (fun o H' ⟨oa', c', B, e1, e2, e3⟩ => ⟨_, e1, oa', c', B, rfl, e2, e3⟩)) rfl rfl ?_)
 rintro _ _ ⟨oa2, c2, B, rfl, rfl, hown⟩
 refine QA ?_
 refine QA ?_
 refine vnil ?_
 refine vret (vr2 (H' := B ++ H) Tryz.func19 rfl (.tmp rfl) (.tmp rfl) sb2 ?_)
 exact ⟨oa2, c2, B, rfl, rfl, hown⟩
end Go.Proofs.YtmfmecgiaekelaaGreatDoor
namespace Go.Proofs.YtmfmecgiaekelaaGreatDoor
open Go
set_option maxRecDepth 100000
attribute [local irreducible] tightP hullP rootP farP rows endsOf
abbrev clRl (r : Rl) : List Value := [I r.row, I r.win, I r.many, I r.total]
abbrev vRl (r : Rl) : Value := .agg (clRl r).toArray
abbrev encEd (e : Ed) : List Value := [I e.a, I e.b, I e.least, I e.rule, I e.fr]
theorem chkRl_t {r : Rl} (h : okRl r) : chkRl r = 0 := if_pos h
theorem chkRl_f {r : Rl} (h : ¬ okRl r) : chkRl r = 54 := if_neg h
theorem chkRl_z {r : Rl} : chkRl r = 0 ↔ okRl r := by unfold chkRl; split <;> simp_all
def bitL (l : List Int) : Prop := l.length ≤ 64 ∧ ∀ n ∈ l, n = 0 ∨ n = 1
theorem part_at {l : List Int} {a b i : Nat} {z : Int} (h : i < b - a) (hz : l[a + i]? = some z) : ((l.drop a).take (b - a))[i]? = some z := by
  rw [List.getElem?_take, if_pos h, List.getElem?_drop]; exact hz
theorem vmax0 {P : Program} {N : Nat} {E : Env} {D : List Deferred} {H : Heap} {d a : Nat} {y : Operand} {ty : TypeId} {pos : String} {af : Array Edge} {g : Option (Nat × Bool)} {ats : Array TypeId} (hy : ev E y = some (I (a : Int))) :
    OQ P N E D H ⟨some d, .call ⟨.builtin .max, #[.const (I 0), y], ats⟩, ty, pos, af, g⟩ (I (a : Int)) := by
  have h := vmax2 (P := P) (N := N) (E := E) (D := D) (H := H) (d := d) (ty := ty) (pos := pos) (af := af) (g := g) (ats := ats) (x := .const (I 0)) (y := y) (a := 0) (b := (a : Int)) rfl hy
  rw [show max (0 : Int) (a : Int) = (a : Int) by omega] at h
  exact h
theorem c_CheckRules (r : Rl) : VPure Tryz.prog 58 [vRl r] (I (chkRl r)) := by
 intro H
 refine CV 27 Tryz.func58 ?_
 refine KK2 ?_
 refine BX fun b1 => ?_
 refine QA ?_
 refine vnil (vseq (KK2 ?_))
 refine QF ?_
 refine QL ?_
 refine QQ (vcp rfl rfl rfl (c_swithin _ _ _)) rfl ?_
 refine QQ (vnotd rfl) rfl ?_
 refine QM ?_
 refine vsplitd (d := 7) rfl (fun h7 => ?_) (fun h7 => ?_)
 ·
  refine NO ?_
  refine NO ?_
  refine NO ?_
  refine NO ?_
  refine QT ?_
  refine QM ?_
  refine NO ?_
  refine NO ?_
  refine NO ?_
  refine NO ?_
  refine NO ?_
  refine NO ?_
  refine QT ?_
  refine QM ?_
  refine NO ?_
  refine NO ?_
  refine NO ?_
  refine NO ?_
  refine QT ?_
  refine vnil (vcondt rfl (KK2 ?_))
  refine QA ?_
  refine vnil ?_
  refine vret (V1 (H) Tryz.func58 ?_)
  exact ⟨oI (chkRl_f (by unfold okRl; omega)).symm, rfl⟩
 ·
  refine YF ?_
  refine YL ?_
  refine YY (vcp rfl rfl rfl (c_swithin _ _ _)) rfl ?_
  refine YY (vnotd rfl) rfl ?_
  refine QU ?_
  refine QM ?_
  refine vsplitd (d := 13) rfl (fun h13 => ?_) (fun h13 => ?_)
  ·
   refine NO ?_
   refine NO ?_
   refine NO ?_
   refine NO ?_
   refine NO ?_
   refine NO ?_
   refine QT ?_
   refine QM ?_
   refine NO ?_
   refine NO ?_
   refine NO ?_
   refine NO ?_
   refine QT ?_
   refine vnil (vcondt rfl (KK2 ?_))
   refine QA ?_
   refine vnil ?_
   refine vret (V1 (H) Tryz.func58 ?_)
   exact ⟨oI (chkRl_f (by unfold okRl; omega)).symm, rfl⟩
  ·
   refine YF ?_
   refine YL ?_
   refine YF ?_
   refine YL ?_
   refine YY (vcp rfl rfl rfl (c_swithin _ _ _)) rfl ?_
   refine YY (vnotd rfl) rfl ?_
   refine QU ?_
   refine QM ?_
   refine vsplitd (d := 21) rfl (fun h21 => ?_) (fun h21 => ?_)
   ·
    refine NO ?_
    refine NO ?_
    refine NO ?_
    refine NO ?_
    refine QT ?_
    refine vnil (vcondt rfl (KK2 ?_))
    refine QA ?_
    refine vnil ?_
    refine vret (V1 (H) Tryz.func58 ?_)
    exact ⟨oI (chkRl_f (by unfold okRl; omega)).symm, rfl⟩
   ·
    refine YF ?_
    refine YL ?_
    refine YY (vcp rfl rfl rfl (c_swithin _ _ _)) rfl ?_
    refine YY (vnotd rfl) rfl ?_
    refine QU ?_
    refine vnil ?_
    refine vcondd rfl (fun h26 => ?_) (fun h26 => ?_)
    ·
     refine KK2 ?_
     refine QA ?_
     refine vnil ?_
     refine vret (V1 (H) Tryz.func58 ?_)
     exact ⟨oI (chkRl_f (by unfold okRl; omega)).symm, rfl⟩
    ·
     refine vskip (KK2 ?_)
     refine QA ?_
     refine vnil ?_
     refine vret (V1 (H) Tryz.func58 ?_)
     exact ⟨oI (chkRl_t (by unfold okRl; omega)).symm, rfl⟩
theorem q_results1 (n m : Int) (b : Nat) (H : Heap) [hat : HAt H b [I m] 3] : VHas Tryz.prog 93 [I n, ptr b] (.bool (!decide (0 ≤ n ∧ n ≤ m))) H H := by
 refine CV 8 Tryz.func93 ?_
 refine KK2 ?_
 refine QA ?_
 refine KK3 ?_
 refine QM ?_
 refine QL ?_
 refine QQ (vcp rfl rfl rfl (c_swithin _ _ _)) rfl ?_
 refine QQ (vnot rfl) rfl ?_
 refine QA ?_
 refine vnil ?_
 refine vret (V1 (H) Tryz.func93 ?_)
 exact ⟨rfl, rfl⟩
theorem q_results (l : List Int) (oa : Option Addr) (c : Nat) (H : Heap) [hsl : SlO H oa 1 encI l] (hl : bitL l) : VHas Tryz.prog 59 [.slice oa l.length c, I 1] (.bool true) H H := by
 obtain ⟨hl1, hl2⟩ := hl
 refine CV 14 Tryz.func59 ?_
 refine KK2 ?_
 refine BX fun b1 => ?_
 refine QA ?_
 refine KK3 ?_
 refine QM ?_
 refine QQ (vlen rfl) rfl ?_
 refine QQ (vleq rfl rfl) rfl ?_
 refine vknow (d := 7) (b' := true) rfl (decide_eq_true (by omega)) ?_
 refine QM ?_
 refine YM ?_
 refine YY (vmf rfl) rfl ?_
 refine YY (vcq rfl rfl rfl (q_ContainsI 93 [ptr b1] (fun n => !decide (0 ≤ n ∧ n ≤ 1)) l oa _ c rfl (by omega) ((b1, blk [I 1] 3) :: H) (fun z _ => q_results1 z 1 b1 _))) rfl ?_
 refine YY (vnot rfl) rfl ?_
 refine vknow (d := 12) (b' := true) rfl (by rw [List.any_eq_false.2 (fun z hz => by have := hl2 z hz; simp; omega)]; rfl) ?_
 refine QT ?_
 refine QA ?_
 refine vnil ?_
 refine vret (V1 (H) Tryz.func59 ?_)
 exact ⟨rfl, rfl⟩
theorem q_ruled (r : Rl) (l : List Int) (oa : Option Addr) (c : Nat) (H : Heap) [hsl : SlO H oa 1 encI l] (hl : bitL l) : VHas Tryz.prog 37 [vRl r, .slice oa l.length c] (I (chkRl r)) H H := by
 refine CV 14 Tryz.func37 ?_
 refine KK2 ?_
 refine BX fun b1 => ?_
 refine QA ?_
 refine vnil (vseq (KK2 ?_))
 refine QN ?_
 refine QQ (vcp rfl rfl rfl (c_CheckRules r)) rfl ?_
 refine QA ?_
 refine KK3 ?_
 refine QM ?_
 refine QG ?_
 refine vnil ?_
 refine vcondd rfl (fun h9 => ?_) (fun h9 => ?_)
 ·
  refine KK2 ?_
  refine QM ?_
  refine QA ?_
  refine vnil ?_
  refine vret (V1 (H) Tryz.func37 ?_)
  exact ⟨rfl, rfl⟩
 ·
  refine vskip (vseq (KK2 ?_))
  refine QM ?_
  refine QQ (vcq rfl rfl rfl (q_results l oa c _ hl)) rfl ?_
  refine QQ (vnot rfl) rfl ?_
  refine vknow (d := 13) (b' := false) rfl rfl ?_
  refine vnil (vcondf rfl (vskip (KK2 ?_)))
  refine QA ?_
  refine vnil ?_
  refine vret (V1 (H) Tryz.func37 ?_)
  exact ⟨oI (Classical.not_not.1 h9).symm, rfl⟩
theorem q_bad (l : List Int) (oa : Option Addr) (c : Nat) (H : Heap) [hsl : SlO H oa 1 encI l] (hl : bitL l) (hc : l.length ≤ c) (a b : Nat) (hab : a ≤ b) (hb : b ≤ l.length) : VHas Tryz.prog 40 [.slice oa l.length c, I (a : Int), I (b : Int)] (I (cntI l b - cntI l a)) H H := by
 obtain ⟨hl1, hl2⟩ := hl
 haveI hpt := hsl.part (c := c) (l := (a : Int).toNat) (m := b) (by omega)
 refine CV 26 Tryz.func40 ?_
 refine KK2 ?_
 refine QA ?_
 refine KK3 ?_
 refine QA ?_
 refine vnil (vseq (KK2 ?_))
 refine QM ?_
 refine QM ?_
 refine QQ (vmax0 rfl) rfl ?_
 refine QM ?_
 refine QQ (vslc rfl rfl rfl (by omega) (by omega) (by omega)) rfl ?_
 refine QQ (vlen rfl) rfl ?_
 refine QM ?_
 refine vnil (vblock ?_)
 refine vwhile (σ := Nat) (fun i => b - a - i) (fun i => [(7, I (cntI l (a + i) - cntI l a)), (14, .slice (atS oa c (a : Int).toNat 1) ((b : Int) - (a : Int)).toNat (c - (a : Int).toNat)), (15, I (((b : Int) - (a : Int)).toNat : Int)), (16, I (i : Int))]) (fun i => H) (fun i => i ≤ b - a) 0 (Nat.zero_le _) ⟨by rw [Nat.add_zero, Int.sub_self]; rfl, rfl, rfl, rfl, True.intro⟩ sb ?_
 rintro i hi IH
 change VRun _ _ _ _ _ [(7, I (cntI l (a + i) - cntI l a)), (14, .slice (atS oa c (a : Int).toNat 1) ((b : Int) - (a : Int)).toNat (c - (a : Int).toNat)), (15, I (((b : Int) - (a : Int)).toNat : Int)), (16, I (i : Int))] _ (H) _
 have hcb := cntI_nn l (a + i)
 have hcb2 := cntI_nn l a
 refine KK2 ?_
 refine QS ?_
 refine vnil (vseq ?_)
 refine vcondd rfl (fun h17 => ?_) (fun h17 => ?_)
 ·
  obtain ⟨z, hza⟩ := get_of_lt l (i := a + i) (by omega)
  have hz : ((l.drop (a : Int).toNat).take (b - (a : Int).toNat))[(i : Int).toNat]? = some z := part_at (a := a) (b := b) (by omega) hza
  refine vskip (vseq (vblock (KK2 ?_)))
  refine QQ (visg (enc := encI) rfl rfl (by omega) hz) rfl ?_
  refine QQ (vldS1 (enc := encI) rfl hz rfl) rfl ?_
  refine QA ?_
  refine KK3 ?_
  refine QM ?_
  refine QE ?_
  refine vnil ?_
  refine vcondd rfl (fun h21 => ?_) (fun h21 => ?_)
  ·
   refine vregion ?_
   refine QM ?_
   refine QQ (vadd rfl rfl (by unfold InR; omega)) rfl ?_
   refine QA ?_
   refine vnil (vinblock (vregion ?_))
   refine QQ (vadd rfl rfl (by unfold InR; omega)) rfl ?_
   refine QM ?_
   refine vnil ?_
   exact vback (IH (i + 1) (by omega) (by omega)) ⟨by rw [show a + (i + 1) = a + i + 1 by omega, cntI_one (hza.trans (congrArg some h21))]; exact congrArg some (congrArg I (by omega)), rfl, rfl, rfl, True.intro⟩ sb2
  ·
   refine vskip (vinblock (vregion ?_))
   refine QQ (vadd rfl rfl (by unfold InR; omega)) rfl ?_
   refine QM ?_
   refine vnil ?_
   exact vback (IH (i + 1) (by omega) (by omega)) ⟨by rw [show a + (i + 1) = a + i + 1 by omega, cntI_zero (fun e => h21 (Option.some.inj (hza.symm.trans e)))]; rfl, rfl, rfl, rfl, True.intro⟩ sb2
 ·
  refine vexit (k' := _) rfl ?_
  refine KK2 ?_
  refine QM ?_
  refine QA ?_
  refine vnil ?_
  refine vret (V1 (H) Tryz.func40 ?_)
  exact ⟨oI (by rw [show a + i = b by omega]), rfl⟩
end Go.Proofs.YtmfmecgiaekelaaGreatDoor
namespace Go.Proofs.YtmfmecgiaekelaaGreatDoor
open Go
set_option maxRecDepth 100000
attribute [local irreducible] tightP hullP rootP farP rows endsOf cntI edgesA edgesB edgesQ edgeAt longE
structure SpI (r : Rl) (n rule fr x0 x1 x2 x3 x4 : Int) (is : Bool) : Prop where
  yes : is = true → ∃ long allows, longE r n rule = some (long, allows) ∧ x0 = rule ∧ x1 = fr ∧ x2 = fr ∧ x3 = fr + long ∧ x4 = allows ∧ 0 ≤ fr ∧ fr + long ≤ n
  no : is = false → ∀ long allows, longE r n rule = some (long, allows) → ¬ (0 ≤ fr ∧ fr + long ≤ n)
theorem sp_none {r : Rl} {n rule fr : Int} (h : longE r n rule = none) : SpI r n rule fr 0 0 0 0 0 false := ⟨(fun e => by cases e), (fun _ a b e => by rw [h] at e; cases e)⟩
theorem sp_some {r : Rl} {n rule fr long allows : Int} (h : longE r n rule = some (long, allows)) (hn : 0 ≤ n ∧ n ≤ 64) (hl : 0 ≤ long) : SpI r n rule fr rule fr fr (IntKind.i64.wrap (fr + long)) allows (decide (0 ≤ fr ∧ fr ≤ n - long)) := by
  refine ⟨fun e => ?_, fun e a b h2 => ?_⟩
  · have e := of_decide_eq_true e
    exact ⟨long, allows, h, rfl, rfl, rfl, wrap_id (by unfold InR; omega), rfl, e.1, by omega⟩
  · have e := of_decide_eq_false e
    rw [h] at h2; cases h2; omega
theorem long_1 (r : Rl) (n : Int) : longE r n 1 = some (r.row, r.row - 1) := by unfold longE; rfl
theorem long_2 (r : Rl) (n : Int) : longE r n 2 = some (min r.win n, r.many - 1) := by unfold longE; rfl
theorem long_3 (r : Rl) (n : Int) : longE r n 3 = some (n, r.total - 1) := by unfold longE; rfl
theorem long_n {r : Rl} {n rule : Int} (h1 : ¬ rule = 1) (h2 : ¬ rule = 2) (h3 : ¬ rule = 3) : longE r n rule = none := by unfold longE; rw [if_neg h1, if_neg h2, if_neg h3]
theorem long_some (r : Rl) (n : Int) (q : Nat) (h : q < 3) : ∃ long allows, longE r n ((q : Int) + 1) = some (long, allows) := by
  rcases q with _ | _ | _ | q
  · exact ⟨_, _, long_1 r n⟩
  · exact ⟨_, _, long_2 r n⟩
  · exact ⟨_, _, long_3 r n⟩
  · omega
theorem long_1' {r : Rl} {n rule : Int} (h : rule = 1) : longE r n rule = some (r.row, r.row - 1) := by rw [h]; exact long_1 r n
theorem long_2' {r : Rl} {n rule : Int} (h : rule = 2) : longE r n rule = some (min r.win n, r.many - 1) := by rw [h]; exact long_2 r n
theorem long_3' {r : Rl} {n rule : Int} (h : rule = 3) : longE r n rule = some (n, r.total - 1) := by rw [h]; exact long_3 r n
section
variable {P : Program} {N : Nat} {E : Env} {D : List Deferred} {H : Heap} {d : Nat} {x y : Operand} {T ty T' : TypeId} {pos : String} {af : Array Edge} {g : Option (Nat × Bool)} {a b c : Int}
theorem vaddX (hx : ev E x = some (.int .i64 a)) (hy : ev E y = some (.int .i64 b)) (he : a + b = c) (hr : InR c) : OQ P N E D H ⟨some d, .binOp .add T x y T', ty, pos, af, g⟩ (I c) := by subst he; exact vadd hx hy hr
end
theorem q_badI (l : List Int) (oa : Option Addr) (c : Nat) (H : Heap) [hsl : SlO H oa 1 encI l] (hl : bitL l) (hc : l.length ≤ c) (a b : Int) (ha : 0 ≤ a) (hab : a ≤ b) (hb : b ≤ l.length) : VHas Tryz.prog 40 [.slice oa l.length c, I a, I b] (I (cntI l b.toNat - cntI l a.toNat)) H H := by
  have h := q_bad l oa c H hl hc a.toNat b.toNat (by omega) (by omega)
  rw [show (a.toNat : Int) = a by omega, show (b.toNat : Int) = b by omega] at h
  exact h
theorem cntI_z (l : List Int) : cntI l 0 = 0 := by unfold cntI; rfl
theorem q_bad0 (l : List Int) (oa : Option Addr) (c : Nat) (H : Heap) [hsl : SlO H oa 1 encI l] (hl : bitL l) (hc : l.length ≤ c) (b : Int) (h0 : 0 ≤ b) (hb : b ≤ l.length) : VHas Tryz.prog 40 [.slice oa l.length c, I 0, I b] (I (cntI l b.toNat)) H H := by
  have h := q_badI l oa c H hl hc 0 b (by omega) h0 hb
  rw [show cntI l b.toNat - cntI l (0 : Int).toNat = cntI l b.toNat by rw [show (0 : Int).toNat = 0 by rfl, cntI_z]; omega] at h
  exact h
theorem q_badA (l : List Int) (oa : Option Addr) (c : Nat) (H : Heap) [hsl : SlO H oa 1 encI l] (hl : bitL l) (hc : l.length ≤ c) {nb : Nat} (hnb : badT l = nb) : VHas Tryz.prog 40 [.slice oa l.length c, I 0, I (l.length : Int)] (I (nb : Int)) H H := by
  have h := q_bad0 l oa c H hl hc l.length (by omega) (by omega)
  rw [show cntI l (l.length : Int).toNat = (nb : Int) by rw [← hnb]; rfl] at h
  exact h
theorem edA_len : ∀ i, (edgesA i).length = 2 * i
  | 0 => by unfold edgesA; rfl
  | i + 1 => by unfold edgesA; simp only [List.length_append, edA_len i, List.length_cons, List.length_nil]; omega
theorem edA_next (i : Nat) : edgesA (i + 1) = edgesA i ++ [⟨i, (i : Int) + 1, 0, 0, 0⟩, ⟨(i : Int) + 1, i, -1, 0, 0⟩] := by rw [edgesA]
theorem edB_next (l : List Int) (rule long allows : Int) (j : Nat) : edgesB l rule long allows (j + 1) = edgesB l rule long allows j ++ edgeAt l rule long allows j := by rw [edgesB]
theorem edAt_y {l : List Int} {rule long allows fr : Int} (h : cntI l (fr + long).toNat - cntI l fr.toNat > allows) : edgeAt l rule long allows fr = [⟨cntI l fr.toNat, cntI l (fr + long).toNat, cntI l (fr + long).toNat - cntI l fr.toNat - allows, rule, fr⟩] := by unfold edgeAt; rw [if_pos h]
theorem edAt_n {l : List Int} {rule long allows fr : Int} (h : ¬ cntI l (fr + long).toNat - cntI l fr.toNat > allows) : edgeAt l rule long allows fr = [] := by unfold edgeAt; rw [if_neg h]
theorem edB_len (l : List Int) (rule long allows : Int) : ∀ j, (edgesB l rule long allows j).length ≤ j
  | 0 => by unfold edgesB; exact Nat.le_refl _
  | j + 1 => by
    rw [edB_next, List.length_append]
    have := edB_len l rule long allows j
    by_cases h : cntI l ((j : Int) + long).toNat - cntI l (j : Int).toNat > allows
    · rw [edAt_y h]; simp only [List.length_cons, List.length_nil]; omega
    · rw [edAt_n h]; simp only [List.length_nil]; omega
theorem edQ_next {r : Rl} {l : List Int} {q : Nat} {long allows : Int} (h : longE r l.length ((q : Int) + 1) = some (long, allows)) : edgesQ r l (q + 1) = edgesQ r l q ++ edgesB l ((q : Int) + 1) long allows ((l.length : Int) - long + 1).toNat := by
  rw [edgesQ]; unfold edgesR; rw [h]
theorem edQ_0 (r : Rl) (l : List Int) : edgesQ r l 0 = edgesA (badT l).toNat := by rw [edgesQ]
theorem badT_bd {l : List Int} (hl : bitL l) : 0 ≤ badT l ∧ badT l ≤ 64 := by have := cntI_nn l l.length; have := hl.1; unfold badT; omega
theorem edQ_len {r : Rl} {l : List Int} (hr : okRl r) (hl : bitL l) : ∀ q, q ≤ 3 → (edgesQ r l q).length ≤ 128 + 65 * q
  | 0, _ => by rw [edQ_0, edA_len]; have := badT_bd hl; omega
  | q + 1, h => by
    obtain ⟨long, allows, hlo⟩ := long_some r l.length q (by omega)
    rw [edQ_next hlo, List.length_append]
    have h1 := edQ_len hr hl q (by omega)
    have h2 := edB_len l ((q : Int) + 1) long allows ((l.length : Int) - long + 1).toNat
    have h3 := long_bd hr ⟨by omega, by have := hl.1; omega⟩ hlo
    have := hl.1
    omega
instance tApEd : TAp Tryz.prog 117 166 5 40 := mkTAp (z := .agg [I 0, I 0, I 0, I 0, I 0].toArray) (by kernel_rfl) (by kernel_rfl) rfl
theorem q_spans (r : Rl) (hr : okRl r) (l : List Int) (oa : Option Addr) (c : Nat) (H : Heap) [hsl : SlO H oa 1 encI l] (hl : bitL l) (rule fr : Int) (hf : InR fr) : VCall Tryz.prog 39 [vRl r, .slice oa l.length c, .agg #[I rule, I fr]].toArray H (fun o H' => ∃ x0 x1 x2 x3 x4 is, o = .val (tup [.agg #[I x0, I x1, I x2, I x3, I x4], .bool is]) ∧ H' = H ∧ SpI r l.length rule fr x0 x1 x2 x3 x4 is) := by
 have hr' := hr
 unfold okRl at hr'
 have hl1 := hl.1
 refine CV 53 Tryz.func39 ?_
 refine KK2 ?_
 refine BX fun b1 => ?_
 refine BX fun b2 => ?_
 refine AL fun b3 => ?_
 refine QA ?_
 refine KK3 ?_
 refine QA ?_
 refine QA ?_
 refine vnil (vseq (KK2 ?_))
 refine QF ?_
 refine QL ?_
 refine vnil (vblock (KK2 ?_))
 refine QE ?_
 refine QA ?_
 refine vnil ?_
 refine vcondd rfl (fun h13 => ?_) (fun h13 => ?_)
 ·
  refine DR [(.q, 0), (.q, 1), (.q, 2), (.q, 3), (.q, 4), (.q, 5), (.q, 6)] Tryz.mixed ?_
  refine DF ?_
  refine DL ?_
  refine DF ?_
  refine DL ?_
  refine DD (vsub rfl rfl (by unfold InR; omega)) rfl ?_
  refine DA ?_
  refine DA ?_
  refine vdend rfl (vinblock (vseq ?_))
  refine DR [(.q, 0), (.q, 1), (.q, 2), (.q, 3), (.q, 4), (.q, 5), (.q, 6), (.q, 7), (.q, 8), (.q, 9), (.q, 10), (.q, 11), (.q, 12), (.q, 13), (.q, 14), (.q, 15), (.c, 16), (.q, 17)] Tryz.mixed ?_
  refine DN ?_
  refine DF ?_
  refine DL ?_
  refine DF ?_
  refine DL ?_
  refine DM ?_
  refine DD (vaddw rfl rfl) rfl ?_
  refine DM ?_
  refine DB ?_
  refine DF ?_
  refine DL ?_
  refine DM ?_
  refine DD (vlen rfl) rfl ?_
  refine DM ?_
  refine DD (vsub rfl rfl (by unfold InR; omega)) rfl ?_
  refine DD (vcp rfl rfl rfl (c_swithin _ _ _)) rfl ?_
  refine vdcs (mone rfl) (vstn rfl rfl rfl rfl rfl) rfl ?_
  refine DA ?_
  refine vdend rfl ?_
  refine vret (vr2 (H' := H) Tryz.func39 rfl (.celln rfl rfl) (.tmp rfl) sb2 ?_)
  exact ⟨_, _, _, _, _, _, rfl, rfl, sp_some (long_1' h13) (by omega) (by omega)⟩
 ·
  refine KK2 ?_
  refine QE ?_
  refine QA ?_
  refine vnil ?_
  refine vcondd rfl (fun h20 => ?_) (fun h20 => ?_)
  ·
   refine DR [(.q, 0), (.q, 1), (.q, 2), (.q, 3), (.q, 4), (.q, 5), (.q, 6), (.q, 7), (.q, 8), (.q, 9)] Tryz.mixed ?_
   refine DF ?_
   refine DL ?_
   refine DM ?_
   refine DD (vlen rfl) rfl ?_
   refine DD (vmin2 rfl rfl) rfl ?_
   refine DF ?_
   refine DL ?_
   refine DD (vsub rfl rfl (by unfold InR; omega)) rfl ?_
   refine DA ?_
   refine DA ?_
   refine vdend rfl (vinblock (vseq ?_))
   refine DR [(.q, 0), (.q, 1), (.q, 2), (.q, 3), (.q, 4), (.q, 5), (.q, 6), (.q, 7), (.q, 8), (.q, 9), (.q, 10), (.q, 11), (.q, 12), (.q, 13), (.q, 14), (.q, 15), (.c, 16), (.q, 17)] Tryz.mixed ?_
   refine DN ?_
   refine DF ?_
   refine DL ?_
   refine DF ?_
   refine DL ?_
   refine DM ?_
   refine DD (vaddw rfl rfl) rfl ?_
   refine DM ?_
   refine DB ?_
   refine DF ?_
   refine DL ?_
   refine DM ?_
   refine DD (vlen rfl) rfl ?_
   refine DM ?_
   refine DD (vsub rfl rfl (by unfold InR; omega)) rfl ?_
   refine DD (vcp rfl rfl rfl (c_swithin _ _ _)) rfl ?_
   refine vdcs (mone rfl) (vstn rfl rfl rfl rfl rfl) rfl ?_
   refine DA ?_
   refine vdend rfl ?_
   refine vret (vr2 (H' := H) Tryz.func39 rfl (.celln rfl rfl) (.tmp rfl) sb2 ?_)
   exact ⟨_, _, _, _, _, _, rfl, rfl, sp_some (long_2' h20) (by omega) (by omega)⟩
  ·
   refine KK2 ?_
   refine QE ?_
   refine QA ?_
   refine vnil ?_
   refine vcondd rfl (fun h30 => ?_) (fun h30 => ?_)
   ·
    refine DR [(.q, 0), (.q, 1), (.q, 2), (.q, 3), (.q, 4), (.q, 5), (.q, 6)] Tryz.mixed ?_
    refine DM ?_
    refine DD (vlen rfl) rfl ?_
    refine DF ?_
    refine DL ?_
    refine DD (vsub rfl rfl (by unfold InR; omega)) rfl ?_
    refine DA ?_
    refine DA ?_
    refine vdend rfl (vinblock (vseq ?_))
    refine DR [(.q, 0), (.q, 1), (.q, 2), (.q, 3), (.q, 4), (.q, 5), (.q, 6), (.q, 7), (.q, 8), (.q, 9), (.q, 10), (.q, 11), (.q, 12), (.q, 13), (.q, 14), (.q, 15), (.c, 16), (.q, 17)] Tryz.mixed ?_
    refine DN ?_
    refine DF ?_
    refine DL ?_
    refine DF ?_
    refine DL ?_
    refine DM ?_
    refine DD (vaddw rfl rfl) rfl ?_
    refine DM ?_
    refine DB ?_
    refine DF ?_
    refine DL ?_
    refine DM ?_
    refine DD (vlen rfl) rfl ?_
    refine DM ?_
    refine DD (vsub rfl rfl (by unfold InR; omega)) rfl ?_
    refine DD (vcp rfl rfl rfl (c_swithin _ _ _)) rfl ?_
    refine vdcs (mone rfl) (vstn rfl rfl rfl rfl rfl) rfl ?_
    refine DA ?_
    refine vdend rfl ?_
    refine vret (vr2 (H' := H) Tryz.func39 rfl (.celln rfl rfl) (.tmp rfl) sb2 ?_)
    exact ⟨_, _, _, _, _, _, rfl, rfl, sp_some (long_3' h30) (by omega) (by omega)⟩
   ·
    refine KK2 ?_
    refine QB ?_
    refine SN ?_
    refine QA ?_
    refine vnil ?_
    refine vret (vr2 (H' := H) Tryz.func39 rfl (.celln rfl rfl) (.tmp rfl) sb2 ?_)
    exact ⟨_, _, _, _, _, _, rfl, rfl, sp_none (long_n h13 h20 h30)⟩
theorem d_edges (r : Rl) (hr : okRl r) (l : List Int) (oa : Option Addr) (c : Nat) (H : Heap) [hsl : SlO H oa 1 encI l] (hl : bitL l) (hc : l.length ≤ c) : VCall Tryz.prog 60 [vRl r, .slice oa l.length c].toArray H (fun o H' => ∃ oe ce C, o = .val (.slice oe (edgesP r l).length ce) ∧ H' = C ++ H ∧ OwnS 166 5 (.slice oe (edgesP r l).length ce) (edgesP r l).length ((edgesP r l).flatMap encEd) C) := by
 have hl1 := hl.1
 have hbt := badT_bd hl
 obtain ⟨nb, hnb⟩ : ∃ nb : Nat, badT l = nb := ⟨(badT l).toNat, by omega⟩
 refine CV 87 Tryz.func60 ?_
 refine KK2 ?_
 refine BX fun b1 => ?_
 refine QA ?_
 refine KK3 ?_
 refine QA ?_
 refine vnil (vseq (KK2 ?_))
 refine QM ?_
 refine QM ?_
 refine QQ (vlen rfl) rfl ?_
 refine QQ (vcq rfl rfl rfl (q_badA l oa c _ hl hc hnb)) rfl ?_
 refine QM ?_
 refine vnil (vblock ?_)
 refine vwhile (σ := Nat × Option Addr × Nat × Heap) (fun ⟨i, oe, ce, C⟩ => nb - i) (fun ⟨i, oe, ce, C⟩ => [(1, .slice oa l.length c), (2, ptr b1), (5, .slice oe (edgesA i).length ce), (16, I (nb : Int)), (17, I (i : Int))]) (fun ⟨i, oe, ce, C⟩ => (b1, blk (clRl r) 61) :: (C ++ H)) (fun ⟨i, oe, ce, C⟩ => i ≤ nb ∧ OwnS 166 5 (.slice oe (edgesA i).length ce) (edgesA i).length ((edgesA i).flatMap encEd) C) (0, Option.none, 0, []) ⟨Nat.zero_le _, by unfold edgesA; exact OwnS.nil⟩ ⟨rfl, rfl, by unfold edgesA; rfl, rfl, rfl, True.intro⟩ sb ?_
 rintro ⟨i, oe, ce, C⟩ ⟨hi, hown⟩ IH
 change VRun _ _ _ _ _ [(1, .slice oa l.length c), (2, ptr b1), (5, .slice oe (edgesA i).length ce), (16, I (nb : Int)), (17, I (i : Int))] _ ((b1, blk (clRl r) 61) :: (C ++ H)) _
 refine KK2 ?_
 refine QS ?_
 refine vnil (vseq ?_)
 refine vcondd rfl (fun h18 => ?_) (fun h18 => ?_)
 ·
  refine vskip (vseq (vblock (KK2 ?_)))
  refine QM ?_
  refine QA ?_
  refine vnil (vregion ?_)
  refine QM ?_
  refine QM ?_
  refine QM ?_
  refine QQ (vadd rfl rfl (by unfold InR; omega)) rfl ?_
  refine QB ?_
  refine QM ?_
  refine QQ (vadd rfl rfl (by unfold InR; omega)) rfl ?_
  refine QM ?_
  refine QB ?_
  refine vone rfl (vxg (vbs rfl rfl rfl rfl rfl rfl) rfl rfl ?_)
  rintro _ _ ⟨n1, rfl, rfl⟩
  refine vone rfl (vxg (vappF (F := fun X => [(n1, blk [I (i : Int), I ((i : Int) + 1), I 0, I 0, I 0, I ((i : Int) + 1), I (i : Int), I (-1), I 0, I 0] 166), (b1, blk (clRl r) 61)] ++ (X ++ H)) (H0 := [(n1, blk [I (i : Int), I ((i : Int) + 1), I 0, I 0, I 0, I ((i : Int) + 1), I (i : Int), I (-1), I 0, I 0] 166), (b1, blk (clRl r) 61)] ++ H) (B := C) (xs := (edgesA i).flatMap encEd) (a := ⟨n1, 0, Option.none⟩) (m := 2) (c := 2) (size := 5) (bytes := 40) (news := [I (i : Int), I ((i : Int) + 1), I 0, I 0, I 0, I ((i : Int) + 1), I (i : Int), I (-1), I 0, I 0]) (fun X => perm_mid [(n1, blk [I (i : Int), I ((i : Int) + 1), I 0, I 0, I 0, I ((i : Int) + 1), I (i : Int), I (-1), I 0, I 0] 166), (b1, blk (clRl r) 61)] X H) rfl rfl hown rfl (news_blk (b := n1) (List.Mem.head _)) (fun u hu => by simp at hu; rcases hu with rfl | rfl | rfl | rfl | rfl | rfl | rfl | rfl | rfl <;> rfl) (by omega) (by have := edA_len i; simp only [maxLen]; omega) (by have := edA_len i; omega)) rfl rfl ?_)
  rintro _ _ ⟨C2, hown2, _, rfl⟩
  obtain ⟨oe2, ce2, rfl, _⟩ := hown2.shape
  refine QA ?_
  refine vnil (vinblock (vregion ?_))
  refine QQ (vadd rfl rfl (by unfold InR; omega)) rfl ?_
  refine QM ?_
  refine vnil ?_
  exact vback (IH (i + 1, oe2, ce2, C2) ⟨by omega, by rw [edA_next]; simp only [List.length_append, List.flatMap_append, List.length_cons, List.length_nil, List.flatMap_cons, List.flatMap_nil, List.append_nil] at hown2 ⊢; exact hown2⟩ (by show _ - (i + 1) < _ - i; omega)) ⟨rfl, rfl, by rw [edA_next]; simp only [List.length_append, List.length_cons, List.length_nil]; rfl, rfl, rfl, True.intro⟩ sb2
 ·
  refine vexit (k' := _) rfl ?_
  refine vseq (KK2 ?_)
  refine QA ?_
  refine vnil (vblock ?_)
  refine vwhile (σ := Nat × Option Addr × Nat × Heap) (fun ⟨q, oe, ce, C⟩ => 3 - q) (fun ⟨q, oe, ce, C⟩ => [(1, .slice oa l.length c), (2, ptr b1), (5, .slice oe (edgesQ r l q).length ce), (7, I ((q : Int) + 1))]) (fun ⟨q, oe, ce, C⟩ => (b1, blk (clRl r) 61) :: (C ++ H)) (fun ⟨q, oe, ce, C⟩ => q ≤ 3 ∧ OwnS 166 5 (.slice oe (edgesQ r l q).length ce) (edgesQ r l q).length ((edgesQ r l q).flatMap encEd) C) (0, oe, ce, C) ⟨by omega, by rw [edQ_0, hnb, Int.toNat_natCast, ← (show i = nb by omega)]; exact hown⟩ ⟨rfl, rfl, by rw [edQ_0, hnb, Int.toNat_natCast, ← (show i = nb by omega)]; rfl, rfl, True.intro⟩ sb ?_
  rintro ⟨q, oe, ce, C⟩ ⟨hq, hown⟩ IH1
  change VRun _ _ _ _ _ [(1, .slice oa l.length c), (2, ptr b1), (5, .slice oe (edgesQ r l q).length ce), (7, I ((q : Int) + 1))] _ ((b1, blk (clRl r) 61) :: (C ++ H)) _
  refine vseq (KK2 ?_)
  refine QM ?_
  refine QQ (vleq rfl rfl) rfl ?_
  refine vnil ?_
  refine vcondd rfl (fun h33 => ?_) (fun h33 => ?_)
  ·
   refine vskip (vseq (vblock (KK2 ?_)))
   refine QM ?_
   refine QQ (vlen rfl) rfl ?_
   refine QQ (vadd rfl rfl (by unfold InR; omega)) rfl ?_
   refine QM ?_
   refine vnil (vblock ?_)
   obtain ⟨long, allows, hlo⟩ := long_some r l.length q (by omega)
   obtain ⟨g1, g2, g3, g4⟩ := long_bd hr ⟨by omega, by omega⟩ hlo
   refine vwhile (σ := Nat × Option Addr × Nat × Heap) (fun ⟨j, oe, ce, C⟩ => l.length + 1 - j) (fun ⟨j, oe, ce, C⟩ => [(1, .slice oa l.length c), (2, ptr b1), (5, .slice oe (edgesQ r l q ++ edgesB l ((q : Int) + 1) long allows j).length ce), (7, I ((q : Int) + 1)), (38, I ((l.length : Int) + 1)), (39, I (j : Int))]) (fun ⟨j, oe, ce, C⟩ => (b1, blk (clRl r) 61) :: (C ++ H)) (fun ⟨j, oe, ce, C⟩ => j ≤ l.length + 1 ∧ (j : Int) ≤ max 0 ((l.length : Int) - long + 1) ∧ OwnS 166 5 (.slice oe (edgesQ r l q ++ edgesB l ((q : Int) + 1) long allows j).length ce) (edgesQ r l q ++ edgesB l ((q : Int) + 1) long allows j).length ((edgesQ r l q ++ edgesB l ((q : Int) + 1) long allows j).flatMap encEd) C) (0, oe, ce, C) ⟨by omega, by omega, by unfold edgesB; rw [List.append_nil]; exact hown⟩ ⟨rfl, rfl, by unfold edgesB; rw [List.append_nil]; rfl, rfl, rfl, rfl, True.intro⟩ sb ?_
   rintro ⟨j, oe, ce, C⟩ ⟨hj0, hj1, hown⟩ IH2
   change VRun _ _ _ _ _ [(1, .slice oa l.length c), (2, ptr b1), (5, .slice oe (edgesQ r l q ++ edgesB l ((q : Int) + 1) long allows j).length ce), (7, I ((q : Int) + 1)), (38, I ((l.length : Int) + 1)), (39, I (j : Int))] _ ((b1, blk (clRl r) 61) :: (C ++ H)) _
   have hle1 := edQ_len hr hl q (by omega)
   have hle2 := edB_len l ((q : Int) + 1) long allows j
   have hle3 : (edgesQ r l q ++ edgesB l ((q : Int) + 1) long allows j).length = (edgesQ r l q).length + (edgesB l ((q : Int) + 1) long allows j).length := List.length_append
   refine KK2 ?_
   refine QS ?_
   refine vnil (vseq ?_)
   refine vcondd rfl (fun h40 => ?_) (fun h40 => ?_)
   ·
    refine vskip (vseq (vblock (KK2 ?_)))
    refine QM ?_
    refine QA ?_
    refine KK3 ?_
    refine QN ?_
    refine QM ?_
    refine QM ?_
    refine QM ?_
    refine QB ?_
    refine vone rfl (vxg (vcg (R := fun v H' => ∃ x0 x1 x2 x3 x4 is, v = tup [.agg #[I x0, I x1, I x2, I x3, I x4], .bool is] ∧ H' = _ ∧ SpI r l.length ((q : Int) + 1) (j : Int) x0 x1 x2 x3 x4 is) rfl rfl rfl (q_spans r hr l oa c _ hl ((q : Int) + 1) (j : Int) (by unfold InR; omega)) (fun o H' ⟨x0, x1, x2, x3, x4, is, e1, e2, e3⟩ => ⟨_, e1, x0, x1, x2, x3, x4, is, rfl, e2, e3⟩)) rfl rfl ?_)
    rintro _ _ ⟨x0, x1, x2, x3, x4, is, rfl, rfl, hsp⟩
    cases is
    ·
     have hno := hsp.no rfl long allows hlo
     refine QM ?_
     refine QX ?_
     refine QX ?_
     refine AL fun b5 => ?_
     refine SN ?_
     refine QA ?_
     refine vnil (vseq (KK2 ?_))
     refine QM ?_
     refine QQ (vnot rfl) rfl ?_
     refine vnil (vcondt rfl ?_)
     refine vexit (k' := _) rfl ?_
     refine vinblock (vregion ?_)
     refine QM ?_
     refine QQ (vadd rfl rfl (by unfold InR; omega)) rfl ?_
     refine QA ?_
     refine vnil ?_
     have hj : j = ((l.length : Int) - long + 1).toNat := by omega
     subst hj
     rw [← edQ_next hlo] at hown
     exact vback (IH1 (q + 1, oe, ce, C) ⟨by omega, hown⟩ (by show _ - (q + 1) < _ - q; omega)) ⟨rfl, rfl, by rw [edQ_next hlo]; rfl, rfl, True.intro⟩ sb2
    ·
     obtain ⟨lg', al', hlo', rfl, rfl, rfl, rfl, rfl, hf0, hf1⟩ := hsp.yes rfl
     rw [hlo] at hlo'
     cases hlo'
     have hc1 := cntI_nn l (j : Int).toNat
     have hc2 := cntI_nn l ((j : Int) + long).toNat
     refine QM ?_
     refine QX ?_
     refine QX ?_
     refine AL fun b5 => ?_
     refine SN ?_
     refine QA ?_
     refine vnil (vseq (KK2 ?_))
     refine QM ?_
     refine QQ (vnot rfl) rfl ?_
     refine vnil (vcondf rfl (vskip (KK2 ?_)))
     refine QM ?_
     refine QF ?_
     refine QL ?_
     refine QQ (vcq rfl rfl rfl (q_bad0 l oa c _ hl hc (j : Int) (by omega) (by omega))) rfl ?_
     refine QA ?_
     refine KK3 ?_
     refine QM ?_
     refine QM ?_
     refine QF ?_
     refine QL ?_
     refine QF ?_
     refine QL ?_
     refine QQ (vcq rfl rfl rfl (q_badI l oa c _ hl hc (j : Int) ((j : Int) + long) (by omega) (by omega) (by omega))) rfl ?_
     refine QQ (vaddX (c := cntI l ((j : Int) + long).toNat) rfl rfl (by omega) (by unfold InR; omega)) rfl ?_
     refine QA ?_
     refine KK3 ?_
     refine QM ?_
     refine QM ?_
     refine QQ (vsub rfl rfl (by unfold InR; omega)) rfl ?_
     refine QF ?_
     refine QL ?_
     refine QQ (vgtr rfl rfl) rfl ?_
     refine vnil ?_
     refine vcondd rfl (fun h70 => ?_) (fun h70 => ?_)
     ·
      refine vregion ?_
      refine QM ?_
      refine QM ?_
      refine QM ?_
      refine QM ?_
      refine QM ?_
      refine QQ (vsub rfl rfl (by unfold InR; omega)) rfl ?_
      refine QF ?_
      refine QL ?_
      refine QQ (vsub rfl rfl (by unfold InR; omega)) rfl ?_
      refine QF ?_
      refine QN ?_
      refine QB ?_
      refine vone rfl (vxg (vbs rfl rfl rfl rfl rfl rfl) rfl rfl ?_)
      rintro _ _ ⟨n2, rfl, rfl⟩
      refine vone rfl (vxg (vappF (F := fun X => [(n2, blk [I (cntI l (j : Int).toNat), I (cntI l ((j : Int) + long).toNat), I (cntI l ((j : Int) + long).toNat - cntI l (j : Int).toNat - allows), I ((q : Int) + 1), I (j : Int)] 166), (b5, blk [I ((q : Int) + 1), I (j : Int), I (j : Int), I ((j : Int) + long), I allows] 123), (b1, blk (clRl r) 61)] ++ (X ++ H)) (H0 := [(n2, blk [I (cntI l (j : Int).toNat), I (cntI l ((j : Int) + long).toNat), I (cntI l ((j : Int) + long).toNat - cntI l (j : Int).toNat - allows), I ((q : Int) + 1), I (j : Int)] 166), (b5, blk [I ((q : Int) + 1), I (j : Int), I (j : Int), I ((j : Int) + long), I allows] 123), (b1, blk (clRl r) 61)] ++ H) (B := C) (xs := (edgesQ r l q ++ edgesB l ((q : Int) + 1) long allows j).flatMap encEd) (a := ⟨n2, 0, Option.none⟩) (m := 1) (c := 1) (size := 5) (bytes := 40) (news := [I (cntI l (j : Int).toNat), I (cntI l ((j : Int) + long).toNat), I (cntI l ((j : Int) + long).toNat - cntI l (j : Int).toNat - allows), I ((q : Int) + 1), I (j : Int)]) (fun X => perm_mid [(n2, blk [I (cntI l (j : Int).toNat), I (cntI l ((j : Int) + long).toNat), I (cntI l ((j : Int) + long).toNat - cntI l (j : Int).toNat - allows), I ((q : Int) + 1), I (j : Int)] 166), (b5, blk [I ((q : Int) + 1), I (j : Int), I (j : Int), I ((j : Int) + long), I allows] 123), (b1, blk (clRl r) 61)] X H) rfl rfl hown rfl (news_blk (b := n2) (List.Mem.head _)) (fun u hu => by simp at hu; rcases hu with rfl | rfl | rfl | rfl | rfl <;> rfl) (by omega) (by simp only [maxLen]; omega) (by omega)) rfl rfl ?_)
      rintro _ _ ⟨C2, hown2, _, rfl⟩
      obtain ⟨oe2, ce2, rfl, _⟩ := hown2.shape
      refine QA ?_
      refine vnil (vinblock (vregion ?_))
      refine QQ (vadd rfl rfl (by unfold InR; omega)) rfl ?_
      refine QM ?_
      refine vnil ?_
      first
       | exact vback (IH2 (j + 1, oe2, ce2, C2) ⟨by omega, by omega, by rw [edB_next, edAt_y h70, ← List.append_assoc]; simp only [List.length_append, List.flatMap_append, List.length_cons, List.length_nil, List.flatMap_cons, List.flatMap_nil, List.append_nil] at hown2 ⊢; exact hown2⟩ (by show _ - (j + 1) < _ - j; omega)) ⟨rfl, rfl, by rw [edB_next, edAt_y h70, ← List.append_assoc]; simp only [List.length_append, List.length_cons, List.length_nil]; rfl, rfl, rfl, rfl, True.intro⟩ sb2
       | exact vback (IH2 (j + 1, oe, ce, C) ⟨by omega, by omega, by rw [edB_next, edAt_n h70, List.append_nil]; exact hown⟩ (by show _ - (j + 1) < _ - j; omega)) ⟨rfl, rfl, by rw [edB_next, edAt_n h70, List.append_nil]; rfl, rfl, rfl, rfl, True.intro⟩ sb2
     ·
      refine vskip (vinblock (vregion ?_))
      refine QQ (vadd rfl rfl (by unfold InR; omega)) rfl ?_
      refine QM ?_
      refine vnil ?_
      first
       | exact vback (IH2 (j + 1, oe2, ce2, C2) ⟨by omega, by omega, by rw [edB_next, edAt_y h70, ← List.append_assoc]; simp only [List.length_append, List.flatMap_append, List.length_cons, List.length_nil, List.flatMap_cons, List.flatMap_nil, List.append_nil] at hown2 ⊢; exact hown2⟩ (by show _ - (j + 1) < _ - j; omega)) ⟨rfl, rfl, by rw [edB_next, edAt_y h70, ← List.append_assoc]; simp only [List.length_append, List.length_cons, List.length_nil]; rfl, rfl, rfl, rfl, True.intro⟩ sb2
       | exact vback (IH2 (j + 1, oe, ce, C) ⟨by omega, by omega, by rw [edB_next, edAt_n h70, List.append_nil]; exact hown⟩ (by show _ - (j + 1) < _ - j; omega)) ⟨rfl, rfl, by rw [edB_next, edAt_n h70, List.append_nil]; rfl, rfl, rfl, rfl, True.intro⟩ sb2
   ·
    refine vexit (k' := _) rfl ?_
    refine vinblock (vregion ?_)
    refine QM ?_
    refine QQ (vadd rfl rfl (by unfold InR; omega)) rfl ?_
    refine QA ?_
    refine vnil ?_
    have hj : j = ((l.length : Int) - long + 1).toNat := by omega
    subst hj
    rw [← edQ_next hlo] at hown
    exact vback (IH1 (q + 1, oe, ce, C) ⟨by omega, hown⟩ (by show _ - (q + 1) < _ - q; omega)) ⟨rfl, rfl, by rw [edQ_next hlo]; rfl, rfl, True.intro⟩ sb2
  ·
   refine vexit (k' := _) rfl ?_
   refine KK2 ?_
   refine QM ?_
   refine QA ?_
   refine vnil ?_
   refine vret (V1 (C ++ H) Tryz.func60 ?_)
   (have hq3 : q = 3 := (by omega)); subst hq3; exact ⟨oe, ce, C, rfl, rfl, hown⟩
end Go.Proofs.YtmfmecgiaekelaaGreatDoor
namespace Go.Proofs.YtmfmecgiaekelaaGreatDoor
open Go
set_option maxRecDepth 100000
attribute [local irreducible] tightP hullP rootP farP rows endsOf
abbrev vBB (a b : Int) : Value := .agg #[I a, I b]
theorem c_wide (a b : Int) (h : InR (b - a)) : VPure Tryz.prog 114 [vBB a b] (.bool (decide (b - a > 256))) := by
 intro H
 refine CV 9 Tryz.func114 ?_
 refine KK2 ?_
 refine BX fun b1 => ?_
 refine QA ?_
 refine KK3 ?_
 refine QF ?_
 refine QL ?_
 refine QF ?_
 refine QL ?_
 refine QQ (vsub rfl rfl h) rfl ?_
 refine QQ (vgtr rfl rfl) rfl ?_
 refine QA ?_
 refine vnil ?_
 refine vret (V1 (H) Tryz.func114 ?_)
 exact ⟨rfl, rfl⟩
theorem c_about (n : Int) : VPure Tryz.prog 217 [I n] (vBB (-(rootE n).1) (rootE n).1) := by
 have hr : 0 ≤ (rootE n).1 ∧ (rootE n).1 ≤ 1099511627776 := by
  unfold rootE; split
  · rename_i h; have h1 := (rootP_is h.1); unfold IsRt at h1; refine ⟨h1.1, ?_⟩; have h2 := h1.2.1; by_cases h3 : rootP n ≤ 1; omega; have := Int.mul_le_mul (show (1 : Int) ≤ rootP n by omega) (Int.le_refl (rootP n)) (by omega) (by omega); omega
  · decide
 intro H
 refine CV 14 Tryz.func217 ?_
 refine KK2 ?_
 refine AL fun b1 => ?_
 refine KK3 ?_
 refine QM ?_
 refine QQ (vcp rfl rfl rfl (c_Root n)) rfl ?_
 refine QM ?_
 refine QX ?_
 refine QX ?_
 refine QA ?_
 refine QA ?_
 refine KK3 ?_
 refine QM ?_
 refine QQ (vneg rfl (by unfold InR; omega)) rfl ?_
 refine QM ?_
 refine QB ?_
 refine SN ?_
 refine vnil ?_
 refine vret (VN (H) Tryz.func217 ?_)
 exact ⟨rfl, rfl⟩
theorem c_shift (a b x y m : Int) (h1 : InR (a + x)) (h2 : InR (b + y)) (h3 : InR (-m)) : VPure Tryz.prog 193 [vBB a b, vBB x y, I m] (vBB (max (a + x) (-m)) (min (b + y) m)) := by
 intro H
 refine CV 23 Tryz.func193 ?_
 refine KK2 ?_
 refine BX fun b1 => ?_
 refine BX fun b2 => ?_
 refine AL fun b3 => ?_
 refine KK3 ?_
 refine QF ?_
 refine QL ?_
 refine QF ?_
 refine QL ?_
 refine QQ (vadd rfl rfl (by first | exact h1 | exact h2 | exact h3)) rfl ?_
 refine QM ?_
 refine QQ (vneg rfl (by first | exact h1 | exact h2 | exact h3)) rfl ?_
 refine QQ (vmax2 rfl rfl) rfl ?_
 refine QF ?_
 refine QL ?_
 refine QF ?_
 refine QL ?_
 refine QQ (vadd rfl rfl (by first | exact h1 | exact h2 | exact h3)) rfl ?_
 refine QM ?_
 refine QQ (vmin2 rfl rfl) rfl ?_
 refine QB ?_
 refine SN ?_
 refine vnil ?_
 refine vret (VN (H) Tryz.func193 ?_)
 exact ⟨rfl, rfl⟩
end Go.Proofs.YtmfmecgiaekelaaGreatDoor
namespace Go.Proofs.YtmfmecgiaekelaaGreatDoor
open Go
set_option maxRecDepth 100000
attribute [local irreducible] tightP hullP rootP farP rows endsOf
abbrev r9 : Rg := ⟨⟨0, 9⟩, ⟨0, 9⟩, ⟨0, 18⟩, ⟨-9, 9⟩⟩
abbrev rb : Rg := ⟨⟨0, 1⟩, ⟨0, 1⟩, ⟨0, 2⟩, ⟨-1, 1⟩⟩
abbrev spR : Rg := ⟨⟨-1, 1⟩, ⟨-1, 1⟩, ⟨-2, 2⟩, ⟨-2, 2⟩⟩
def shB (a b : Bd) (m : Int) : Bd := ⟨max (a.lo + b.lo) (-m), min (a.hi + b.hi) m⟩
def winR (r s : Rg) : Rg := ⟨shB r.x s.x 32768, shB r.y s.y 32768, shB r.s s.s 65536, shB r.d s.d 65536⟩
theorem m_nodes (w : World) : (method (Tryz.prog.types.size + Made.depth) 272 (.agg #[I 0, I 1, I 0, I 2]) "paravane/fix.nodes").run Tryz.prog w = .ok (214, .agg #[I 0, I 1]) w := by kernel_rfl
theorem m_span (w : World) : (method (Tryz.prog.types.size + Made.depth) 272 (.agg #[I 0, I 1, I 0, I 2]) "paravane/fix.span").run Tryz.prog w = .ok (216, .agg #[I 0, I 1, I 0, I 2]) w := by kernel_rfl
theorem vinvp {P : Program} {N : Nat} {E : Env} {D : List Deferred} {H : Heap} {d : Nat} {ty : TypeId} {pos : String} {af : Array Edge} {g : Option (Nat × Bool)} {recv : Operand} {name : String} {al : List Operand} {ats : Array TypeId} {gf : FuncId} {T' : TypeId} {u u' v : Value} {vs : List Value} [hf : TFn P gf]
    (hx : ev E recv = some (.iface T' u)) (hm : ∀ w, (method (P.types.size + Made.depth) T' u name).run P w = .ok (gf, u') w) (ha : evL E al = some vs) (hc : VPure P gf (u' :: vs) v) :
    OQ P N E D H ⟨some d, .call ⟨.invoke recv name, al.toArray, ats⟩, ty, pos, af, g⟩ v := vinv hx hm ha (hc H) (fun _ _ h => ⟨v, h.1, rfl, h.2⟩)
theorem c_fwithin (n a b : Int) : VPure Tryz.prog 113 [I n, I a, I b] (.bool (decide (a ≤ n ∧ n ≤ b))) := by
 intro H
 refine CV 15 Tryz.func113 ?_
 refine KK2 ?_
 refine QA ?_
 refine KK3 ?_
 refine QM ?_
 refine QM ?_
 refine QQ (vgeq rfl rfl) rfl ?_
 refine QM ?_
 refine vsplitd (d := 10) rfl (fun h10 => ?_) (fun h10 => ?_)
 ·
  refine YM ?_
  refine YM ?_
  refine YY (vleq rfl rfl) rfl ?_
  refine QT ?_
  refine QA ?_
  refine vnil ?_
  refine vret (V1 (H) Tryz.func113 ?_)
  exact ⟨obd (by omega), rfl⟩
 ·
  refine NO ?_
  refine NO ?_
  refine NO ?_
  refine QU ?_
  refine QA ?_
  refine vnil ?_
  refine vret (V1 (H) Tryz.func113 ?_)
  exact ⟨obf (by omega), rfl⟩
theorem fx_turn (a b : Int) (h1 : InR (-a)) (h2 : InR (-b)) : VPure Tryz.prog 194 [vBB a b] (vBB (-b) (-a)) := by
 intro H
 refine CV 10 Tryz.func194 ?_
 refine KK2 ?_
 refine BX fun b1 => ?_
 refine AL fun b2 => ?_
 refine KK3 ?_
 refine QF ?_
 refine QL ?_
 refine QQ (vneg rfl (by first | exact h1 | exact h2)) rfl ?_
 refine QF ?_
 refine QL ?_
 refine QQ (vneg rfl (by first | exact h1 | exact h2)) rfl ?_
 refine QB ?_
 refine SN ?_
 refine vnil ?_
 refine vret (VN (H) Tryz.func194 ?_)
 exact ⟨rfl, rfl⟩
theorem fx_back  : VPure Tryz.prog 173 [vR spR] (vR spR) := by
 intro H
 refine CV 21 Tryz.func173 ?_
 refine KK2 ?_
 refine BX fun b1 => ?_
 refine AL fun b2 => ?_
 refine KK3 ?_
 refine QA ?_
 refine vnil (vseq ?_)
 refine DR [(.q, 0), (.q, 1), (.q, 2), (.q, 3), (.q, 4), (.q, 5), (.q, 6), (.q, 7), (.q, 8), (.q, 9), (.q, 10), (.q, 11), (.q, 12), (.q, 13), (.q, 14), (.q, 15), (.q, 16), (.c, 17)] Tryz.mixed ?_
 refine DM ?_
 refine DF ?_
 refine DN ?_
 refine DD (vcp rfl rfl rfl ((fx_turn (-1) 1 (by unfold InR; omega) (by unfold InR; omega)))) rfl ?_
 refine DM ?_
 refine DF ?_
 refine DN ?_
 refine DD (vcp rfl rfl rfl ((fx_turn (-1) 1 (by unfold InR; omega) (by unfold InR; omega)))) rfl ?_
 refine DM ?_
 refine DF ?_
 refine DN ?_
 refine DD (vcp rfl rfl rfl ((fx_turn (-2) 2 (by unfold InR; omega) (by unfold InR; omega)))) rfl ?_
 refine DM ?_
 refine DF ?_
 refine DN ?_
 refine DD (vcp rfl rfl rfl ((fx_turn (-2) 2 (by unfold InR; omega) (by unfold InR; omega)))) rfl ?_
 refine DB ?_
 refine vdcs (mone rfl) (vstn rfl rfl rfl rfl rfl) rfl ?_
 refine vdend rfl ?_
 refine vret (VN (H) Tryz.func173 ?_)
 exact ⟨rfl, rfl⟩
theorem fx_about2 : VPure Tryz.prog 217 [I 2] (vBB (-1) 1) := by
  have := c_about 2
  rw [show (rootE 2).1 = 1 by kernel_rfl] at this; exact this
theorem fx_about4 : VPure Tryz.prog 217 [I 4] (vBB (-2) 2) := by
  have := c_about 4
  rw [show (rootE 4).1 = 2 by kernel_rfl] at this; exact this
theorem fx_span  : VPure Tryz.prog 216 [.agg #[I 0, I 1, I 0, I 2]] (vR spR) := by
 intro H
 refine CV 22 Tryz.func216 ?_
 refine KK2 ?_
 refine BX fun b1 => ?_
 refine AL fun b2 => ?_
 refine vnil (vseq ?_)
 refine DR [(.q, 0), (.q, 1), (.q, 2), (.q, 3), (.q, 4), (.q, 5), (.q, 6), (.q, 7), (.q, 8), (.q, 9), (.q, 10), (.q, 11), (.q, 12), (.q, 13), (.q, 14), (.q, 15), (.q, 16), (.q, 17), (.q, 18), (.c, 19)] Tryz.mixed ?_
 refine DF ?_
 refine DF ?_
 refine DL ?_
 refine DD (vcp rfl rfl rfl (fx_about2)) rfl ?_
 refine DF ?_
 refine DF ?_
 refine DL ?_
 refine DD (vcp rfl rfl rfl (fx_about2)) rfl ?_
 refine DF ?_
 refine DF ?_
 refine DL ?_
 refine DD (vmul rfl rfl (by unfold InR; omega)) rfl ?_
 refine DD (vcp rfl rfl rfl (fx_about4)) rfl ?_
 refine DF ?_
 refine DF ?_
 refine DL ?_
 refine DD (vmul rfl rfl (by unfold InR; omega)) rfl ?_
 refine DD (vcp rfl rfl rfl (fx_about4)) rfl ?_
 refine DB ?_
 refine vdcs (mone rfl) (vstn rfl rfl rfl rfl rfl) rfl ?_
 refine vdend rfl ?_
 refine vret (VN (H) Tryz.func216 ?_)
 exact ⟨rfl, rfl⟩
theorem fx_nodes  : VPure Tryz.prog 214 [.agg #[I 0, I 1]] (tup [I 0, I 1]) := by
 intro H
 refine CV 8 Tryz.func214 ?_
 refine KK2 ?_
 refine BX fun b1 => ?_
 refine QA ?_
 refine QA ?_
 refine vnil (vseq ?_)
 refine DR [(.q, 0), (.q, 1), (.q, 2), (.q, 3), (.q, 4), (.q, 5)] Tryz.mixed ?_
 refine DF ?_
 refine DL ?_
 refine DF ?_
 refine DL ?_
 refine DA ?_
 refine DA ?_
 refine vdend rfl ?_
 refine vret (vr2 (H' := H) Tryz.func214 rfl (.tmp rfl) (.tmp rfl) sb ?_)
 exact ⟨rfl, rfl⟩
theorem fx_window (r s : Rg) (hr : r.sm 1048576) (hs : s.sm 1048576) : VPure Tryz.prog 172 [vR r, vR s] (vR (winR r s)) := by
 unfold Rg.sm Bd.sm at hr hs
 intro H
 refine CV 26 Tryz.func172 ?_
 refine KK2 ?_
 refine BX fun b1 => ?_
 refine BX fun b2 => ?_
 refine AL fun b3 => ?_
 refine vnil (vseq ?_)
 refine DR [(.q, 0), (.q, 1), (.q, 2), (.q, 3), (.q, 4), (.q, 5), (.q, 6), (.q, 7), (.q, 8), (.q, 9), (.q, 10), (.q, 11), (.q, 12), (.q, 13), (.q, 14), (.q, 15), (.q, 16), (.q, 17), (.q, 18), (.q, 19), (.q, 20), (.c, 21)] Tryz.mixed ?_
 refine DF ?_
 refine DN ?_
 refine DF ?_
 refine DN ?_
 refine DD (vcp rfl rfl rfl (c_shift r.x.lo r.x.hi s.x.lo s.x.hi 32768 (by unfold InR; omega) (by unfold InR; omega) (by unfold InR; omega))) rfl ?_
 refine DF ?_
 refine DN ?_
 refine DF ?_
 refine DN ?_
 refine DD (vcp rfl rfl rfl (c_shift r.y.lo r.y.hi s.y.lo s.y.hi 32768 (by unfold InR; omega) (by unfold InR; omega) (by unfold InR; omega))) rfl ?_
 refine DF ?_
 refine DN ?_
 refine DF ?_
 refine DN ?_
 refine DD (vcp rfl rfl rfl (c_shift r.s.lo r.s.hi s.s.lo s.s.hi 65536 (by unfold InR; omega) (by unfold InR; omega) (by unfold InR; omega))) rfl ?_
 refine DF ?_
 refine DN ?_
 refine DF ?_
 refine DN ?_
 refine DD (vcp rfl rfl rfl (c_shift r.d.lo r.d.hi s.d.lo s.d.hi 65536 (by unfold InR; omega) (by unfold InR; omega) (by unfold InR; omega))) rfl ?_
 refine DB ?_
 refine vdcs (mone rfl) (vstn rfl rfl rfl rfl rfl) rfl ?_
 refine vdend rfl ?_
 refine vret (VN (H) Tryz.func172 ?_)
 exact ⟨rfl, rfl⟩
theorem fx_cut (r w x : Rg) (h : meetE r w = (x, 0)) : VPure Tryz.prog 171 [vR r, vR w] (vR x) := by
 have hM := c_Meet r w
 rw [h] at hM
 intro H
 refine CV 18 Tryz.func171 ?_
 refine KK2 ?_
 refine BX fun b1 => ?_
 refine BX fun b2 => ?_
 refine AL fun b3 => ?_
 refine KK3 ?_
 refine QN ?_
 refine QN ?_
 refine QQ (vcp rfl rfl rfl (hM)) rfl ?_
 refine QM ?_
 refine QX ?_
 refine QX ?_
 refine AL fun b4 => ?_
 refine SN ?_
 refine QA ?_
 refine vnil (vseq (KK2 ?_))
 refine QM ?_
 refine QG ?_
 refine vknow (d := 14) (b' := false) rfl rfl ?_
 refine vnil (vcondf rfl (vskip (KK2 ?_)))
 refine QN ?_
 refine SN ?_
 refine vnil ?_
 refine vret (VN (H) Tryz.func171 ?_)
 exact ⟨rfl, rfl⟩
theorem fx_possible (a b : Rg) (m : Bd) (h : gapE a b = (m, 0)) (h1 : m.lo ≤ 2) (h2 : 0 ≤ m.hi) : VPure Tryz.prog 174 [.iface 272 (.agg #[I 0, I 1, I 0, I 2]), vR a, vR b] (.bool true) := by
 have hG := c_Gap a b
 rw [h] at hG
 intro H
 refine CV 35 Tryz.func174 ?_
 refine KK2 ?_
 refine BX fun b1 => ?_
 refine BX fun b2 => ?_
 refine QA ?_
 refine KK3 ?_
 refine QM ?_
 refine vnil (vblock (KK2 ?_))
 refine QQ (vtay (by kernel_rfl) rfl) rfl ?_
 refine QX ?_
 refine QX ?_
 refine vnil (vcondt rfl (KK2 ?_))
 refine AL fun b3 => ?_
 refine SN ?_
 refine KK3 ?_
 refine QN ?_
 refine QN ?_
 refine QQ (vcp rfl rfl rfl (hG)) rfl ?_
 refine QM ?_
 refine QX ?_
 refine QX ?_
 refine AL fun b4 => ?_
 refine SN ?_
 refine QA ?_
 refine KK3 ?_
 refine QF ?_
 refine QL ?_
 refine QF ?_
 refine QF ?_
 refine QL ?_
 refine QQ (vleq rfl rfl) rfl ?_
 refine vknow (d := 26) (b' := true) rfl (decide_eq_true h1) ?_
 refine QM ?_
 refine YF ?_
 refine YF ?_
 refine YL ?_
 refine YF ?_
 refine YL ?_
 refine YY (vleq rfl rfl) rfl ?_
 refine vknow (d := 33) (b' := true) rfl (decide_eq_true h2) ?_
 refine QT ?_
 refine QA ?_
 refine vnil ?_
 refine vret (V1 (H) Tryz.func174 ?_)
 exact ⟨rfl, rfl⟩
theorem fx_read  : VPure Tryz.prog 115 [.agg #[I 1, I 0, I 1, I 0, I 2, I 0, I 0, I 0, I 0, I 0, I 0, I 0, I 0, I 0], I 2] (tup [.iface 272 (.agg #[I 0, I 1, I 0, I 2]), .bool true]) := by
 intro H
 refine CV 119 Tryz.func115 ?_
 refine KK2 ?_
 refine BX fun b1 => ?_
 refine QA ?_
 refine QA ?_
 refine KK3 ?_
 refine QF ?_
 refine QL ?_
 refine QF ?_
 refine QL ?_
 refine QB ?_
 refine AL fun b2 => ?_
 refine SN ?_
 refine KK3 ?_
 refine QF ?_
 refine QL ?_
 refine QM ?_
 refine QQ (vsub rfl rfl (by unfold InR; decide)) rfl ?_
 refine QQ (vcp rfl rfl rfl (c_fwithin _ _ _)) rfl ?_
 refine vknow (d := 18) (b' := true) rfl (by decide) ?_
 refine QM ?_
 refine YF ?_
 refine YL ?_
 refine YM ?_
 refine YY (vsub rfl rfl (by unfold InR; decide)) rfl ?_
 refine YY (vcp rfl rfl rfl (c_fwithin _ _ _)) rfl ?_
 refine vknow (d := 24) (b' := true) rfl (by decide) ?_
 refine QT ?_
 refine QM ?_
 refine YF ?_
 refine YL ?_
 refine YF ?_
 refine YL ?_
 refine YG ?_
 refine vknow (d := 31) (b' := true) rfl (by decide) ?_
 refine QT ?_
 refine QA ?_
 refine KK3 ?_
 refine QF ?_
 refine QL ?_
 refine QF ?_
 refine QL ?_
 refine QF ?_
 refine QL ?_
 refine QB ?_
 refine AL fun b3 => ?_
 refine SN ?_
 refine vnil (vseq (KK2 ?_))
 refine QF ?_
 refine QL ?_
 refine vnil (vblock (KK2 ?_))
 refine QE ?_
 refine vknow (d := 43) (b' := true) rfl (by decide) ?_
 refine QA ?_
 refine vnil (vcondt rfl (vseq ?_))
 refine vdraw1 (d := 8) rfl [(.q, 0), (.q, 1), (.q, 2), (.q, 3), (.q, 4), (.s, 5), (.q, 6), (.s, 7)] Tryz.mixed (by kernel_rfl) (allocOk_of _ (by kernel_rfl)) ?_
 refine DF ?_
 refine DL ?_
 refine DF ?_
 refine DL ?_
 refine DF ?_
 refine vds (mone rfl) (vst1 rfl rfl rfl rfl) rfl ?_
 refine DF ?_
 refine vds (mone rfl) (vst1 rfl rfl rfl rfl) rfl ?_
 refine vdend rfl (vseq ?_)
 refine DR [(.q, 0), (.q, 1), (.q, 2), (.q, 3), (.q, 4), (.q, 5), (.q, 6), (.q, 7), (.q, 8), (.q, 9), (.q, 10), (.q, 11), (.q, 12), (.q, 13), (.q, 14), (.q, 15), (.q, 16), (.q, 17), (.q, 18), (.q, 19), (.q, 20), (.q, 21), (.q, 22), (.q, 23), (.q, 24), (.q, 25), (.q, 26), (.q, 27)] Tryz.mixed ?_
 refine DN ?_
 refine DF ?_
 refine DL ?_
 refine DF ?_
 refine DL ?_
 refine DB ?_
 refine DB ?_
 refine DD (vmki (by kernel_rfl) rfl) rfl ?_
 refine DM ?_
 refine DM ?_
 refine WN ?_
 refine WN ?_
 refine WW (veqs rfl rfl rfl rfl rfl rfl) rfl ?_
 refine vdknow (d := 62) (b' := true) rfl (by decide) ?_
 refine DT ?_
 refine DM ?_
 refine WF ?_
 refine WL ?_
 refine WW (vgeq rfl rfl) rfl ?_
 refine vdknow (d := 67) (b' := true) rfl (by decide) ?_
 refine DT ?_
 refine DM ?_
 refine WF ?_
 refine WL ?_
 refine WF ?_
 refine WL ?_
 refine WW (vcp rfl rfl rfl (c_fwithin _ _ _)) rfl ?_
 refine vdknow (d := 74) (b' := true) rfl (by decide) ?_
 refine DT ?_
 refine DA ?_
 refine DA ?_
 refine vdend rfl ?_
 refine vret (vr2 (H' := H) Tryz.func115 rfl (.tmp rfl) (.tmp rfl) sb ?_)
 exact ⟨rfl, rfl⟩
end Go.Proofs.YtmfmecgiaekelaaGreatDoor
namespace Go.Proofs.YtmfmecgiaekelaaGreatDoor
open Go
set_option maxRecDepth 100000
attribute [local irreducible] tightP hullP rootP farP rows endsOf
section
variable {P : Program} {b : Frame} {a : Act} {k : List Item} {cs : List Frame} {w : World} {ops : Array Oper}
theorem stepD_val {i : Nat} {rest : List Nat} {o : Oper} {v : Value} (hb : b.roundOf = Option.none) (ho : ops[i]? = some o) (hg : o.guard = Option.none) (h : (execOp a.eval o).run P w = .ok (.value v) w) :
    step P (lone (b.atR a (.inRegion ops (i :: rest) :: k)) cs w) = .next (lone (b.atR (a.put o.dst v) (.inRegion ops rest :: k)) cs w) := by
  refine step_lone_go ?_
  have hs : o.semAt b.roundOf a.eval = execOp a.eval o := by rw [hb]; exact Oper.semAt_none _ _
  have hf := Frame.finish_atR b a ops i rest k v
  rw [ho] at hf
  simp only [Option.bind_some] at hf
  rw [stepGR_op ho (by simp [Region.wanted, hg]), hs, ← hf]
  simp [stepG.apply, h]
theorem stepD_rec {i d : Nat} {rest : List Nat} {ats : Array TypeId} {ty : TypeId} {pos : String} {af : Array Edge} {c : Frame} (hb : b.roundOf = Option.none) (hk : b.kind = .deferred) (hc : c.mode = .returning) (ho : ops[i]? = some ⟨some d, .call ⟨.builtin .recover, #[], ats⟩, ty, pos, af, Option.none⟩) :
    step P (lone (b.atR a (.inRegion ops (i :: rest) :: k)) (c :: cs) w) = .next (lone (b.atR (a.put (some d) .nilIface) (.inRegion ops rest :: k)) (c :: cs) w) := by
  refine step_lone_go ?_
  have h : (execOp a.eval ⟨some d, .call ⟨.builtin .recover, #[], ats⟩, ty, pos, af, Option.none⟩).run P w = .ok .recover w := by
    simp [execOp, resolve, invoke, builtin]
  have hs : (⟨some d, .call ⟨.builtin .recover, #[], ats⟩, ty, pos, af, Option.none⟩ : Oper).semAt b.roundOf a.eval = execOp a.eval ⟨some d, .call ⟨.builtin .recover, #[], ats⟩, ty, pos, af, Option.none⟩ := by rw [hb]; exact Oper.semAt_none _ _
  have hf := Frame.finish_atR b a ops i rest k .nilIface
  rw [ho] at hf
  simp only [Option.bind_some] at hf
  rw [stepGR_op ho (by simp [Region.wanted]), hs, ← hf]
  simp [stepG.apply, h, hb, hk, hc, tryRecover, Frame.atR]
end
theorem vcallD_enter {P : Program} {g : FuncId} {fn : Func} {c : Code} {args : Array Value} (hf : P.funcs[g]? = some fn) (hb : fn.body = some c) :
    Frame.enter P g args .deferred = ({ (default : Frame) with fn := g, kind := .deferred } : Frame).atR ⟨args ++ Array.replicate (fn.ntmps - args.size) undef, []⟩ [.code c] := by
  simp [Frame.enter, Frame.atR, hf, hb]
  rfl
theorem fx_recD (b : Nat) (H : Heap) : VCallD Tryz.prog 144 #[ptr b] H (fun H' => H' = H) := by
  intro w c cs hE hm
  refine ⟨w, H, rfl, Fr.refl hE, ?_⟩
  rw [vcallD_enter Tryz.func144 rfl]
  refine .head stepR_seq ?_
  refine .head stepR_region ?_
  refine .head (stepD_rec (i := 0) (rest := [1]) (d := 4) rfl rfl hm rfl) ?_
  refine .head (stepD_val (i := 1) (rest := []) (v := .nilIface) rfl rfl rfl (by kernel_rfl)) ?_
  refine .head stepR_region_end ?_
  refine .head stepR_seq ?_
  refine .head stepR_region ?_
  refine .head (stepD_val (i := 0) (rest := [1]) (v := .nilIface) rfl rfl rfl (by kernel_rfl)) ?_
  refine .head (stepD_val (i := 1) (rest := []) (v := .bool false) rfl rfl rfl (by kernel_rfl)) ?_
  refine .head stepR_region_end ?_
  refine .head (stepR_cond (t := false) (by kernel_rfl)) ?_
  refine .head stepR_skip ?_
  refine .head (stepR_end rfl) ?_
  refine .one ((step_going_returned (P := Tryz.prog) (c := c) (cs := cs) (w := w) (v := .tuple #[]) rfl ⟨rfl, rfl, _, Tryz.func144, ?_⟩).trans ?_)
  · kernel_rfl
  have e : ({ c with mode := settle c.mode } : Frame) = c := by
    cases c
    simp only at hm
    subst hm
    rfl
  rw [e]
def c2 (a b : Rg) (rest : List Value) : List Value := clR a ++ (clR b ++ rest)
theorem subA (a b : Rg) (rest : List Value) : sub (c2 a b rest) 0 8 = some (clR a) := by simp [sub, tak, c2]
theorem subB (a b : Rg) (rest : List Value) : sub (c2 a b rest) 8 8 = some (clR b) := by simp [sub, tak, c2]
theorem putA (a b c : Rg) (rest : List Value) : put (c2 a b rest) 0 (clR c) = some (c2 c b rest) := by simp [put, c2]
theorem putB (a b c : Rg) (rest : List Value) : put (c2 a b rest) 8 (clR c) = some (c2 a c rest) := by simp [put, c2]
theorem fx_failed {gr : FuncId} [TFn Tryz.prog gr] {caps : List Value} {R : Heap → Prop} (H : Heap) (hc : VCall Tryz.prog gr caps.toArray H (fun o H' => o = .val (.tuple #[]) ∧ R H')) : VCall Tryz.prog 117 [.func (.func gr) #[] caps.toArray].toArray H (fun o H' => ∃ v, o = .val v ∧ v = .bool false ∧ R H') := by
 refine CV 6 Tryz.func117 ?_
 refine KK2 ?_
 refine AL fun b1 => ?_
 refine KK3 ?_
 refine QQ (vmf rfl) rfl ?_
 refine vone rfl (vxdef rfl ?_)
 refine KK3 ?_
 refine QM ?_
 refine vone rfl (vxg (vcg (R := fun v H' => ∃ A', H' = (b1, blk [.bool false] 4) :: A' ∧ R A') rfl rfl rfl (VCall.conv (VCall.perm (List.perm_append_comm (l₁ := [(b1, blk [.bool false] 4)]) (l₂ := H)) (VCall.frame hc)) (R' := fun o H' => o = .val (.tuple #[]) ∧ ∃ A', H' = (b1, blk [.bool false] 4) :: A' ∧ R A') (fun o H' ⟨A', e1, e2, e3⟩ => ⟨_, by rw [e1]; exact List.perm_append_comm, e2, A', rfl, e3⟩)) (fun o H' h => ⟨_, h.1, h.2⟩)) rfl rfl ?_)
 rintro _ _ ⟨A', rfl, hR⟩
 refine KK3 ?_
 refine SU ?_
 refine vnil ?_
 refine vret (vret_def (gf := 144) (caps := [ptr b1]) (fx_recD b1 _) ?_)
 rintro H' rfl
 exact vr1 (H' := A') Tryz.func117 rfl (.cell1 rfl rfl) sb2 ⟨_, rfl, rfl, hR⟩
theorem fx_stepT (g1 k1 g2 k2 : Nat) (r1 b : Rg) (rest : List Value) (m : Bd) (hr : r1.sm 1048576) (h1 : meetE zR (winR r1 spR) = (zR, 0)) (h2 : meetE r1 (winR zR spR) = (b, 0)) (h3 : gapE zR b = (m, 0)) (h4 : m.lo ≤ 2) (h5 : 0 ≤ m.hi) (hne : decide ([b.x.lo, b.x.hi, b.y.lo, b.y.hi, b.s.lo, b.s.hi, b.d.lo, b.d.hi] ≠ [r1.x.lo, r1.x.hi, r1.y.lo, r1.y.hi, r1.s.lo, r1.s.hi, r1.d.lo, r1.d.hi]) = true) (H : Heap) : VCall Tryz.prog 146 [.agg #[.slice (some ⟨g1, 0, Option.none⟩) 2 k1, .slice (some ⟨g2, 0, Option.none⟩) 1 k2], .iface 272 (.agg #[I 0, I 1, I 0, I 2])].toArray ((g1, blk (c2 zR r1 rest) 28) :: H) (fun o H' => ∃ v, o = .val v ∧ v = .bool true ∧ H' = (g1, blk (c2 zR b rest) 28) :: H) := by
 have hs : spR.sm 1048576 := by unfold Rg.sm Bd.sm; decide
 have hz : zR.sm 1048576 := by unfold zR Rg.sm Bd.sm; decide
 refine CV 74 Tryz.func146 ?_
 refine KK2 ?_
 refine BX fun b1 => ?_
 refine QA ?_
 refine KK3 ?_
 refine QM ?_
 refine QQ (vinvp rfl m_nodes rfl fx_nodes) rfl ?_
 refine QM ?_
 refine QX ?_
 refine QX ?_
 refine QA ?_
 refine QA ?_
 refine vnil (vseq ?_)
 refine vdraw [(.q, 0), (.q, 1), (.q, 2), (.q, 3), (.q, 4), (.q, 5), (.q, 6), (.q, 7), (.q, 8), (.q, 9), (.q, 10), (.q, 11), (.q, 12), (.q, 13), (.q, 14), (.a (blk [.int .i64 0, .int .i64 0, .int .i64 0, .int .i64 0, .int .i64 0, .int .i64 0, .int .i64 0, .int .i64 0] 28), 15), (.s, 16)] Tryz.mixed (by kernel_rfl) ⟨⟨_, _, _, _, _, rfl, _, inferInstance, rfl⟩, True.intro⟩ ?_
 refine DF ?_
 refine DL ?_
 refine DM ?_
 refine DD (vis rfl rfl (by omega)) rfl ?_
 refine DD (vldn rfl (subA _ _ _)) rfl ?_
 refine DF ?_
 refine DL ?_
 refine DM ?_
 refine DD (vis rfl rfl (by omega)) rfl ?_
 refine DD (vldn rfl (subB _ _ _)) rfl ?_
 refine DM ?_
 refine DD (vinvp rfl m_span rfl fx_span) rfl ?_
 refine DD (vcp rfl rfl rfl (fx_back)) rfl ?_
 refine DD (vcp rfl rfl rfl (fx_window r1 spR hr hs)) rfl ?_
 refine DD (vcp rfl rfl rfl (fx_cut zR _ zR h1)) rfl ?_
 refine vda rfl rfl (fun b2 => ?_)
 refine vds (mone rfl) (vstn rfl rfl rfl rfl rfl) rfl ?_
 refine vdend rfl (vseq ?_)
 refine vdraw [(.q, 0), (.q, 1), (.q, 2), (.q, 3), (.q, 4), (.q, 5), (.q, 6), (.q, 7), (.q, 8), (.q, 9), (.a (blk [.int .i64 0, .int .i64 0, .int .i64 0, .int .i64 0, .int .i64 0, .int .i64 0, .int .i64 0, .int .i64 0] 28), 10), (.s, 11)] Tryz.mixed (by kernel_rfl) ⟨⟨_, _, _, _, _, rfl, _, inferInstance, rfl⟩, True.intro⟩ ?_
 refine DF ?_
 refine DL ?_
 refine DM ?_
 refine DD (vis rfl rfl (by omega)) rfl ?_
 refine DD (vldn rfl (subB _ _ _)) rfl ?_
 refine DN ?_
 refine DM ?_
 refine DD (vinvp rfl m_span rfl fx_span) rfl ?_
 refine DD (vcp rfl rfl rfl (fx_window zR spR hz hs)) rfl ?_
 refine DD (vcp rfl rfl rfl (fx_cut r1 _ b h2)) rfl ?_
 refine vda rfl rfl (fun b3 => ?_)
 refine vds (mone rfl) (vstn rfl rfl rfl rfl rfl) rfl ?_
 refine vdend rfl (vseq (KK2 ?_))
 refine QM ?_
 refine QN ?_
 refine QN ?_
 refine QQ (vcp rfl rfl rfl (fx_possible zR b m h3 h4 h5)) rfl ?_
 refine QQ (vnot rfl) rfl ?_
 refine vknow (d := 44) (b' := false) rfl rfl ?_
 refine vnil (vcondf rfl (vskip (vseq ?_)))
 refine DR [(.q, 0), (.q, 1), (.q, 2), (.q, 3), (.q, 4), (.q, 5), (.q, 6), (.q, 7), (.q, 8), (.q, 9), (.q, 10), (.q, 11), (.q, 12), (.q, 13), (.q, 14), (.q, 15), (.q, 16)] Tryz.mixed ?_
 refine DN ?_
 refine DF ?_
 refine DL ?_
 refine DM ?_
 refine DD (vis rfl rfl (by omega)) rfl ?_
 refine DD (vldn rfl (subA _ _ _)) rfl ?_
 refine DD (vnes rfl rfl rfl rfl rfl rfl) rfl ?_
 refine vdknow (d := 53) (b' := false) rfl (by decide) ?_
 refine DM ?_
 refine WN ?_
 refine WF ?_
 refine WL ?_
 refine WM ?_
 refine WW (vis rfl rfl (by omega)) rfl ?_
 refine WW (vldn rfl (subB _ _ _)) rfl ?_
 refine WW (vnes rfl rfl rfl rfl rfl rfl) rfl ?_
 refine vdknow (d := 61) (b' := true) rfl hne ?_
 refine DU ?_
 refine DA ?_
 refine vdend rfl (vseq ?_)
 refine vdrawP (G0 := [(g1, blk (c2 zR r1 rest) 28)]) (H0 := [(b3, blk (clR b) 28), (b2, blk (clR zR) 28), (b1, blk [.slice (some ⟨g1, 0, Option.none⟩) 2 k1, .slice (some ⟨g2, 0, Option.none⟩) 1 k2] 197)] ++ H) (perm_mid [(b3, blk (clR b) 28), (b2, blk (clR zR) 28), (b1, blk [.slice (some ⟨g1, 0, Option.none⟩) 2 k1, .slice (some ⟨g2, 0, Option.none⟩) 1 k2] 197)] [(g1, blk (c2 zR r1 rest) 28)] H) [(.q, 0), (.q, 1), (.q, 2), (.q, 3), (.q, 4), (.q, 5), (.q, 6), (.q, 7), (.q, 8), (.s, 9), (.q, 10), (.s, 11)] Tryz.mixed (by kernel_rfl) (allocOk_of _ (by kernel_rfl)) ?_
 refine DF ?_
 refine DL ?_
 refine DM ?_
 refine DF ?_
 refine DL ?_
 refine DM ?_
 refine DN ?_
 refine DN ?_
 refine DD (vis rfl rfl (by omega)) rfl ?_
 refine vds (mone rfl) (vstn (cs' := c2 zR r1 rest) rfl rfl rfl rfl (putA _ _ _ _)) rfl ?_
 refine DD (vis rfl rfl (by omega)) rfl ?_
 refine vds (mone rfl) (vstn (cs' := c2 zR b rest) rfl rfl rfl rfl (putB _ _ _ _)) rfl ?_
 refine vdend rfl (KK2 ?_)
 refine QM ?_
 refine QA ?_
 refine vnil ?_
 refine vret (V1 ((g1, blk (c2 zR b rest) 28) :: H) Tryz.func146 ?_)
 exact ⟨_, rfl, rfl, rfl⟩
theorem fx_stepF (g1 k1 g2 k2 : Nat) (r1 b : Rg) (rest : List Value) (m : Bd) (hr : r1.sm 1048576) (h1 : meetE zR (winR r1 spR) = (zR, 0)) (h2 : meetE r1 (winR zR spR) = (b, 0)) (h3 : gapE zR b = (m, 0)) (h4 : m.lo ≤ 2) (h5 : 0 ≤ m.hi) (hne : decide ([b.x.lo, b.x.hi, b.y.lo, b.y.hi, b.s.lo, b.s.hi, b.d.lo, b.d.hi] ≠ [r1.x.lo, r1.x.hi, r1.y.lo, r1.y.hi, r1.s.lo, r1.s.hi, r1.d.lo, r1.d.hi]) = false) (H : Heap) : VCall Tryz.prog 146 [.agg #[.slice (some ⟨g1, 0, Option.none⟩) 2 k1, .slice (some ⟨g2, 0, Option.none⟩) 1 k2], .iface 272 (.agg #[I 0, I 1, I 0, I 2])].toArray ((g1, blk (c2 zR r1 rest) 28) :: H) (fun o H' => ∃ v, o = .val v ∧ v = .bool false ∧ H' = (g1, blk (c2 zR b rest) 28) :: H) := by
 have hs : spR.sm 1048576 := by unfold Rg.sm Bd.sm; decide
 have hz : zR.sm 1048576 := by unfold zR Rg.sm Bd.sm; decide
 refine CV 74 Tryz.func146 ?_
 refine KK2 ?_
 refine BX fun b1 => ?_
 refine QA ?_
 refine KK3 ?_
 refine QM ?_
 refine QQ (vinvp rfl m_nodes rfl fx_nodes) rfl ?_
 refine QM ?_
 refine QX ?_
 refine QX ?_
 refine QA ?_
 refine QA ?_
 refine vnil (vseq ?_)
 refine vdraw [(.q, 0), (.q, 1), (.q, 2), (.q, 3), (.q, 4), (.q, 5), (.q, 6), (.q, 7), (.q, 8), (.q, 9), (.q, 10), (.q, 11), (.q, 12), (.q, 13), (.q, 14), (.a (blk [.int .i64 0, .int .i64 0, .int .i64 0, .int .i64 0, .int .i64 0, .int .i64 0, .int .i64 0, .int .i64 0] 28), 15), (.s, 16)] Tryz.mixed (by kernel_rfl) ⟨⟨_, _, _, _, _, rfl, _, inferInstance, rfl⟩, True.intro⟩ ?_
 refine DF ?_
 refine DL ?_
 refine DM ?_
 refine DD (vis rfl rfl (by omega)) rfl ?_
 refine DD (vldn rfl (subA _ _ _)) rfl ?_
 refine DF ?_
 refine DL ?_
 refine DM ?_
 refine DD (vis rfl rfl (by omega)) rfl ?_
 refine DD (vldn rfl (subB _ _ _)) rfl ?_
 refine DM ?_
 refine DD (vinvp rfl m_span rfl fx_span) rfl ?_
 refine DD (vcp rfl rfl rfl (fx_back)) rfl ?_
 refine DD (vcp rfl rfl rfl (fx_window r1 spR hr hs)) rfl ?_
 refine DD (vcp rfl rfl rfl (fx_cut zR _ zR h1)) rfl ?_
 refine vda rfl rfl (fun b2 => ?_)
 refine vds (mone rfl) (vstn rfl rfl rfl rfl rfl) rfl ?_
 refine vdend rfl (vseq ?_)
 refine vdraw [(.q, 0), (.q, 1), (.q, 2), (.q, 3), (.q, 4), (.q, 5), (.q, 6), (.q, 7), (.q, 8), (.q, 9), (.a (blk [.int .i64 0, .int .i64 0, .int .i64 0, .int .i64 0, .int .i64 0, .int .i64 0, .int .i64 0, .int .i64 0] 28), 10), (.s, 11)] Tryz.mixed (by kernel_rfl) ⟨⟨_, _, _, _, _, rfl, _, inferInstance, rfl⟩, True.intro⟩ ?_
 refine DF ?_
 refine DL ?_
 refine DM ?_
 refine DD (vis rfl rfl (by omega)) rfl ?_
 refine DD (vldn rfl (subB _ _ _)) rfl ?_
 refine DN ?_
 refine DM ?_
 refine DD (vinvp rfl m_span rfl fx_span) rfl ?_
 refine DD (vcp rfl rfl rfl (fx_window zR spR hz hs)) rfl ?_
 refine DD (vcp rfl rfl rfl (fx_cut r1 _ b h2)) rfl ?_
 refine vda rfl rfl (fun b3 => ?_)
 refine vds (mone rfl) (vstn rfl rfl rfl rfl rfl) rfl ?_
 refine vdend rfl (vseq (KK2 ?_))
 refine QM ?_
 refine QN ?_
 refine QN ?_
 refine QQ (vcp rfl rfl rfl (fx_possible zR b m h3 h4 h5)) rfl ?_
 refine QQ (vnot rfl) rfl ?_
 refine vknow (d := 44) (b' := false) rfl rfl ?_
 refine vnil (vcondf rfl (vskip (vseq ?_)))
 refine DR [(.q, 0), (.q, 1), (.q, 2), (.q, 3), (.q, 4), (.q, 5), (.q, 6), (.q, 7), (.q, 8), (.q, 9), (.q, 10), (.q, 11), (.q, 12), (.q, 13), (.q, 14), (.q, 15), (.q, 16)] Tryz.mixed ?_
 refine DN ?_
 refine DF ?_
 refine DL ?_
 refine DM ?_
 refine DD (vis rfl rfl (by omega)) rfl ?_
 refine DD (vldn rfl (subA _ _ _)) rfl ?_
 refine DD (vnes rfl rfl rfl rfl rfl rfl) rfl ?_
 refine vdknow (d := 53) (b' := false) rfl (by decide) ?_
 refine DM ?_
 refine WN ?_
 refine WF ?_
 refine WL ?_
 refine WM ?_
 refine WW (vis rfl rfl (by omega)) rfl ?_
 refine WW (vldn rfl (subB _ _ _)) rfl ?_
 refine WW (vnes rfl rfl rfl rfl rfl rfl) rfl ?_
 refine vdknow (d := 61) (b' := false) rfl hne ?_
 refine DU ?_
 refine DA ?_
 refine vdend rfl (vseq ?_)
 refine vdrawP (G0 := [(g1, blk (c2 zR r1 rest) 28)]) (H0 := [(b3, blk (clR b) 28), (b2, blk (clR zR) 28), (b1, blk [.slice (some ⟨g1, 0, Option.none⟩) 2 k1, .slice (some ⟨g2, 0, Option.none⟩) 1 k2] 197)] ++ H) (perm_mid [(b3, blk (clR b) 28), (b2, blk (clR zR) 28), (b1, blk [.slice (some ⟨g1, 0, Option.none⟩) 2 k1, .slice (some ⟨g2, 0, Option.none⟩) 1 k2] 197)] [(g1, blk (c2 zR r1 rest) 28)] H) [(.q, 0), (.q, 1), (.q, 2), (.q, 3), (.q, 4), (.q, 5), (.q, 6), (.q, 7), (.q, 8), (.s, 9), (.q, 10), (.s, 11)] Tryz.mixed (by kernel_rfl) (allocOk_of _ (by kernel_rfl)) ?_
 refine DF ?_
 refine DL ?_
 refine DM ?_
 refine DF ?_
 refine DL ?_
 refine DM ?_
 refine DN ?_
 refine DN ?_
 refine DD (vis rfl rfl (by omega)) rfl ?_
 refine vds (mone rfl) (vstn (cs' := c2 zR r1 rest) rfl rfl rfl rfl (putA _ _ _ _)) rfl ?_
 refine DD (vis rfl rfl (by omega)) rfl ?_
 refine vds (mone rfl) (vstn (cs' := c2 zR b rest) rfl rfl rfl rfl (putB _ _ _ _)) rfl ?_
 refine vdend rfl (KK2 ?_)
 refine QM ?_
 refine QA ?_
 refine vnil ?_
 refine vret (V1 ((g1, blk (c2 zR b rest) 28) :: H) Tryz.func146 ?_)
 exact ⟨_, rfl, rfl, rfl⟩
end Go.Proofs.YtmfmecgiaekelaaGreatDoor
namespace Go.Proofs.YtmfmecgiaekelaaGreatDoor
open Go
set_option maxRecDepth 100000
attribute [local irreducible] tightP hullP rootP farP rows endsOf meetE gapE winR
instance sl2 {a b : Rg} {rest : List Value} {g T : Nat} {H : Heap} : SlO ((g, blk (c2 a b rest) T) :: H) (some ⟨g, 0, Option.none⟩) 8 clR [a, b] :=
  SlO.blk (cs := c2 a b rest) (T := T) fun i x hx => ⟨rfl, fun j v hv => by
    unfold c2
    have hj := (List.getElem?_eq_some_iff.1 hv).1
    rcases i with _ | _ | i
    · cases hx
      rw [Nat.zero_mul, Nat.zero_add, List.getElem?_append_left hj]; exact hv
    · cases hx
      rw [List.getElem?_append_right (by simp [clR]), show (0 + 1) * 8 + j - (clR a).length = j by simp [clR], List.getElem?_append_left hj]; exact hv
    · simp at hx⟩
theorem fx_clone2 (a b : Rg) (oa : Option Addr) (c : Nat) (H : Heap) [hs : SlO H oa 8 clR [a, b]] : VCall Tryz.prog 116 [.slice oa 2 c].toArray H (fun o H' => ∃ v, o = .val v ∧ ∃ gb cap rest, v = .slice (some ⟨gb, 0, Option.none⟩) 2 cap ∧ H' = (gb, blk (c2 a b rest) 28) :: H) := by
  refine (d_CloneR [a, b] oa 2 c rfl (by decide) H).mono ?_
  rintro o H' ⟨v, h1, B, h2, oa', c', h3, h4⟩
  rcases h4 with ⟨_, hn, _⟩ | ⟨g, cap, cur, h5, h6, h7, h8, h9, h10⟩
  · cases hn
  · have e : cur = c2 a b (cur.drop 16) := by
      have := List.take_append_drop (2 * 8) cur
      rw [h10] at this
      unfold c2
      rw [← this]
      simp
    refine ⟨v, h1, g, cap, cur.drop 16, ?_, ?_⟩
    · rw [h3, h5]
    · rw [h2, h6, ← e]; rfl
theorem fx_Index0 (n : Int) (H : Heap) : VHas Tryz.prog 148 [.slice Option.none 0 0, I n] (I (-1)) H H := by
 refine CV 19 Tryz.func148 ?_
 refine KK2 ?_
 refine QA ?_
 refine vnil (vseq (KK2 ?_))
 refine QM ?_
 refine QQ (vlen rfl) rfl ?_
 refine QM ?_
 refine vnil (vblock ?_)
 refine vloop1 ?_
 refine KK2 ?_
 refine QS ?_
 refine vnil (vseq (vcondf rfl ?_))
 refine vexit (k' := _) rfl ?_
 refine KK2 ?_
 refine QA ?_
 refine vnil ?_
 refine vret (V1 (H) Tryz.func148 ?_)
 exact ⟨rfl, rfl⟩
theorem fx_Contains0 (n : Int) (H : Heap) : VHas Tryz.prog 121 [.slice Option.none 0 0, I n] (.bool false) H H := by
 refine CV 9 Tryz.func121 ?_
 refine KK2 ?_
 refine QA ?_
 refine KK3 ?_
 refine QM ?_
 refine QM ?_
 refine QQ (vcq rfl rfl rfl (fx_Index0 n _)) rfl ?_
 refine QQ (vgeq rfl rfl) rfl ?_
 refine QA ?_
 refine vnil ?_
 refine vret (V1 (H) Tryz.func121 ?_)
 exact ⟨rfl, rfl⟩
theorem fx_used (n : Int) (bo : Nat) (H : Heap) [hat : HAt H bo [.slice Option.none 0 0] 39] : VHas Tryz.prog 120 [I n, ptr bo] (.bool true) H H := by
 refine CV 8 Tryz.func120 ?_
 refine KK2 ?_
 refine QA ?_
 refine KK3 ?_
 refine QL ?_
 refine QM ?_
 refine QQ (vcq rfl rfl rfl (fx_Contains0 n _)) rfl ?_
 refine QQ (vnot rfl) rfl ?_
 refine QA ?_
 refine vnil ?_
 refine vret (V1 (H) Tryz.func120 ?_)
 exact ⟨rfl, rfl⟩
theorem fx_note (bn : Nat) (H : Heap) : VCall Tryz.prog 122 [I 0, ptr bn].toArray ((bn, blk [.slice Option.none 0 0] 39) :: H) (fun o H' => ∃ v, o = .val v ∧ ∃ sa sc, v = .tuple #[] ∧ H' = (bn, blk [.slice sa 1 sc] 39) :: H) := by
 refine CV 7 Tryz.func122 ?_
 refine vregion ?_
 refine QL ?_
 refine QM ?_
 refine vone rfl (vxg (vbs rfl rfl rfl rfl rfl rfl) rfl rfl ?_)
 rintro _ _ ⟨b1, rfl, rfl⟩
 refine vone rfl (vxg (vappF (F := fun C => C ++ ((b1, blk [I 0] 3) :: (bn, blk [.slice Option.none 0 0] 39) :: H)) (H0 := (b1, blk [I 0] 3) :: (bn, blk [.slice Option.none 0 0] 39) :: H) (B := []) (xs := []) (a := ⟨b1, 0, Option.none⟩) (m := 1) (c := 1) (news := [I 0]) (fun C => .refl _) rfl rfl OwnS.nil rfl (news_blk (b := b1) (List.Mem.head _)) (fun u hu => by simp at hu; subst hu; rfl) (by omega) (by simp only [maxLen]; omega) (by omega)) rfl rfl ?_)
 rintro sv _ ⟨B', hown, _, rfl⟩
 obtain ⟨oa2, c2, rfl, _⟩ := hown.shape
 refine SU ?_
 refine vnil ?_
 refine vend (vr0 (H' := (bn, blk [.slice oa2 (0 + 1) c2] 39) :: H) Tryz.func122 rfl  sb2 ?_)
 exact ⟨_, rfl, _, _, rfl, rfl⟩
theorem fx_equalF (a b d : Rg) (h : decide ([b.x.lo, b.x.hi, b.y.lo, b.y.hi, b.s.lo, b.s.hi, b.d.lo, b.d.hi] ≠ [d.x.lo, d.x.hi, d.y.lo, d.y.hi, d.s.lo, d.s.hi, d.d.lo, d.d.hi]) = true) (o1 o2 : Option Addr) (c1 c2 : Nat) (H : Heap) [hs1 : SlO H o1 8 clR [a, b]] [hs2 : SlO H o2 8 clR [a, d]] : VHas Tryz.prog 147 [.slice o1 2 c1, .slice o2 2 c2] (.bool false) H H := by
 refine CV 26 Tryz.func147 ?_
 refine KK2 ?_
 refine QA ?_
 refine vnil (vseq (KK2 ?_))
 refine QM ?_
 refine QQ (vlen rfl) rfl ?_
 refine QM ?_
 refine QQ (vlen rfl) rfl ?_
 refine QG ?_
 refine vnil (vcondf rfl (vskip (vseq (KK2 ?_))))
 refine QM ?_
 refine QQ (vlen rfl) rfl ?_
 refine QM ?_
 refine vnil (vblock ?_)
 refine vloop1 ?_
 refine KK2 ?_
 refine QS ?_
 refine vnil (vseq (vcondt rfl (vskip (vseq (vblock (KK2 ?_))))))
 refine QM ?_
 refine QA ?_
 refine vnil (vseq ?_)
 refine DR [(.q, 0), (.q, 1), (.q, 2), (.q, 3), (.q, 4), (.q, 5), (.q, 6), (.q, 7), (.q, 8)] Tryz.mixed ?_
 refine DM ?_
 refine DM ?_
 refine DD (visg (enc := clR) (xs := [a, b]) (z := a) rfl rfl (by decide) rfl) rfl ?_
 refine DD (vldS (enc := clR) (xs := [a, b]) (z := a) rfl rfl) rfl ?_
 refine DM ?_
 refine DM ?_
 refine DD (visg (enc := clR) (xs := [a, d]) (z := a) rfl rfl (by decide) rfl) rfl ?_
 refine DD (vldS (enc := clR) (xs := [a, d]) (z := a) rfl rfl) rfl ?_
 refine DD (vnes rfl rfl rfl rfl rfl rfl) rfl ?_
 refine vdknow (d := 24) (b' := false) rfl (by simp) ?_
 refine vdend rfl (vcondf rfl (vskip (vinblock (vregion ?_))))
 refine QQ (vadd rfl rfl (by unfold InR; omega)) rfl ?_
 refine QM ?_
 refine vnil ?_
 refine vinloop1 ?_
 refine KK2 ?_
 refine QS ?_
 refine vnil (vseq (vcondt rfl (vskip (vseq (vblock (KK2 ?_))))))
 refine QM ?_
 refine QA ?_
 refine vnil (vseq ?_)
 refine DR [(.q, 0), (.q, 1), (.q, 2), (.q, 3), (.q, 4), (.q, 5), (.q, 6), (.q, 7), (.q, 8)] Tryz.mixed ?_
 refine DM ?_
 refine DM ?_
 refine DD (visg (enc := clR) (xs := [a, b]) (z := b) rfl rfl (by decide) rfl) rfl ?_
 refine DD (vldS (enc := clR) (xs := [a, b]) (z := b) rfl rfl) rfl ?_
 refine DM ?_
 refine DM ?_
 refine DD (visg (enc := clR) (xs := [a, d]) (z := d) rfl rfl (by decide) rfl) rfl ?_
 refine DD (vldS (enc := clR) (xs := [a, d]) (z := d) rfl rfl) rfl ?_
 refine DD (vnes rfl rfl rfl rfl rfl rfl) rfl ?_
 refine vdknow (d := 24) (b' := true) rfl h ?_
 refine vdend rfl (vcondt rfl (KK2 ?_))
 refine QA ?_
 refine vnil ?_
 refine vret (V1 (H) Tryz.func147 ?_)
 exact ⟨rfl, rfl⟩
theorem fx_equalT (a b d : Rg)  (o1 o2 : Option Addr) (c1 c2 : Nat) (H : Heap) [hs1 : SlO H o1 8 clR [a, b]] [hs2 : SlO H o2 8 clR [a, b]] : VHas Tryz.prog 147 [.slice o1 2 c1, .slice o2 2 c2] (.bool true) H H := by
 refine CV 26 Tryz.func147 ?_
 refine KK2 ?_
 refine QA ?_
 refine vnil (vseq (KK2 ?_))
 refine QM ?_
 refine QQ (vlen rfl) rfl ?_
 refine QM ?_
 refine QQ (vlen rfl) rfl ?_
 refine QG ?_
 refine vnil (vcondf rfl (vskip (vseq (KK2 ?_))))
 refine QM ?_
 refine QQ (vlen rfl) rfl ?_
 refine QM ?_
 refine vnil (vblock ?_)
 refine vloop1 ?_
 refine KK2 ?_
 refine QS ?_
 refine vnil (vseq (vcondt rfl (vskip (vseq (vblock (KK2 ?_))))))
 refine QM ?_
 refine QA ?_
 refine vnil (vseq ?_)
 refine DR [(.q, 0), (.q, 1), (.q, 2), (.q, 3), (.q, 4), (.q, 5), (.q, 6), (.q, 7), (.q, 8)] Tryz.mixed ?_
 refine DM ?_
 refine DM ?_
 refine DD (visg (enc := clR) (xs := [a, b]) (z := a) rfl rfl (by decide) rfl) rfl ?_
 refine DD (vldS (enc := clR) (xs := [a, b]) (z := a) rfl rfl) rfl ?_
 refine DM ?_
 refine DM ?_
 refine DD (visg (enc := clR) (xs := [a, b]) (z := a) rfl rfl (by decide) rfl) rfl ?_
 refine DD (vldS (enc := clR) (xs := [a, b]) (z := a) rfl rfl) rfl ?_
 refine DD (vnes rfl rfl rfl rfl rfl rfl) rfl ?_
 refine vdknow (d := 24) (b' := false) rfl (by simp) ?_
 refine vdend rfl (vcondf rfl (vskip (vinblock (vregion ?_))))
 refine QQ (vadd rfl rfl (by unfold InR; omega)) rfl ?_
 refine QM ?_
 refine vnil ?_
 refine vinloop1 ?_
 refine KK2 ?_
 refine QS ?_
 refine vnil (vseq (vcondt rfl (vskip (vseq (vblock (KK2 ?_))))))
 refine QM ?_
 refine QA ?_
 refine vnil (vseq ?_)
 refine DR [(.q, 0), (.q, 1), (.q, 2), (.q, 3), (.q, 4), (.q, 5), (.q, 6), (.q, 7), (.q, 8)] Tryz.mixed ?_
 refine DM ?_
 refine DM ?_
 refine DD (visg (enc := clR) (xs := [a, b]) (z := b) rfl rfl (by decide) rfl) rfl ?_
 refine DD (vldS (enc := clR) (xs := [a, b]) (z := b) rfl rfl) rfl ?_
 refine DM ?_
 refine DM ?_
 refine DD (visg (enc := clR) (xs := [a, b]) (z := b) rfl rfl (by decide) rfl) rfl ?_
 refine DD (vldS (enc := clR) (xs := [a, b]) (z := b) rfl rfl) rfl ?_
 refine DD (vnes rfl rfl rfl rfl rfl rfl) rfl ?_
 refine vdknow (d := 24) (b' := false) rfl (by simp) ?_
 refine vdend rfl (vcondf rfl (vskip (vinblock (vregion ?_))))
 refine QQ (vadd rfl rfl (by unfold InR; omega)) rfl ?_
 refine QM ?_
 refine vnil ?_
 refine vinloop1 ?_
 refine KK2 ?_
 refine QS ?_
 refine vnil (vseq (vcondf rfl ?_))
 refine vexit (k' := _) rfl ?_
 refine KK2 ?_
 refine QA ?_
 refine vnil ?_
 refine vret (V1 (H) Tryz.func147 ?_)
 exact ⟨rfl, rfl⟩
theorem fx_roundT (g1 k1 g2 k2 b3 b8 b6 : Nat) (r1 b : Rg) (rest : List Value) (m : Bd) (hr : r1.sm 1048576) (h1 : meetE zR (winR r1 spR) = (zR, 0)) (h2 : meetE r1 (winR zR spR) = (b, 0)) (h3 : gapE zR b = (m, 0)) (h4 : m.lo ≤ 2) (h5 : 0 ≤ m.hi) (hne : decide ([b.x.lo, b.x.hi, b.y.lo, b.y.hi, b.s.lo, b.s.hi, b.d.lo, b.d.hi] ≠ [r1.x.lo, r1.x.hi, r1.y.lo, r1.y.hi, r1.s.lo, r1.s.hi, r1.d.lo, r1.d.hi]) = true) (H : Heap) [hat1 : HAt H b3 [.slice (some ⟨g1, 0, Option.none⟩) 2 k1, .slice (some ⟨g2, 0, Option.none⟩) 1 k2] 197] [hat2 : HAt H b8 [.iface 272 (.agg #[I 0, I 1, I 0, I 2])] 234] : VCall Tryz.prog 145 [ptr b3, ptr b8, ptr b6].toArray ((g1, blk (c2 zR r1 rest) 28) :: (b6, blk [.bool false] 4) :: H) (fun o H' => o = .val (.tuple #[]) ∧ H' = (g1, blk (c2 zR b rest) 28) :: (b6, blk [.bool true] 4) :: H) := by
 refine CV 6 Tryz.func145 ?_
 refine KK2 ?_
 refine QN ?_
 refine QL ?_
 refine vone rfl (vxg (vcg rfl rfl rfl (fx_stepT g1 k1 g2 k2 r1 b rest m hr h1 h2 h3 h4 h5 hne _) (fun o H' h => h)) rfl rfl ?_)
 rintro _ _ ⟨rfl, rfl⟩
 refine vnil (vcondt rfl (vregion ?_))
 refine SU ?_
 refine vnil ?_
 refine vend (vr0 (H' := (g1, blk (c2 zR b rest) 28) :: (b6, blk [.bool true] 4) :: H) Tryz.func145 rfl  sb2 ?_)
 exact ⟨rfl, rfl⟩
theorem fx_roundF (g1 k1 g2 k2 b3 b8 b6 : Nat) (r1 b : Rg) (rest : List Value) (m : Bd) (hr : r1.sm 1048576) (h1 : meetE zR (winR r1 spR) = (zR, 0)) (h2 : meetE r1 (winR zR spR) = (b, 0)) (h3 : gapE zR b = (m, 0)) (h4 : m.lo ≤ 2) (h5 : 0 ≤ m.hi) (hne : decide ([b.x.lo, b.x.hi, b.y.lo, b.y.hi, b.s.lo, b.s.hi, b.d.lo, b.d.hi] ≠ [r1.x.lo, r1.x.hi, r1.y.lo, r1.y.hi, r1.s.lo, r1.s.hi, r1.d.lo, r1.d.hi]) = false) (H : Heap) [hat1 : HAt H b3 [.slice (some ⟨g1, 0, Option.none⟩) 2 k1, .slice (some ⟨g2, 0, Option.none⟩) 1 k2] 197] [hat2 : HAt H b8 [.iface 272 (.agg #[I 0, I 1, I 0, I 2])] 234] : VCall Tryz.prog 145 [ptr b3, ptr b8, ptr b6].toArray ((g1, blk (c2 zR r1 rest) 28) :: (b6, blk [.bool false] 4) :: H) (fun o H' => o = .val (.tuple #[]) ∧ H' = (g1, blk (c2 zR b rest) 28) :: (b6, blk [.bool false] 4) :: H) := by
 refine CV 6 Tryz.func145 ?_
 refine KK2 ?_
 refine QN ?_
 refine QL ?_
 refine vone rfl (vxg (vcg rfl rfl rfl (fx_stepF g1 k1 g2 k2 r1 b rest m hr h1 h2 h3 h4 h5 hne _) (fun o H' h => h)) rfl rfl ?_)
 rintro _ _ ⟨rfl, rfl⟩
 refine vnil (vcondf rfl (vskip ?_))
 refine vend (vr0 (H' := (g1, blk (c2 zR b rest) 28) :: (b6, blk [.bool false] 4) :: H) Tryz.func145 rfl  sb2 ?_)
 exact ⟨rfl, rfl⟩
end Go.Proofs.YtmfmecgiaekelaaGreatDoor
namespace Go.Proofs.YtmfmecgiaekelaaGreatDoor
open Go
set_option maxRecDepth 100000
attribute [local irreducible] tightP hullP rootP farP rows endsOf meetE gapE winR
section
open Classical in
theorem pmAA (X B Y G Z : Heap) : (X ++ (B ++ (Y ++ (G ++ Z)))).Perm (G ++ (B ++ (X ++ (Y ++ Z)))) := perm_of fun a => by simp only [List.count_append]; omega
end
theorem mt1 : meetE zR (winR r9 spR) = (zR, 0) := by kernel_rfl
theorem mt2 : meetE r9 (winR zR spR) = (rb, 0) := by kernel_rfl
theorem mt3 : meetE zR (winR rb spR) = (zR, 0) := by kernel_rfl
theorem mt4 : meetE rb (winR zR spR) = (rb, 0) := by kernel_rfl
theorem gp1 : gapE zR rb = (⟨0, 2⟩, 0) := by kernel_rfl
theorem sm9 : r9.sm 1048576 := by unfold Rg.sm Bd.sm; decide
theorem smb : rb.sm 1048576 := by unfold Rg.sm Bd.sm; decide
theorem fx_note_at (bn : Nat) (X H : Heap) : VCall Tryz.prog 122 [I 0, ptr bn].toArray (X ++ ((bn, blk [.slice Option.none 0 0] 39) :: H)) (fun o H' => ∃ v, o = .val v ∧ ∃ sa sc, v = .tuple #[] ∧ H' = X ++ ((bn, blk [.slice sa 1 sc] 39) :: H)) := by
  refine VCall.conv (VCall.perm List.perm_middle (fx_note bn (X ++ H))) ?_
  rintro o H' ⟨v, h1, sa, sc, h2, rfl⟩
  exact ⟨_, List.perm_middle.symm, v, h1, sa, sc, h2, rfl⟩
theorem fx_tryT (g1 k1 g2 k2 b3 b8 b6 : Nat) (r1 b : Rg) (rest : List Value) (m : Bd) (hr : r1.sm 1048576) (h1 : meetE zR (winR r1 spR) = (zR, 0)) (h2 : meetE r1 (winR zR spR) = (b, 0)) (h3 : gapE zR b = (m, 0)) (h4 : m.lo ≤ 2) (h5 : 0 ≤ m.hi) (hne : decide ([b.x.lo, b.x.hi, b.y.lo, b.y.hi, b.s.lo, b.s.hi, b.d.lo, b.d.hi] ≠ [r1.x.lo, r1.x.hi, r1.y.lo, r1.y.hi, r1.s.lo, r1.s.hi, r1.d.lo, r1.d.hi]) = true) (X Y Z : Heap) [hat1 : HAt (X ++ (Y ++ Z)) b3 [.slice (some ⟨g1, 0, Option.none⟩) 2 k1, .slice (some ⟨g2, 0, Option.none⟩) 1 k2] 197] [hat2 : HAt (X ++ (Y ++ Z)) b8 [.iface 272 (.agg #[I 0, I 1, I 0, I 2])] 234] :
    VCall Tryz.prog 117 [.func (.func 145) #[] [ptr b3, ptr b8, ptr b6].toArray].toArray (X ++ ((b6, blk [.bool false] 4) :: (Y ++ ((g1, blk (c2 zR r1 rest) 28) :: Z)))) (fun o H' => ∃ v, o = .val v ∧ v = .bool false ∧ H' = X ++ ((b6, blk [.bool true] 4) :: (Y ++ ((g1, blk (c2 zR b rest) 28) :: Z)))) := by
  refine VCall.conv (VCall.perm (pmAA X [(b6, blk [.bool false] 4)] Y [(g1, blk (c2 zR r1 rest) 28)] Z) (fx_failed (R := fun H' => H' = (g1, blk (c2 zR b rest) 28) :: (b6, blk [.bool true] 4) :: (X ++ (Y ++ Z))) _ (fx_roundT g1 k1 g2 k2 b3 b8 b6 r1 b rest m hr h1 h2 h3 h4 h5 hne (X ++ (Y ++ Z))))) ?_
  rintro o H' ⟨v, h1, h2, h3⟩
  exact ⟨_, h3 ▸ (pmAA X [(b6, blk [.bool true] 4)] Y [(g1, blk (c2 zR b rest) 28)] Z).symm, v, h1, h2, rfl⟩
theorem fx_tryF (g1 k1 g2 k2 b3 b8 b6 : Nat) (r1 b : Rg) (rest : List Value) (m : Bd) (hr : r1.sm 1048576) (h1 : meetE zR (winR r1 spR) = (zR, 0)) (h2 : meetE r1 (winR zR spR) = (b, 0)) (h3 : gapE zR b = (m, 0)) (h4 : m.lo ≤ 2) (h5 : 0 ≤ m.hi) (hne : decide ([b.x.lo, b.x.hi, b.y.lo, b.y.hi, b.s.lo, b.s.hi, b.d.lo, b.d.hi] ≠ [r1.x.lo, r1.x.hi, r1.y.lo, r1.y.hi, r1.s.lo, r1.s.hi, r1.d.lo, r1.d.hi]) = false) (X Y Z : Heap) [hat1 : HAt (X ++ (Y ++ Z)) b3 [.slice (some ⟨g1, 0, Option.none⟩) 2 k1, .slice (some ⟨g2, 0, Option.none⟩) 1 k2] 197] [hat2 : HAt (X ++ (Y ++ Z)) b8 [.iface 272 (.agg #[I 0, I 1, I 0, I 2])] 234] :
    VCall Tryz.prog 117 [.func (.func 145) #[] [ptr b3, ptr b8, ptr b6].toArray].toArray (X ++ ((b6, blk [.bool false] 4) :: (Y ++ ((g1, blk (c2 zR r1 rest) 28) :: Z)))) (fun o H' => ∃ v, o = .val v ∧ v = .bool false ∧ H' = X ++ ((b6, blk [.bool false] 4) :: (Y ++ ((g1, blk (c2 zR b rest) 28) :: Z)))) := by
  refine VCall.conv (VCall.perm (pmAA X [(b6, blk [.bool false] 4)] Y [(g1, blk (c2 zR r1 rest) 28)] Z) (fx_failed (R := fun H' => H' = (g1, blk (c2 zR b rest) 28) :: (b6, blk [.bool false] 4) :: (X ++ (Y ++ Z))) _ (fx_roundF g1 k1 g2 k2 b3 b8 b6 r1 b rest m hr h1 h2 h3 h4 h5 hne (X ++ (Y ++ Z))))) ?_
  rintro o H' ⟨v, h1, h2, h3⟩
  exact ⟨_, h3 ▸ (pmAA X [(b6, blk [.bool false] 4)] Y [(g1, blk (c2 zR b rest) 28)] Z).symm, v, h1, h2, rfl⟩
end Go.Proofs.YtmfmecgiaekelaaGreatDoor
namespace Go.Proofs.YtmfmecgiaekelaaGreatDoor
open Go
set_option maxRecDepth 100000
attribute [local irreducible] tightP hullP rootP farP rows endsOf meetE gapE winR
theorem fx_narrow (g1 k1 g2 k2 bo bn : Nat) (rest rest2 : List Value) (H : Heap) [hat1 : HAt H g2 (.iface 272 (.agg #[I 0, I 1, I 0, I 2]) :: rest2) 234] [hat2 : HAt H bo [.slice Option.none 0 0] 39] : VCall Tryz.prog 119 [.agg #[.slice (some ⟨g1, 0, Option.none⟩) 2 k1, .slice (some ⟨g2, 0, Option.none⟩) 1 k2], .func (.func 120) #[] #[ptr bo], .func (.func 122) #[] #[ptr bn]].toArray ((g1, blk (c2 zR r9 rest) 28) :: (bn, blk [.slice Option.none 0 0] 39) :: H) (fun o H' => ∃ v, o = .val v ∧ ∃ sa sc, v = .tuple #[] ∧ H' = (g1, blk (c2 zR rb rest) 28) :: (bn, blk [.slice sa 1 sc] 39) :: H) := by
 refine CV 43 Tryz.func119 ?_
 refine KK2 ?_
 refine BX fun b1 => ?_
 refine KK3 ?_
 refine AL fun b2 => ?_
 refine SU ?_
 refine vnil (vblock ?_)
 refine vloop1 ?_
 refine vseq (KK2 ?_)
 refine QL ?_
 refine vnil (vcondt rfl (vskip (vseq (vblock (KK2 ?_)))))
 refine SU ?_
 refine KK3 ?_
 refine QF ?_
 refine QL ?_
 refine QQ (vlen rfl) rfl ?_
 refine QM ?_
 refine vnil (vblock ?_)
 refine vloop1 ?_
 refine KK2 ?_
 refine QS ?_
 refine vnil (vseq (vcondt rfl (vskip (vseq (vblock (KK2 ?_))))))
 refine QM ?_
 refine QQ (vis rfl rfl (by decide)) rfl ?_
 refine QL ?_
 refine AL fun b3 => ?_
 refine QA ?_
 refine SU ?_
 refine vnil (vseq (KK2 ?_))
 refine QM ?_
 refine QM ?_
 refine QQ (vcq rfl rfl rfl (fx_used 0 bo _)) rfl ?_
 refine QQ (vnot rfl) rfl ?_
 refine vknow (d := 22) (b' := false) rfl rfl ?_
 refine vnil (vcondf rfl (vskip (KK2 ?_)))
 refine QF ?_
 refine QL ?_
 refine vone rfl (vxg (vcg rfl rfl rfl (fx_clone2 zR r9 _ k1 _) (fun o H' h => h)) rfl rfl ?_)
 rintro _ _ ⟨gb0, kb0, rs0, rfl, rfl⟩
 refine QA ?_
 refine vnil (vseq (KK2 ?_))
 refine QQ (vmf rfl) rfl ?_
 refine vone rfl (vxg (vcg (R := fun v H' => v = .bool false ∧ H' = (gb0, blk (c2 zR r9 rs0) 28) :: (b3, blk [.iface 272 (.agg #[I 0, I 1, I 0, I 2])] 234) :: (b2, blk [.bool true] 4) :: (b1, blk [.slice (some ⟨g1, 0, Option.none⟩) 2 k1, .slice (some ⟨g2, 0, Option.none⟩) 1 k2] 197) :: (g1, blk (c2 zR rb rest) 28) :: (bn, blk [.slice Option.none 0 0] 39) :: H) rfl rfl rfl (fx_tryT g1 k1 g2 k2 b1 b3 b2 r9 rb rest ⟨0, 2⟩ sm9 mt1 mt2 gp1 (by decide) (by decide) (by decide) [(gb0, blk (c2 zR r9 rs0) 28), (b3, blk [.iface 272 (.agg #[I 0, I 1, I 0, I 2])] 234)] [(b1, blk [.slice (some ⟨g1, 0, Option.none⟩) 2 k1, .slice (some ⟨g2, 0, Option.none⟩) 1 k2] 197)] ((bn, blk [.slice Option.none 0 0] 39) :: H)) (fun o H' h => h)) rfl rfl ?_)
 rintro _ _ ⟨rfl, rfl⟩
 refine vnil (vcondf rfl (vskip (KK2 ?_)))
 refine QM ?_
 refine QF ?_
 refine QL ?_
 refine QQ (vcq rfl rfl rfl (fx_equalF zR r9 rb (by decide) _ _ _ _ _)) rfl ?_
 refine QQ (vnot rfl) rfl ?_
 refine vknow (d := 37) (b' := true) rfl rfl ?_
 refine vnil (vcondt rfl (vregion ?_))
 refine QM ?_
 refine QM ?_
 refine vone rfl (vxg (vcg (R := fun v H' => ∃ sa sc, v = .tuple #[] ∧ H' = (gb0, blk (c2 zR r9 rs0) 28) :: (b3, blk [.iface 272 (.agg #[I 0, I 1, I 0, I 2])] 234) :: (b2, blk [.bool true] 4) :: (b1, blk [.slice (some ⟨g1, 0, Option.none⟩) 2 k1, .slice (some ⟨g2, 0, Option.none⟩) 1 k2] 197) :: (g1, blk (c2 zR rb rest) 28) :: (bn, blk [.slice sa 1 sc] 39) :: H) rfl rfl rfl (fx_note_at bn [(gb0, blk (c2 zR r9 rs0) 28), (b3, blk [.iface 272 (.agg #[I 0, I 1, I 0, I 2])] 234), (b2, blk [.bool true] 4), (b1, blk [.slice (some ⟨g1, 0, Option.none⟩) 2 k1, .slice (some ⟨g2, 0, Option.none⟩) 1 k2] 197), (g1, blk (c2 zR rb rest) 28)] H) (fun o H' h => h)) rfl rfl ?_)
 rintro _ _ ⟨sa, sc, rfl, rfl⟩
 refine vnil (vinblock (vregion ?_))
 refine QQ (vadd rfl rfl (by unfold InR; decide)) rfl ?_
 refine QM ?_
 refine vnil ?_
 refine vinloop1 ?_
 refine KK2 ?_
 refine QS ?_
 refine vnil (vseq (vcondf rfl ?_))
 refine vexit (k' := _) rfl ?_
 refine vinblock (KK2 ?_)
 refine QL ?_
 refine vnil (vregion ?_)
 refine AL fun b4 => ?_
 refine SU ?_
 refine vnil ?_
 refine vinloop1 ?_
 refine vseq (KK2 ?_)
 refine QL ?_
 refine vnil (vcondt rfl (vskip (vseq (vblock (KK2 ?_)))))
 refine SU ?_
 refine KK3 ?_
 refine QF ?_
 refine QL ?_
 refine QQ (vlen rfl) rfl ?_
 refine QM ?_
 refine vnil (vblock ?_)
 refine vloop1 ?_
 refine KK2 ?_
 refine QS ?_
 refine vnil (vseq (vcondt rfl (vskip (vseq (vblock (KK2 ?_))))))
 refine QM ?_
 refine QQ (vis rfl rfl (by decide)) rfl ?_
 refine QL ?_
 refine AL fun b5 => ?_
 refine QA ?_
 refine SU ?_
 refine vnil (vseq (KK2 ?_))
 refine QM ?_
 refine QM ?_
 refine QQ (vcq rfl rfl rfl (fx_used 0 bo _)) rfl ?_
 refine QQ (vnot rfl) rfl ?_
 refine vknow (d := 22) (b' := false) rfl rfl ?_
 refine vnil (vcondf rfl (vskip (KK2 ?_)))
 refine QF ?_
 refine QL ?_
 refine vone rfl (vxg (vcg rfl rfl rfl (fx_clone2 zR rb _ k1 _) (fun o H' h => h)) rfl rfl ?_)
 rintro _ _ ⟨gb1, kb1, rs1, rfl, rfl⟩
 refine QA ?_
 refine vnil (vseq (KK2 ?_))
 refine QQ (vmf rfl) rfl ?_
 refine vone rfl (vxg (vcg (R := fun v H' => v = .bool false ∧ H' = (gb1, blk (c2 zR rb rs1) 28) :: (b5, blk [.iface 272 (.agg #[I 0, I 1, I 0, I 2])] 234) :: (b4, blk [.bool false] 4) :: (gb0, blk (c2 zR r9 rs0) 28) :: (b3, blk [.iface 272 (.agg #[I 0, I 1, I 0, I 2])] 234) :: (b2, blk [.bool true] 4) :: (b1, blk [.slice (some ⟨g1, 0, Option.none⟩) 2 k1, .slice (some ⟨g2, 0, Option.none⟩) 1 k2] 197) :: (g1, blk (c2 zR rb rest) 28) :: (bn, blk [.slice sa 1 sc] 39) :: H) rfl rfl rfl (fx_tryF g1 k1 g2 k2 b1 b5 b4 rb rb rest ⟨0, 2⟩ smb mt3 mt4 gp1 (by decide) (by decide) (by decide) [(gb1, blk (c2 zR rb rs1) 28), (b5, blk [.iface 272 (.agg #[I 0, I 1, I 0, I 2])] 234)] [(gb0, blk (c2 zR r9 rs0) 28), (b3, blk [.iface 272 (.agg #[I 0, I 1, I 0, I 2])] 234), (b2, blk [.bool true] 4), (b1, blk [.slice (some ⟨g1, 0, Option.none⟩) 2 k1, .slice (some ⟨g2, 0, Option.none⟩) 1 k2] 197)] ((bn, blk [.slice sa 1 sc] 39) :: H)) (fun o H' h => h)) rfl rfl ?_)
 rintro _ _ ⟨rfl, rfl⟩
 refine vnil (vcondf rfl (vskip (KK2 ?_)))
 refine QM ?_
 refine QF ?_
 refine QL ?_
 refine QQ (vcq rfl rfl rfl (fx_equalT zR rb rb _ _ _ _ _)) rfl ?_
 refine QQ (vnot rfl) rfl ?_
 refine vknow (d := 37) (b' := false) rfl rfl ?_
 refine vnil (vcondf rfl (vskip (vinblock (vregion ?_))))
 refine QQ (vadd rfl rfl (by unfold InR; decide)) rfl ?_
 refine QM ?_
 refine vnil ?_
 refine vinloop1 ?_
 refine KK2 ?_
 refine QS ?_
 refine vnil (vseq (vcondf rfl ?_))
 refine vexit (k' := _) rfl ?_
 refine vinblock (KK2 ?_)
 refine QL ?_
 refine vnil (vregion ?_)
 refine AL fun b6 => ?_
 refine SU ?_
 refine vnil ?_
 refine vinloop1 ?_
 refine vseq (KK2 ?_)
 refine QL ?_
 refine vnil (vcondf rfl ?_)
 refine vexit (k' := _) rfl ?_
 refine vend (vr0 (H' := (g1, blk (c2 zR rb rest) 28) :: (bn, blk [.slice sa 1 sc] 39) :: H) Tryz.func119 rfl  sb2 ?_)
 exact ⟨_, rfl, _, _, rfl, rfl⟩
end Go.Proofs.YtmfmecgiaekelaaGreatDoor
