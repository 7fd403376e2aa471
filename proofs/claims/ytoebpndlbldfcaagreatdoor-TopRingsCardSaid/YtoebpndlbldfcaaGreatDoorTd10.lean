/-
  Parts of the proof: rules of the engine, walks of functions, plain Lean. No condition.
-/
import Derived.Test.YtoebpndlbldfcaaGreatDoorTd09
namespace Go.Proofs.YtoebpndlbldfcaaGreatDoor
open Go
set_option maxRecDepth 100000
attribute [local irreducible] tightP hullP rootP farP rows endsOf
section
open Classical in
theorem pmW (X Y c Z H : Heap) : (X ++ (Y ++ (c ++ (Z ++ H)))).Perm ((X ++ (c ++ H)) ++ (Y ++ Z)) := perm_of fun a => by simp only [List.count_append]; omega
open Classical in
theorem pmX (R c H Y Z : Heap) : (R ++ ((c ++ H) ++ (Y ++ Z))).Perm (R ++ (Y ++ (c ++ (Z ++ H)))) := perm_of fun a => by simp only [List.count_append]; omega
open Classical in
theorem pmY (X f Y K H : Heap) : (X ++ (f ++ (Y ++ (K ++ H)))).Perm (f ++ (K ++ (X ++ (Y ++ H)))) := perm_of fun a => by simp only [List.count_append]; omega
end
theorem planOf_call (h : CH) (c : Cz) (H : Heap) [hcz : CzO H h c] (hok : okCz c) : VCall Tryz.prog 81 [vCz h c].toArray H (fun o H' => ∃ bc bm bk, o = .val (tup [vPl bc bk, I 0]) ∧ H' = (bk, mKp [] 0) :: (bm, mSt [] 0) :: (bc, blk (clCh h c bm) 173) :: H) := by
  refine VCall.conv (d_planOf h c H hok) ?_
  rintro o H' ⟨bc, bm, bk, h1, h2⟩
  subst h2
  exact ⟨_, (List.Perm.swap _ _ _).cons _, bc, bm, bk, h1, rfl⟩
theorem table_call (h : CH) (c : Cz) (bm bc : Nat) (H : Heap) [hcz : CzO H h c] [hat : HAt H bc (clCh h c bm) 173] (bk : Nat) (z : Pt × Pt) (hz : c.lines[0]? = some z) (h1 : c.lines.length = 1) (d : List Bd) (hd : c.opens[0]? = some d) (hok : okCz c) (lk : List EnK) (nk : Nat) (hlk : KnK c lk) (l : List EnS) (n : Nat) (hl : KnS c l) (L : Heap) :
    VCall Tryz.prog 82 [vPl bc bk].toArray (L ++ (bk, mKp lk nk) :: (bm, mSt l n) :: H) (fun o H' => ∃ bt lk' nk' l' n', H' = (bt, blk [I (-1), I (-1), I (tabE c z d 0), I (tabE c z d 1)] 3) :: (L ++ (bk, mKp lk' nk') :: (bm, mSt l' n') :: H) ∧ o = .val (.slice (some ⟨bt, 0, Option.none⟩) 4 4) ∧ KnK c lk' ∧ KnS c l') := by
  refine VCall.conv (VCall.perm (pmJ L [(bk, mKp lk nk), (bm, mSt l n)] H) (d_table h c bm bc (L ++ H) bk z hz h1 d hd hok lk nk hlk l n hl)) ?_
  rintro o H' ⟨bt, lk', nk', l', n', e1, e2, e3, e4⟩
  subst e1
  exact ⟨_, (pmJ L [(bk, mKp lk' nk'), (bm, mSt l' n')] H).symm.cons _, bt, lk', nk', l', n', rfl, e2, e3, e4⟩
theorem ear_go {c : Cz} {z : Pt × Pt} {d : List Bd} {w : Int} {b : Int × Int} (h : goV c (c.start, 0) (wayV z w) d = some b) : tabE c z d w = b.2 := by
  apply tab_s; unfold earE; simp only [List.flatMap_cons, List.flatMap_nil, List.append_nil]; rw [goL_s h]; rfl
def endP (e : Int) (pre : List (Nat × Int)) : Int := if pre.isEmpty = true then -1 else e
section
open Classical in
theorem pmZ (X f Y K C B H : Heap) : (f ++ (K ++ (B ++ (X ++ (Y ++ (C ++ H)))))).Perm (X ++ (f ++ (Y ++ (K ++ (C ++ (B ++ H)))))) := perm_of fun a => by simp only [List.count_append]; omega
end
theorem nextB_call (h : CH) (c : Cz) (bm bc : Nat) (X Y C H : Heap) [hcz : CzO (X ++ (Y ++ (C ++ H))) h c] [hat : HAt (X ++ (Y ++ (C ++ H))) bc (clCh h c bm) 173] (bk bf be bp bx : Nat) (z : Pt × Pt) (hz : c.lines[0]? = some z) (h1 : c.lines.length = 1) (d : List Bd) (hd : c.opens[0]? = some d) (hok : okCz c) (b0 : Int × Int) (hgo : goV c (c.start, 0) (wayV z 0) d = some b0) [hat1 : HAt (X ++ (Y ++ (C ++ H))) be [I b0.2] 3] [hat2 : HAt (X ++ (Y ++ (C ++ H))) bp (clPl bc bk) 168] [hat3 : HAt (X ++ (Y ++ (C ++ H))) bx [.func (.func 85) #[] #[ptr bf, ptr be, ptr bp, ptr bx]] 180] (lk : List EnK) (nk : Nat) (hlk : KnK c lk) (l : List EnS) (n : Nat) (hl : KnS c l) :
    VCall Tryz.prog 85 [.slice Option.none 0 0, vRe (c.start, 0), I 1, ptr bf, ptr be, ptr bp, ptr bx].toArray (X ++ ((bf, blk [.slice Option.none 0 0] 139) :: (Y ++ (bk, mKp lk nk) :: (bm, mSt l n) :: (C ++ H)))) (fun o H' => ∃ sl lk' nk' l' n' B, H' = X ++ ((bf, blk [sl] 139) :: (Y ++ (bk, mKp lk' nk') :: (bm, mSt l' n') :: (C ++ (B ++ H)))) ∧ o = .val (.bool true) ∧ KnK c lk' ∧ KnS c l') := by
  refine VCall.conv (VCall.perm (pmY X [(bf, blk [.slice Option.none 0 0] 139)] Y [(bk, mKp lk nk), (bm, mSt l n)] (C ++ H)) (d_nextB h c bm bc (X ++ (Y ++ (C ++ H))) bk bf be bp bx z hz h1 d hd hok b0 hgo lk nk hlk l n hl)) ?_
  rintro o H' ⟨sl, lk', nk', l', n', B, e1, e2, e3, e4⟩
  subst e1
  exact ⟨_, pmZ X [(bf, blk [sl] 139)] Y [(bk, mKp lk' nk'), (bm, mSt l' n')] C B H, sl, lk', nk', l', n', B, rfl, e2, e3, e4⟩
theorem d_Best1 (h : CH) (c : Cz) (H : Heap) [hcz : CzO H h c] (z : Pt × Pt) (hz : c.lines[0]? = some z) (h1 : c.lines.length = 1) (d : List Bd) (hd : c.opens[0]? = some d) (hok : okCz c) (b0 : Int × Int) (hgo : goV c (c.start, 0) (wayV z 0) d = some b0) (hb0 : 0 ≤ b0.2) (hmin : tabE c z d 1 < 0 ∨ b0.2 ≤ tabE c z d 1) : VCall Tryz.prog 69 [vCz h c].toArray H (fun o H' => ∃ B sl, H' = B ++ H ∧ o = .val (tup [sl, I b0.2, I 0])) := by
 have ht0 := ear_go hgo
 refine CV 64 Tryz.func69 ?_
 refine KK2 (BX fun b1 => ?_)
 refine QA ?_
 refine AL fun b2 => ?_
 refine QA (KK3 ?_)
 refine QN ?_
 refine vone rfl (vxg (vcg (R := fun v H' => ∃ bc bm bk, v = tup [vPl bc bk, I 0] ∧ H' = (bk, mKp [] 0) :: (bm, mSt [] 0) :: (bc, blk (clCh h c bm) 173) :: (b2, blk [I (0)] 3) :: (b1, blk (clCz h c) 138) :: H) rfl rfl rfl (planOf_call h c ((b2, blk [I (0)] 3) :: (b1, blk (clCz h c) 138) :: H) hok) (fun o H' ⟨bc, bm, bk, e1, e2⟩ => ⟨_, e1, bc, bm, bk, rfl, e2⟩)) rfl rfl ?_)
 rintro _ _ ⟨bc, bm, bk, rfl, rfl⟩
 refine QM ?_
 refine QX ?_
 refine QX ?_
 refine AL fun b3 => ?_
 refine SN ?_
 refine QA (vnil (vseq (KK2 ?_)))
 refine QM ?_
 refine QG ?_
 refine vknow (d := 18) (b' := false) rfl (by decide) ?_
 refine vnil (vcondf rfl (vskip (KK2 (QF ?_))))
 refine QL ?_
 refine QC ?_
 refine QF ?_
 refine QF ?_
 refine QL ?_
 refine QQ (vlen1 rfl h1) rfl ?_
 refine QQ (vshl11 rfl rfl) rfl ?_
 refine QQ (vsub rfl rfl (by unfold InR; omega)) rfl ?_
 refine AL fun b4 => ?_
 refine SU (KK3 ?_)
 refine QN ?_
 refine vone rfl (vxg (vcg (R := fun v H' => ∃ bt lk l n nk, v = .slice (some ⟨bt, 0, Option.none⟩) 4 4 ∧ H' = (bt, blk [I (-1), I (-1), I (tabE c z d 0), I (tabE c z d 1)] 3) :: (b4, blk [I 1] 3) :: (b3, blk (clPl bc bk) 168) :: (bk, mKp lk nk) :: (bm, mSt l n) :: (bc, blk (clCh h c bm) 173) :: (b2, blk [I (0)] 3) :: (b1, blk (clCz h c) 138) :: H ∧ KnK c lk ∧ KnS c l) rfl rfl rfl (table_call h c bm bc ((bc, blk (clCh h c bm) 173) :: (b2, blk [I (0)] 3) :: (b1, blk (clCz h c) 138) :: H) bk z hz h1 d hd hok [] 0 KnK.nil [] 0 KnS.nil [(b4, blk [I 1] 3), (b3, blk (clPl bc bk) 168)]) (fun o H' ⟨bt, lk, nk, l, n, e1, e2, e3, e4⟩ => ⟨_, e2, bt, lk, l, n, nk, rfl, e1, e3, e4⟩)) rfl rfl ?_)
 rintro _ _ ⟨bt, lk, l, n, nk, rfl, rfl, hlk, hl⟩
 refine AL fun b5 => ?_
 refine SU (KK3 ?_)
 refine SU (vnil (vseq (KK2 ?_)))
 refine QN ?_
 refine QL ?_
 refine vone rfl (vxg (vcg (R := fun v H' => ∃ ks kp, v = .func (.func 113) #[] #[ptr kp, ptr ks] ∧ H' = (ks, blk [I ((1 : Nat) : Int)] 3) :: (kp, blk (clPl bc bk) 168) :: (b5, blk [.slice (some ⟨bt, 0, Option.none⟩) 4 4] 22) :: (bt, blk [I (-1), I (-1), I (tabE c z d 0), I (tabE c z d 1)] 3) :: (b4, blk [I 1] 3) :: (b3, blk (clPl bc bk) 168) :: (bk, mKp lk nk) :: (bm, mSt l n) :: (bc, blk (clCh h c bm) 173) :: (b2, blk [I (-1)] 3) :: (b1, blk (clCz h c) 138) :: H) rfl rfl rfl (n_shoots bc bk 1 _) (fun o H' ⟨ks, kp, e1, e2⟩ => ⟨_, e1, ks, kp, rfl, e2⟩)) rfl rfl ?_)
 rintro _ _ ⟨ks1, kp1, rfl, rfl⟩
 refine vnil (vblock ?_)
 refine vrangeM (X := XSh ((bc, blk (clCh h c bm) 173) :: H)) (xs := (shP 1 c.lines.length)) (caps := [ptr kp1, ptr ks1]) (Hi := ((ks1, blk [I ((1 : Nat) : Int)] 3) :: (kp1, blk (clPl bc bk) 168) :: (bc, blk (clCh h c bm) 173) :: H)) (Hc := ((b5, blk [.slice (some ⟨bt, 0, Option.none⟩) 4 4] 22) :: (bt, blk [I (-1), I (-1), I (tabE c z d 0), I (tabE c z d 1)] 3) :: (b4, blk [I 1] 3) :: (b3, blk (clPl bc bk) 168) :: (bk, mKp lk nk) :: (bm, mSt l n) :: (b2, blk [I (-1)] 3) :: (b1, blk (clCz h c) 138) :: [])) (ps := [34]) (fun pre H1 => H1 = (b5, blk [.slice (some ⟨bt, 0, Option.none⟩) 4 4] 22) :: (bt, blk [I (-1), I (-1), I (tabE c z d 0), I (tabE c z d 1)] 3) :: (b4, blk [I 1] 3) :: (b3, blk (clPl bc bk) 168) :: (bk, mKp lk nk) :: (bm, mSt l n) :: (b2, blk [I (endP (tabE c z d 0) pre)] 3) :: (b1, blk (clCz h c) 138) :: []) (fun _ _ => False) rfl (it_shoots h c bm bc bk 1 kp1 ks1 (by omega) (by omega) ((bc, blk (clCh h c bm) 173) :: H)) (pmW [(ks1, blk [I ((1 : Nat) : Int)] 3), (kp1, blk (clPl bc bk) 168)] [(b5, blk [.slice (some ⟨bt, 0, Option.none⟩) 4 4] 22), (bt, blk [I (-1), I (-1), I (tabE c z d 0), I (tabE c z d 1)] 3), (b4, blk [I 1] 3), (b3, blk (clPl bc bk) 168), (bk, mKp lk nk), (bm, mSt l n)] [(bc, blk (clCh h c bm) 173)] [(b2, blk [I (-1)] 3), (b1, blk (clCz h c) 138)] H) rfl (fun x vs Hx ⟨h, _⟩ => by rw [h]; rfl) rfl ?_ ?_ ?_
 ·
  intro lp rec pre x post vs Hx H1 hrs hxs hX hI
  obtain ⟨rfl, hHx⟩ := hX
  subst hHx
  obtain rfl := hI
  rw [h1, shP_1] at hxs
  refine VRun.perm (H' := (lp, Obj.loop rec) :: (b5, blk [.slice (some ⟨bt, 0, Option.none⟩) 4 4] 22) :: (bt, blk [I (-1), I (-1), I (tabE c z d 0), I (tabE c z d 1)] 3) :: (b4, blk [I 1] 3) :: (b3, blk (clPl bc bk) 168) :: (bk, mKp lk nk) :: (bm, mSt l n) :: (bc, blk (clCh h c bm) 173) :: (b2, blk [I (endP (tabE c z d 0) pre)] 3) :: (b1, blk (clCz h c) 138) :: H) (pmX [(lp, Obj.loop rec)] [(bc, blk (clCh h c bm) 173)] H [(b5, blk [.slice (some ⟨bt, 0, Option.none⟩) 4 4] 22), (bt, blk [I (-1), I (-1), I (tabE c z d 0), I (tabE c z d 1)] 3), (b4, blk [I 1] 3), (b3, blk (clPl bc bk) 168), (bk, mKp lk nk), (bm, mSt l n)] [(b2, blk [I (endP (tabE c z d 0) pre)] 3), (b1, blk (clCz h c) 138)]) ?_
  refine vregion (AL fun b6 => ?_)
  rcases two_at hxs with ⟨rfl, rfl⟩ | ⟨rfl, rfl⟩
  ·
   refine SN (vnil ?_)
   refine vbegin hrs ?_
   refine vblock (vseq ?_)
   refine DR [(.q, 0), (.q, 1), (.q, 2), (.q, 3), (.q, 4), (.q, 5), (.q, 6), (.q, 7)] Tryz.mixed ?_
   refine DL ?_
   refine DN ?_
   refine DL ?_
   refine DN ?_
   refine DD (vcq rfl rfl rfl (q_place1 h c bm bc _ bk _ (by omega) h1)) rfl ?_
   refine DD (vis rfl rfl (by omega)) rfl ?_
   refine DL ?_
   refine DA (vdend rfl (KK2 ?_))
   refine QM ?_
   refine QQ (vgeq rfl rfl) rfl ?_
   refine QM ?_
   refine vsplitd (d := 44) rfl (fun h44 => ?_) (fun h44 => ?_)
   ·
    refine YL ?_
    refine YS ?_
    refine YM ?_
    refine vsplitd (d := 47) rfl (fun h47 => ?_) (fun h47 => ?_)
    ·
     refine NO3 ?_
     refine YT ?_
     refine QT (vnil ?_)
     refine vcondt rfl (vregion (QM ?_))
     refine SU (vnil (vinblock ?_))
     (refine VRun.sub (H' := (lp, Obj.loop (bsy rec)) :: (b5, blk [.slice (some ⟨bt, 0, Option.none⟩) 4 4] 22) :: (bt, blk [I (-1), I (-1), I (tabE c z d 0), I (tabE c z d 1)] 3) :: (b4, blk [I 1] 3) :: (b3, blk (clPl bc bk) 168) :: (bk, mKp lk nk) :: (bm, mSt l n) :: (bc, blk (clCh h c bm) 173) :: (b2, blk [I (endP (tabE c z d 0) ([] ++ [((0 : Nat), (0 : Int))]))] 3) :: (b1, blk (clCz h c) 138) :: H) sb2 ?_; refine VRun.perm (H' := (lp, Obj.loop (bsy rec)) :: (((bc, blk (clCh h c bm) 173) :: H) ++ ((b5, blk [.slice (some ⟨bt, 0, Option.none⟩) 4 4] 22) :: (bt, blk [I (-1), I (-1), I (tabE c z d 0), I (tabE c z d 1)] 3) :: (b4, blk [I 1] 3) :: (b3, blk (clPl bc bk) 168) :: (bk, mKp lk nk) :: (bm, mSt l n) :: (b2, blk [I (endP (tabE c z d 0) ([] ++ [((0 : Nat), (0 : Int))]))] 3) :: (b1, blk (clCz h c) 138) :: []))) (pmX [(lp, Obj.loop (bsy rec))] [(bc, blk (clCh h c bm) 173)] H [(b5, blk [.slice (some ⟨bt, 0, Option.none⟩) 4 4] 22), (bt, blk [I (-1), I (-1), I (tabE c z d 0), I (tabE c z d 1)] 3), (b4, blk [I 1] 3), (b3, blk (clPl bc bk) 168), (bk, mKp lk nk), (bm, mSt l n)] [(b2, blk [I (endP (tabE c z d 0) ([] ++ [((0 : Nat), (0 : Int))]))] 3), (b1, blk (clCz h c) 138)]).symm ?_; refine vroundI_end (.refl _) ?_; exact ⟨_, rfl, rfl⟩)
    ·
     refine YM ?_
     refine YL ?_
     refine YS ?_
     refine YU ?_
     refine QT (vnil ?_)
     refine vcondd rfl (fun h52 => ?_) (fun h52 => ?_)
     ·
      refine vregion (QM ?_)
      refine SU (vnil (vinblock ?_))
      (exfalso; have ee0 : endP (tabE c z d 0) [] = -1 := rfl; have ee1 : endP (tabE c z d 0) [((0 : Nat), (0 : Int))] = tabE c z d 0 := rfl; omega)
     ·
      refine vskip (vinblock ?_)
      (exfalso; have ee0 : endP (tabE c z d 0) [] = -1 := rfl; have ee1 : endP (tabE c z d 0) [((0 : Nat), (0 : Int))] = tabE c z d 0 := rfl; omega)
   ·
    refine NO3 ?_
    refine vnou rfl rfl rfl rfl rfl ?_
    refine vnou rfl rfl rfl rfl rfl ?_
    refine vnou rfl rfl rfl rfl rfl ?_
    refine NO ?_
    refine QU (vnil ?_)
    refine vcondf rfl (vskip (vinblock ?_))
    (exfalso; have ee0 : endP (tabE c z d 0) [] = -1 := rfl; have ee1 : endP (tabE c z d 0) [((0 : Nat), (0 : Int))] = tabE c z d 0 := rfl; omega)
  ·
   refine SN (vnil ?_)
   refine vbegin hrs ?_
   refine vblock (vseq ?_)
   refine DR [(.q, 0), (.q, 1), (.q, 2), (.q, 3), (.q, 4), (.q, 5), (.q, 6), (.q, 7)] Tryz.mixed ?_
   refine DL ?_
   refine DN ?_
   refine DL ?_
   refine DN ?_
   refine DD (vcq rfl rfl rfl (q_place1 h c bm bc _ bk _ (by omega) h1)) rfl ?_
   refine DD (vis rfl rfl (by omega)) rfl ?_
   refine DL ?_
   refine DA (vdend rfl (KK2 ?_))
   refine QM ?_
   refine QQ (vgeq rfl rfl) rfl ?_
   refine QM ?_
   refine vsplitd (d := 44) rfl (fun h44 => ?_) (fun h44 => ?_)
   ·
    refine YL ?_
    refine YS ?_
    refine YM ?_
    refine vsplitd (d := 47) rfl (fun h47 => ?_) (fun h47 => ?_)
    ·
     refine NO3 ?_
     refine YT ?_
     refine QT (vnil ?_)
     refine vcondt rfl (vregion (QM ?_))
     refine SU (vnil (vinblock ?_))
     (exfalso; have ee0 : endP (tabE c z d 0) [] = -1 := rfl; have ee1 : endP (tabE c z d 0) [((0 : Nat), (0 : Int))] = tabE c z d 0 := rfl; omega)
    ·
     refine YM ?_
     refine YL ?_
     refine YS ?_
     refine YU ?_
     refine QT (vnil ?_)
     refine vcondd rfl (fun h52 => ?_) (fun h52 => ?_)
     ·
      refine vregion (QM ?_)
      refine SU (vnil (vinblock ?_))
      (exfalso; have ee0 : endP (tabE c z d 0) [] = -1 := rfl; have ee1 : endP (tabE c z d 0) [((0 : Nat), (0 : Int))] = tabE c z d 0 := rfl; omega)
     ·
      refine vskip (vinblock ?_)
      (refine VRun.sub (H' := (lp, Obj.loop (bsy rec)) :: (b5, blk [.slice (some ⟨bt, 0, Option.none⟩) 4 4] 22) :: (bt, blk [I (-1), I (-1), I (tabE c z d 0), I (tabE c z d 1)] 3) :: (b4, blk [I 1] 3) :: (b3, blk (clPl bc bk) 168) :: (bk, mKp lk nk) :: (bm, mSt l n) :: (bc, blk (clCh h c bm) 173) :: (b2, blk [I (endP (tabE c z d 0) ([((0 : Nat), (0 : Int))] ++ [((0 : Nat), (1 : Int))]))] 3) :: (b1, blk (clCz h c) 138) :: H) sb2 ?_; refine VRun.perm (H' := (lp, Obj.loop (bsy rec)) :: (((bc, blk (clCh h c bm) 173) :: H) ++ ((b5, blk [.slice (some ⟨bt, 0, Option.none⟩) 4 4] 22) :: (bt, blk [I (-1), I (-1), I (tabE c z d 0), I (tabE c z d 1)] 3) :: (b4, blk [I 1] 3) :: (b3, blk (clPl bc bk) 168) :: (bk, mKp lk nk) :: (bm, mSt l n) :: (b2, blk [I (endP (tabE c z d 0) ([((0 : Nat), (0 : Int))] ++ [((0 : Nat), (1 : Int))]))] 3) :: (b1, blk (clCz h c) 138) :: []))) (pmX [(lp, Obj.loop (bsy rec))] [(bc, blk (clCh h c bm) 173)] H [(b5, blk [.slice (some ⟨bt, 0, Option.none⟩) 4 4] 22), (bt, blk [I (-1), I (-1), I (tabE c z d 0), I (tabE c z d 1)] 3), (b4, blk [I 1] 3), (b3, blk (clPl bc bk) 168), (bk, mKp lk nk), (bm, mSt l n)] [(b2, blk [I (endP (tabE c z d 0) ([((0 : Nat), (0 : Int))] ++ [((0 : Nat), (1 : Int))]))] 3), (b1, blk (clCz h c) 138)]).symm ?_; refine vroundI_end (.refl _) ?_; exact ⟨_, rfl, rfl⟩)
   ·
    refine NO3 ?_
    refine vnou rfl rfl rfl rfl rfl ?_
    refine vnou rfl rfl rfl rfl rfl ?_
    refine vnou rfl rfl rfl rfl rfl ?_
    refine NO ?_
    refine QU (vnil ?_)
    refine vcondf rfl (vskip (vinblock ?_))
    (refine VRun.sub (H' := (lp, Obj.loop (bsy rec)) :: (b5, blk [.slice (some ⟨bt, 0, Option.none⟩) 4 4] 22) :: (bt, blk [I (-1), I (-1), I (tabE c z d 0), I (tabE c z d 1)] 3) :: (b4, blk [I 1] 3) :: (b3, blk (clPl bc bk) 168) :: (bk, mKp lk nk) :: (bm, mSt l n) :: (bc, blk (clCh h c bm) 173) :: (b2, blk [I (endP (tabE c z d 0) ([((0 : Nat), (0 : Int))] ++ [((0 : Nat), (1 : Int))]))] 3) :: (b1, blk (clCz h c) 138) :: H) sb2 ?_; refine VRun.perm (H' := (lp, Obj.loop (bsy rec)) :: (((bc, blk (clCh h c bm) 173) :: H) ++ ((b5, blk [.slice (some ⟨bt, 0, Option.none⟩) 4 4] 22) :: (bt, blk [I (-1), I (-1), I (tabE c z d 0), I (tabE c z d 1)] 3) :: (b4, blk [I 1] 3) :: (b3, blk (clPl bc bk) 168) :: (bk, mKp lk nk) :: (bm, mSt l n) :: (b2, blk [I (endP (tabE c z d 0) ([((0 : Nat), (0 : Int))] ++ [((0 : Nat), (1 : Int))]))] 3) :: (b1, blk (clCz h c) 138) :: []))) (pmX [(lp, Obj.loop (bsy rec))] [(bc, blk (clCh h c bm) 173)] H [(b5, blk [.slice (some ⟨bt, 0, Option.none⟩) 4 4] 22), (bt, blk [I (-1), I (-1), I (tabE c z d 0), I (tabE c z d 1)] 3), (b4, blk [I 1] 3), (b3, blk (clPl bc bk) 168), (bk, mKp lk nk), (bm, mSt l n)] [(b2, blk [I (endP (tabE c z d 0) ([((0 : Nat), (0 : Int))] ++ [((0 : Nat), (1 : Int))]))] 3), (b1, blk (clCz h c) 138)]).symm ?_; refine vroundI_end (.refl _) ?_; exact ⟨_, rfl, rfl⟩)
 ·
  intro r1 H1 hI
  rw [h1, shP_1] at hI
  obtain rfl := hI
  refine VRun.perm (H' := (r1, .deferred (some [])) :: (ks1, blk [I ((1 : Nat) : Int)] 3) :: (kp1, blk (clPl bc bk) 168) :: (b5, blk [.slice (some ⟨bt, 0, Option.none⟩) 4 4] 22) :: (bt, blk [I (-1), I (-1), I (tabE c z d 0), I (tabE c z d 1)] 3) :: (b4, blk [I 1] 3) :: (b3, blk (clPl bc bk) 168) :: (bk, mKp lk nk) :: (bm, mSt l n) :: (bc, blk (clCh h c bm) 173) :: (b2, blk [I (tabE c z d 0)] 3) :: (b1, blk (clCz h c) 138) :: H) ((pmW [(ks1, blk [I ((1 : Nat) : Int)] 3), (kp1, blk (clPl bc bk) 168)] [(b5, blk [.slice (some ⟨bt, 0, Option.none⟩) 4 4] 22), (bt, blk [I (-1), I (-1), I (tabE c z d 0), I (tabE c z d 1)] 3), (b4, blk [I 1] 3), (b3, blk (clPl bc bk) 168), (bk, mKp lk nk), (bm, mSt l n)] [(bc, blk (clCh h c bm) 173)] [(b2, blk [I (tabE c z d 0)] 3), (b1, blk (clCz h c) 138)] H).symm.cons _) ?_
  rw [ht0]
  refine vinblock (vseq (KK2 (QL ?_)))
  refine QS ?_
  refine vknow (d := 55) (b' := false) rfl (decide_eq_false (by omega)) ?_
  refine vnil (vcondf rfl (vskip (KK2 (AL fun b7 => (KK3 ?_)))))
  refine AL fun b8 => (KK3 ?_)
  refine QQ (vmf rfl) rfl ?_
  refine SU (vnil (vseq ?_))
  refine DR [(.q, 0), (.q, 1), (.q, 2), (.q, 3), (.w, 4)] Tryz.mixed ?_
  refine DL ?_
  refine DN ?_
  refine DD (vcq rfl rfl rfl (q_start h c bm bc _ bk)) rfl ?_
  refine DL ?_
  refine vdw rfl (mone rfl) (vcg (R := fun v H' => ∃ sl lk2 nk2 l2 n2 B, v = .bool true ∧ H' = (b8, blk [.func (.func 85) #[] #[ptr b7, ptr b2, ptr b3, ptr b8]] 180) :: (b7, blk [sl] 139) :: (r1, .deferred (some [])) :: (ks1, blk [I ((1 : Nat) : Int)] 3) :: (kp1, blk (clPl bc bk) 168) :: (b5, blk [.slice (some ⟨bt, 0, Option.none⟩) 4 4] 22) :: (bt, blk [I (-1), I (-1), I (b0.2), I (tabE c z d 1)] 3) :: (b4, blk [I 1] 3) :: (b3, blk (clPl bc bk) 168) :: (bk, mKp lk2 nk2) :: (bm, mSt l2 n2) :: (bc, blk (clCh h c bm) 173) :: (b2, blk [I (b0.2)] 3) :: (b1, blk (clCz h c) 138) :: (B ++ H)) rfl rfl rfl (nextB_call h c bm bc [(b8, blk [.func (.func 85) #[] #[ptr b7, ptr b2, ptr b3, ptr b8]] 180)] [(r1, .deferred (some [])), (ks1, blk [I ((1 : Nat) : Int)] 3), (kp1, blk (clPl bc bk) 168), (b5, blk [.slice (some ⟨bt, 0, Option.none⟩) 4 4] 22), (bt, blk [I (-1), I (-1), I (b0.2), I (tabE c z d 1)] 3), (b4, blk [I 1] 3), (b3, blk (clPl bc bk) 168)] [(bc, blk (clCh h c bm) 173), (b2, blk [I (b0.2)] 3), (b1, blk (clCz h c) 138)] H bk b7 b2 b3 b8 z hz h1 d hd hok b0 hgo lk nk hlk l n hl) (fun o H' ⟨sl, lk2, nk2, l2, n2, B, e1, e2, _, _⟩ => ⟨_, e2, sl, lk2, nk2, l2, n2, B, rfl, e1⟩)) rfl rfl ?_
  rintro _ _ ⟨sl, lk2, nk2, l2, n2, B, rfl, rfl⟩
  refine vdend rfl (vseq ?_)
  refine DR [(.q, 0), (.q, 1), (.q, 2), (.q, 3), (.q, 4)] Tryz.mixed ?_
  refine DL ?_
  refine DL ?_
  refine DA ?_
  refine vdqn (mone rfl) (vst1s rfl rfl rfl rfl) rfl ?_
  refine DA (vdend rfl ?_)
  refine vret (vret_mark (vr3 (H' := B ++ H) Tryz.func69 rfl (.tmp rfl) (.cell1 rfl rfl) (.tmp rfl) sb2 ?_))
  exact ⟨B, sl, rfl, rfl⟩
 ·
  intro r1 c H1 hI
  exact hI.elim
end Go.Proofs.YtoebpndlbldfcaaGreatDoor
namespace Go.Proofs.YtoebpndlbldfcaaGreatDoor
open Go
set_option maxRecDepth 100000
attribute [local irreducible] tightP hullP rootP farP rows endsOf
theorem c_twithin (n a b : Int) : VPure Tryz.prog 129 [I n, I a, I b] (.bool (decide (a ≤ n ∧ n ≤ b))) := by
 intro H
 refine CV 15 Tryz.func129 ?_
 refine KK2 (QA (KK3 ?_))
 refine QM ?_
 refine QM ?_
 refine QQ (vgeq rfl rfl) rfl ?_
 refine QM ?_
 refine vsplitd (d := 10) rfl (fun h10 => ?_) (fun h10 => ?_)
 ·
  refine YM ?_
  refine YM ?_
  refine YY (vleq rfl rfl) rfl ?_
  refine QT ?_
  refine QA (vnil ?_)
  refine vret (V1 (H) Tryz.func129 ?_)
  exact ⟨obd (by omega), rfl⟩
 ·
  refine NO3 ?_
  refine QU ?_
  refine QA (vnil ?_)
  refine vret (V1 (H) Tryz.func129 ?_)
  exact ⟨obf (by omega), rfl⟩
theorem c_tbound (b : Bd) (m : Int) (hm : -1000000 ≤ m ∧ m ≤ 1000000) : VPure Tryz.prog 130 [.agg #[I b.lo, I b.hi], I m] (.bool (decide ((-m ≤ b.lo ∧ b.lo ≤ b.hi) ∧ b.hi ≤ m))) := by
 intro H
 refine CV 18 Tryz.func130 ?_
 refine KK2 (BX fun b1 => ?_)
 refine QA (KK3 ?_)
 refine QF ?_
 refine QL ?_
 refine QM ?_
 refine QQ (vneg rfl (by unfold InR; omega)) rfl ?_
 refine QF ?_
 refine QL ?_
 refine QQ (vcp rfl rfl rfl (c_twithin _ _ _)) rfl ?_
 refine QM ?_
 refine vsplitd (d := 12) rfl (fun h12 => ?_) (fun h12 => ?_)
 ·
  refine YF ?_
  refine YL ?_
  refine YM ?_
  refine YY (vleq rfl rfl) rfl ?_
  refine QT ?_
  refine QA (vnil ?_)
  refine vret (V1 (H) Tryz.func130 ?_)
  exact ⟨obd (by omega), rfl⟩
 ·
  refine NO4 ?_
  refine QU ?_
  refine QA (vnil ?_)
  refine vret (V1 (H) Tryz.func130 ?_)
  exact ⟨obf (by omega), rfl⟩
theorem c_tdown (n : Int) (hn : 0 ≤ n ∧ n ≤ 1000000000) : VPure Tryz.prog 132 [I n] (I (n / 64)) := by
 have e1 : n.tdiv 64 = n / 64 := Int.tdiv_eq_ediv_of_nonneg hn.1
 have e2 : n.tmod 64 = n % 64 := Int.tmod_eq_emod_of_nonneg hn.1
 intro H
 refine CV 12 Tryz.func132 ?_
 refine KK2 (QA (KK3 ?_))
 refine QM ?_
 refine QQ (vquo rfl rfl (by omega) (by unfold InR; omega)) rfl ?_
 refine QA (vnil (vseq (KK2 ?_)))
 refine QM ?_
 refine QQ (vrem rfl rfl (by omega)) rfl ?_
 refine QS (vnil ?_)
 refine vcondd rfl (fun h8 => ?_) (fun h8 => ?_)
 ·
  refine vregion (QM ?_)
  refine QQ (vsub rfl rfl (by unfold InR; omega)) rfl ?_
  refine QA (KK3 ?_)
  refine QM ?_
  refine QA (vnil ?_)
  refine vret (V1 (H) Tryz.func132 ?_)
  (exfalso; omega)
 ·
  refine vskip (KK2 (QM ?_))
  refine QA (vnil ?_)
  refine vret (V1 (H) Tryz.func132 ?_)
  exact ⟨oI e1, rfl⟩
theorem q_numbers1 (n m : Int) (b : Nat) (hm : 0 ≤ m ∧ m ≤ 1000000) (H : Heap) [hat : HAt H b [I m] 3] : VHas Tryz.prog 131 [I n, ptr b] (.bool (!decide (-m ≤ n ∧ n ≤ m))) H H := by
 refine CV 10 Tryz.func131 ?_
 refine KK2 (QA (KK3 ?_))
 refine QM ?_
 refine QL ?_
 refine QQ (vneg rfl (by unfold InR; omega)) rfl ?_
 refine QL ?_
 refine QQ (vcp rfl rfl rfl (c_twithin _ _ _)) rfl ?_
 refine QQ (vnot rfl) rfl ?_
 refine QA (vnil ?_)
 refine vret (V1 (H) Tryz.func131 ?_)
 exact ⟨rfl, rfl⟩
end Go.Proofs.YtoebpndlbldfcaaGreatDoor
namespace Go.Proofs.YtoebpndlbldfcaaGreatDoor
open Go
set_option maxRecDepth 100000
attribute [local irreducible] tightP hullP rootP farP rows endsOf
structure Str where
  head : Int
  oa : Option Addr
  cp : Nat
  ss : List (Int × Int × Int × Int × Int)
  lo : Int
  hi : Int
  dr : Int
abbrev encS5 (x : Int × Int × Int × Int × Int) : List Value := [I x.1, I x.2.1, I x.2.2.1, I x.2.2.2.1, I x.2.2.2.2]
abbrev clStr (s : Str) : List Value := [I s.head, .slice s.oa s.ss.length s.cp, I s.lo, I s.hi, I s.dr]
abbrev vStr (s : Str) : Value := .agg (clStr s).toArray
theorem q_numbers (s : Str) (l : List Int) (oa : Option Addr) (c : Nat) (m : Int) (hm : 0 ≤ m ∧ m ≤ 1000000) (hn : l.length = s.ss.length) (hl : l.length ≤ 100000) (hall : l.any (fun n => !decide (-m ≤ n ∧ n ≤ m)) = false) (H : Heap) [hsl : SlO H oa 1 encI l] : VHas Tryz.prog 93 [vStr s, .slice oa l.length c, I m] (.bool true) (H) (H) := by
 refine CV 20 Tryz.func93 ?_
 refine KK2 (BX fun b1 => ?_)
 refine BX fun b2 => ?_
 refine QA (KK3 ?_)
 refine QM ?_
 refine QQ (vlen rfl) rfl ?_
 refine QF ?_
 refine QF ?_
 refine QL ?_
 refine QQ (vlen rfl) rfl ?_
 refine QE ?_
 refine vknow (d := 13) (b' := true) rfl (decide_eq_true (by rw [hn])) ?_
 refine QM ?_
 refine YM ?_
 refine YY (vmf rfl) rfl ?_
 refine YY (vcq rfl rfl rfl (q_ContainsI 131 [ptr b2] (fun n => !decide (-m ≤ n ∧ n ≤ m)) l _ _ _ rfl (by omega) _ (fun n _ => q_numbers1 n m b2 hm _))) rfl ?_
 refine vknow (d := 17) (b' := false) rfl hall ?_
 refine YY (vnot rfl) rfl ?_
 refine QT ?_
 refine QA (vnil ?_)
 refine vret (V1 (H) Tryz.func93 ?_)
 exact ⟨rfl, rfl⟩
end Go.Proofs.YtoebpndlbldfcaaGreatDoor
namespace Go.Proofs.YtoebpndlbldfcaaGreatDoor
open Go
set_option maxRecDepth 100000
attribute [local irreducible] tightP hullP rootP farP rows endsOf
abbrev sec0 : Int × Int × Int × Int × Int := (9, 64, 0, 0, 0)
abbrev clS0 (oa : Option Addr) (cp : Nat) : List Value := [I 3, .slice oa 1 cp, I (-9), I 9, I 0]
abbrev vS0 (oa : Option Addr) (cp : Nat) : Value := .agg (clS0 oa cp).toArray
theorem s0_at : [sec0][0]? = some sec0 := rfl
theorem i0_at (n : Int) : [n][0]? = some n := rfl
theorem q_eased0 (oa : Option Addr) (cp : Nat) (H : Heap) [hs0 : SlO H oa 5 encS5 [sec0]] : VHas Tryz.prog 96 [vS0 oa cp, I 0, I 0, I 3, I 2] (I 5) H H := by
 refine CV 65 Tryz.func96 ?_
 refine KK2 (BX fun b1 => ?_)
 refine QA (KK3 ?_)
 refine QF ?_
 refine QF ?_
 refine QL ?_
 refine QM ?_
 refine QQ (visg (enc := encS5) (z := sec0) rfl rfl (by omega) s0_at) rfl ?_
 refine QQ (vldS (enc := encS5) (z := sec0) rfl s0_at) rfl ?_
 refine AL fun b2 => ?_
 refine SN (KK3 ?_)
 refine QF ?_
 refine QL ?_
 refine QQ (vsub rfl rfl (by unfold InR; decide)) rfl ?_
 refine QM ?_
 refine QQ (vmul rfl rfl (by unfold InR; decide)) rfl ?_
 refine QF ?_
 refine QL ?_
 refine QM ?_
 refine QQ (vmul rfl rfl (by unfold InR; decide)) rfl ?_
 refine QQ (vadd rfl rfl (by unfold InR; decide)) rfl ?_
 refine QQ (vcp rfl rfl rfl (c_tdown _ (by decide))) rfl ?_
 refine QM ?_
 refine QQ (vadd rfl rfl (by unfold InR; decide)) rfl ?_
 refine QA (vnil (vseq (KK2 ?_)))
 refine QM ?_
 refine QF ?_
 refine QF ?_
 refine QF ?_
 refine QL ?_
 refine QQ (vgtr rfl rfl) rfl ?_
 refine vknow (d := 37) (b' := false) rfl (by decide) ?_
 refine vnil (vcondf rfl (KK2 (QM ?_)))
 refine QF ?_
 refine QF ?_
 refine QF ?_
 refine QL ?_
 refine QS ?_
 refine vknow (d := 52) (b' := false) rfl (by decide) ?_
 refine vnil (vcondf rfl (vskip (KK2 (QM ?_))))
 refine QQ (vmin2 rfl rfl) rfl ?_
 refine QQ (vmax2 rfl rfl) rfl ?_
 refine QA (vnil ?_)
 refine vret (V1 (H) Tryz.func96 ?_)
 exact ⟨oI (by decide), rfl⟩
theorem q_Step1 (oa od : Option Addr) (cp cd bl bd : Nat) (H : Heap) [hs0 : SlO H oa 5 encS5 [sec0]] [hl0 : HAt H bl (clS0 oa cp) 198] [hd0 : HAt H bd [.slice od 1 cd] 22] [hs2 : SlO H od 1 encI [2]] : VHas Tryz.prog 95 [I 0, I 0, I 3, ptr bl, ptr bd] (I 5) H H := by
 refine CV 18 Tryz.func95 ?_
 refine KK2 (QA (vnil (vseq ?_)))
 refine DR [(.q, 0), (.q, 1), (.q, 2), (.q, 3), (.q, 4), (.q, 5), (.q, 6), (.q, 7), (.q, 8), (.q, 9)] Tryz.mixed ?_
 refine DN ?_
 refine DM ?_
 refine DM ?_
 refine DM ?_
 refine DL ?_
 refine DM ?_
 refine DD (visg (enc := encI) (z := 2) rfl rfl (by omega) (i0_at 2)) rfl ?_
 refine DD (vldS1 (enc := encI) (z := 2) rfl (i0_at 2) rfl) rfl ?_
 refine DD (vcq rfl rfl rfl (q_eased0 oa cp _)) rfl ?_
 refine DA (vdend rfl ?_)
 refine vret (V1 (H) Tryz.func95 ?_)
 exact ⟨rfl, rfl⟩
theorem d_each0 (oa od ol : Option Addr) (cp cd cl bl bd : Nat) (H : Heap) [hs0 : SlO H oa 5 encS5 [sec0]] [hl0 : HAt H bl (clS0 oa cp) 198] [hd0 : HAt H bd [.slice od 1 cd] 22] [hs2 : SlO H od 1 encI [2]] [hs3 : SlO H ol 1 encI [0]] : VCall Tryz.prog 94 [.slice ol 1 cl, I 3, .func (.func 95) #[] #[ptr bl, ptr bd]].toArray H (fun o H' => ∃ b, o = .val (.slice (some ⟨b, 0, Option.none⟩) 1 1) ∧ H' = (b, blk [I 5] 3) :: H) := by
 refine CV 33 Tryz.func94 ?_
 refine KK2 (QA (KK3 ?_))
 refine QM ?_
 refine QQ (vlen1 rfl rfl) rfl ?_
 refine vone rfl (vxg (vmksN (n := 1) (esz := 1) (by_ := 8) (zs := [.int .i64 0]) rfl rfl rfl (by decide) (by decide) (by decide)) rfl rfl ?_)
 rintro _ _ ⟨b1, rfl, rfl⟩
 refine QA (KK3 ?_)
 refine QM ?_
 refine QA (vnil (vseq (KK2 ?_)))
 refine QM ?_
 refine QQ (vlen1 rfl rfl) rfl ?_
 refine QM (vnil (vblock ?_))
 refine vloop1 ?_
 refine KK2 (QS (vnil (vseq ?_)))
 refine vcondt rfl (vskip (vseq (vblock (KK2 (QM ?_)))))
 refine QQ (visg (enc := encI) (z := 0) rfl rfl (by omega) (i0_at 0)) rfl ?_
 refine QQ (vldS1 (enc := encI) (z := 0) rfl (i0_at 0) rfl) rfl ?_
 refine QA ?_
 refine QA (KK3 ?_)
 refine QM ?_
 refine QM ?_
 refine QM ?_
 refine QM ?_
 refine QM ?_
 refine QM ?_
 refine QQ (vcq rfl rfl rfl (q_Step1 oa od cp cd bl bd _)) rfl ?_
 refine QQ (vis rfl rfl (by omega)) rfl ?_
 refine SU (vnil (vregion ?_))
 refine QM ?_
 refine QA (vnil (vinblock (vregion ?_)))
 refine QQ (vadd rfl rfl (by unfold InR; omega)) rfl ?_
 refine QM (vnil ?_)
 refine vinloop1 ?_
 refine KK2 (QS (vnil (vseq ?_)))
 refine vcondf rfl ?_
 refine vexit (k' := _) rfl ?_
 refine KK2 (QM ?_)
 refine QA (vnil ?_)
 refine vret (V1 ((b1, blk [I 5] 3) :: H) Tryz.func94 ?_)
 exact ⟨b1, rfl, rfl⟩
end Go.Proofs.YtoebpndlbldfcaaGreatDoor
namespace Go.Proofs.YtoebpndlbldfcaaGreatDoor
open Go
set_option maxRecDepth 100000
attribute [local irreducible] tightP hullP rootP farP rows endsOf
theorem q_Check0 (oa : Option Addr) (cp : Nat) (H : Heap) [hs0 : SlO H oa 5 encS5 [sec0]] : VHas Tryz.prog 92 [vS0 oa cp] (I 0) H H := by
 refine CV 64 Tryz.func92 ?_
 refine KK2 (BX fun b1 => ?_)
 refine QA (vnil (vseq (KK2 ?_)))
 refine QF ?_
 refine QL ?_
 refine QQ (vcp rfl rfl rfl (c_twithin _ _ _)) rfl ?_
 refine QQ (vnotd rfl) rfl ?_
 refine QM ?_
 refine vknow (d := 9) (b' := false) rfl (by decide) ?_
 refine YF ?_
 refine YL ?_
 refine YY (vlen1 rfl rfl) rfl ?_
 refine YY (vcp rfl rfl rfl (c_twithin _ _ _)) rfl ?_
 refine YY (vnotd rfl) rfl ?_
 refine QU ?_
 refine QM ?_
 refine vknow (d := 16) (b' := false) rfl (by decide) ?_
 refine YF ?_
 refine YN ?_
 refine YY (vcp rfl rfl rfl (c_tbound ⟨-9, 9⟩ 4000 (by decide))) rfl ?_
 refine YY (vnotd rfl) rfl ?_
 refine QU ?_
 refine QM ?_
 refine vknow (d := 22) (b' := false) rfl (by decide) ?_
 refine YF ?_
 refine YL ?_
 refine YY (vcp rfl rfl rfl (c_twithin _ _ _)) rfl ?_
 refine YY (vnotd rfl) rfl ?_
 refine QU ?_
 refine vknow (d := 27) (b' := false) rfl (by decide) ?_
 refine vnil (vcondf rfl (vskip (vseq (KK2 (QF ?_)))))
 refine QL ?_
 refine QQ (vlen1 rfl rfl) rfl ?_
 refine QM (vnil (vblock ?_))
 refine vloop1 ?_
 refine KK2 (QS (vnil (vseq ?_)))
 refine vcondt rfl (vskip (vseq (vblock (KK2 (QQ (visg (enc := encS5) (z := sec0) rfl rfl (by omega) s0_at) rfl ?_)))))
 refine QQ (vldS (enc := encS5) (z := sec0) rfl s0_at) rfl ?_
 refine AL fun b2 => ?_
 refine SN (KK3 ?_)
 refine QF ?_
 refine QL ?_
 refine QQ (vcp rfl rfl rfl (c_twithin _ _ _)) rfl ?_
 refine QQ (vnotd rfl) rfl ?_
 refine QM ?_
 refine vknow (d := 39) (b' := false) rfl (by decide) ?_
 refine YF ?_
 refine YL ?_
 refine YY (vcp rfl rfl rfl (c_twithin _ _ _)) rfl ?_
 refine YY (vnotd rfl) rfl ?_
 refine QU ?_
 refine QM ?_
 refine vknow (d := 45) (b' := false) rfl (by decide) ?_
 refine YF ?_
 refine YL ?_
 refine YY (vcp rfl rfl rfl (c_twithin _ _ _)) rfl ?_
 refine YY (vnotd rfl) rfl ?_
 refine QU ?_
 refine QM ?_
 refine vknow (d := 51) (b' := false) rfl (by decide) ?_
 refine YF ?_
 refine YL ?_
 refine YY (vcp rfl rfl rfl (c_twithin _ _ _)) rfl ?_
 refine YY (vnotd rfl) rfl ?_
 refine QU ?_
 refine QM ?_
 refine vknow (d := 57) (b' := false) rfl (by decide) ?_
 refine YF ?_
 refine YL ?_
 refine YY (vcp rfl rfl rfl (c_twithin _ _ _)) rfl ?_
 refine YY (vnotd rfl) rfl ?_
 refine QU ?_
 refine vknow (d := 62) (b' := false) rfl (by decide) ?_
 refine vnil (vcondf rfl (vskip (vinblock (vregion (QQ (vadd rfl rfl (by unfold InR; omega)) rfl ?_)))))
 refine QM (vnil ?_)
 refine vinloop1 ?_
 refine KK2 (QS (vnil (vseq ?_)))
 refine vcondf rfl ?_
 refine vexit (k' := _) rfl ?_
 refine KK2 (QA (vnil ?_))
 refine vret (V1 (H) Tryz.func92 ?_)
 exact ⟨rfl, rfl⟩
theorem d_tow0 (oa od ol : Option Addr) (cp cd cl : Nat) (H : Heap) [hs0 : SlO H oa 5 encS5 [sec0]] [hs2 : SlO H od 1 encI [2]] [hs3 : SlO H ol 1 encI [0]] : VCall Tryz.prog 71 [vS0 oa cp, .slice ol 1 cl, .slice od 1 cd].toArray H (fun o H' => ∃ b, o = .val (tup [.slice (some ⟨b, 0, Option.none⟩) 1 1, I 0]) ∧ H' = (b, blk [I 5] 3) :: H) := by
 refine CV 32 Tryz.func71 ?_
 refine KK2 (BX fun b1 => ?_)
 refine BX fun b2 => ?_
 refine QA ?_
 refine QA (vnil (vseq (KK2 ?_)))
 refine QN ?_
 refine QQ (vcq rfl rfl rfl (q_Check0 oa cp _)) rfl ?_
 refine QA (KK3 ?_)
 refine QM ?_
 refine QG ?_
 refine vknow (d := 13) (b' := false) rfl (by decide) ?_
 refine vnil (vcondf rfl (vskip (KK2 (QN ?_))))
 refine QB ?_
 refine AL fun b3 => ?_
 refine SN (vnil (vseq (vblock (KK2 ?_))))
 refine QN ?_
 refine QM ?_
 refine QQ (vcq rfl rfl rfl (q_numbers ⟨3, oa, cp, [sec0], -9, 9, 0⟩ [0] ol cl 16384 (by decide) rfl (by decide) (by decide) _)) rfl ?_
 refine QQ (vnot rfl) rfl ?_
 refine QA ?_
 refine vknow (d := 17) (b' := false) rfl rfl ?_
 refine vnil (vcondf rfl (KK2 (QN ?_)))
 refine QL ?_
 refine QQ (vcq rfl rfl rfl (q_numbers ⟨3, oa, cp, [sec0], -9, 9, 0⟩ [2] od cd 100 (by decide) rfl (by decide) (by decide) _)) rfl ?_
 refine QQ (vnot rfl) rfl ?_
 refine QA ?_
 refine vknow (d := 22) (b' := false) rfl rfl ?_
 refine vnil (vcondf rfl (vskip (vinblock (KK2 (QM ?_)))))
 refine QF ?_
 refine QL ?_
 refine QQ (vmf rfl) rfl ?_
 refine vone rfl (vxg (vcg (R := fun v H' => ∃ b, v = .slice (some ⟨b, 0, Option.none⟩) 1 1 ∧ H' = (b, blk [I 5] 3) :: (b3, blk (clS0 oa cp) 198) :: (b2, blk [.slice od 1 cd] 22) :: (b1, blk (clS0 oa cp) 154) :: H) rfl rfl rfl (d_each0 oa od ol cp cd cl b3 b2 _) (fun o H' ⟨b, e1, e2⟩ => ⟨_, e1, b, rfl, e2⟩)) rfl rfl ?_)
 rintro _ _ ⟨b4, rfl, rfl⟩
 refine QA ?_
 refine QA (vnil ?_)
 refine vret (vr2 (H' := (b4, blk [I 5] 3) :: H) Tryz.func71 rfl (.tmp rfl) (.tmp rfl) sb2 ?_)
 exact ⟨b4, rfl, rfl⟩
end Go.Proofs.YtoebpndlbldfcaaGreatDoor
namespace Go.Proofs.YtoebpndlbldfcaaGreatDoor
open Go
set_option maxRecDepth 100000
attribute [local irreducible] tightP hullP rootP farP rows endsOf
abbrev vF0 : Value := .agg #[I 1, I 1, I 1, I 1, I 0]
theorem c_swithin (n a b : Int) : VPure Tryz.prog 66 [I n, I a, I b] (.bool (decide (a ≤ n ∧ n ≤ b))) := by
 intro H
 refine CV 15 Tryz.func66 ?_
 refine KK2 (QA (KK3 ?_))
 refine QM ?_
 refine QM ?_
 refine QQ (vgeq rfl rfl) rfl ?_
 refine QM ?_
 refine vsplitd (d := 10) rfl (fun h10 => ?_) (fun h10 => ?_)
 ·
  refine YM ?_
  refine YM ?_
  refine YY (vleq rfl rfl) rfl ?_
  refine QT ?_
  refine QA (vnil ?_)
  refine vret (V1 (H) Tryz.func66 ?_)
  exact ⟨obd (by omega), rfl⟩
 ·
  refine NO3 ?_
  refine QU ?_
  refine QA (vnil ?_)
  refine vret (V1 (H) Tryz.func66 ?_)
  exact ⟨obf (by omega), rfl⟩
theorem c_CheckFiring0  : VPure Tryz.prog 65 [vF0] (I 0) := by
 intro H
 refine CV 31 Tryz.func65 ?_
 refine KK2 (BX fun b1 => ?_)
 refine QA (vnil (vseq (KK2 ?_)))
 refine QF ?_
 refine QL ?_
 refine QQ (vcp rfl rfl rfl (c_swithin _ _ _)) rfl ?_
 refine QQ (vnotd rfl) rfl ?_
 refine QM ?_
 refine vknow (d := 7) (b' := false) rfl (by decide) ?_
 refine YF ?_
 refine YL ?_
 refine YY (vcp rfl rfl rfl (c_swithin _ _ _)) rfl ?_
 refine YY (vnotd rfl) rfl ?_
 refine QU ?_
 refine QM ?_
 refine vknow (d := 13) (b' := false) rfl (by decide) ?_
 refine YF ?_
 refine YL ?_
 refine YY (vcp rfl rfl rfl (c_swithin _ _ _)) rfl ?_
 refine YY (vnotd rfl) rfl ?_
 refine QU ?_
 refine QM ?_
 refine vknow (d := 19) (b' := false) rfl (by decide) ?_
 refine YF ?_
 refine YL ?_
 refine YY (vcp rfl rfl rfl (c_swithin _ _ _)) rfl ?_
 refine YY (vnotd rfl) rfl ?_
 refine QU ?_
 refine QM ?_
 refine vknow (d := 25) (b' := false) rfl (by decide) ?_
 refine YF ?_
 refine YL ?_
 refine YY (vcp rfl rfl rfl (c_swithin _ _ _)) rfl ?_
 refine YY (vnotd rfl) rfl ?_
 refine QU ?_
 refine vknow (d := 30) (b' := false) rfl (by decide) ?_
 refine vnil (vcondf rfl (vskip (KK2 (QA (vnil ?_)))))
 refine vret (V1 (H) Tryz.func65 ?_)
 exact ⟨rfl, rfl⟩
theorem c_due0  : VPure Tryz.prog 80 [vF0, I 0] (I 1) := by
 intro H
 refine CV 12 Tryz.func80 ?_
 refine KK2 (BX fun b1 => ?_)
 refine QA (KK3 ?_)
 refine QF ?_
 refine QL ?_
 refine QM ?_
 refine QF ?_
 refine QL ?_
 refine QQ (vmul rfl rfl (by unfold InR; decide)) rfl ?_
 refine QQ (vadd rfl rfl (by unfold InR; decide)) rfl ?_
 refine QA (vnil ?_)
 refine vret (V1 (H) Tryz.func80 ?_)
 exact ⟨oI (by decide), rfl⟩
end Go.Proofs.YtoebpndlbldfcaaGreatDoor
namespace Go.Proofs.YtoebpndlbldfcaaGreatDoor
open Go
set_option maxRecDepth 100000
attribute [local irreducible] tightP hullP rootP farP rows endsOf
theorem w2_0 : [(0 : Int), 2][0]? = some 0 := rfl
theorem w2_1 : [(0 : Int), 2][1]? = some 2 := rfl
theorem idx_02 {r : Int} (h : IdxR (fun n : Int => decide (n ≥ 1)) [0, 2] r) : r = 1 := by
  rcases h with ⟨_, h2⟩ | ⟨h1, z, h2, h3, h4⟩
  · exact absurd h2 (by decide)
  · have hlt := (List.getElem?_eq_some_iff.1 h2).1
    simp only [List.length_cons, List.length_nil] at hlt
    have : r = 0 ∨ r = 1 := by omega
    rcases this with rfl | rfl
    · simp at h2; subst h2; exact absurd h3 (by decide)
    · rfl
theorem q_isNaN (n : Int) (H : Heap) : VHas Tryz.prog 107 [I n] (.bool false) H H := by
 refine CV 6 Tryz.func107 ?_
 refine KK2 (QA (KK3 ?_))
 refine QM ?_
 refine QM ?_
 refine QG ?_
 refine QA (vnil ?_)
 refine vret (V1 (H) Tryz.func107 ?_)
 exact ⟨oV (by simp), rfl⟩
theorem q_cmpLess (a b : Int) (H : Heap) : VHas Tryz.prog 78 [I a, I b] (.bool (decide (a < b))) H H := by
 refine CV 17 Tryz.func78 ?_
 refine KK2 (QA (KK3 ?_))
 refine QM ?_
 refine QQ (vcq rfl rfl rfl (q_isNaN a _)) rfl ?_
 refine QM ?_
 refine vknow (d := 7) (b' := false) rfl rfl ?_
 refine NO3 ?_
 refine QU ?_
 refine QM ?_
 refine vknow (d := 12) (b' := false) rfl rfl ?_
 refine YM ?_
 refine YM ?_
 refine YS ?_
 refine QU ?_
 refine QA (vnil ?_)
 refine vret (V1 (H) Tryz.func78 ?_)
 exact ⟨rfl, rfl⟩
theorem q_reached1 (n m : Int) (b : Nat) (H : Heap) [hat : HAt H b [I m] 3] : VHas Tryz.prog 108 [I n, ptr b] (.bool (decide (n ≥ m))) H H := by
 refine CV 7 Tryz.func108 ?_
 refine KK2 (QA (KK3 ?_))
 refine QM ?_
 refine QL ?_
 refine QQ (vgeq rfl rfl) rfl ?_
 refine QA (vnil ?_)
 refine vret (V1 (H) Tryz.func108 ?_)
 exact ⟨rfl, rfl⟩
theorem q_reached0 (oa : Option Addr) (c : Nat) (H : Heap) [hs : SlO H oa 1 encI [0, 2]] : VHas Tryz.prog 79 [.slice oa 2 c, I 1] (I 1) H H := by
 refine CV 8 Tryz.func79 ?_
 refine KK2 (BX fun b1 => ?_)
 refine QA (KK3 ?_)
 refine QM ?_
 refine QQ (vmf rfl) rfl ?_
 refine vone rfl (vxg (vcg (R := fun v H' => v = I 1 ∧ H' = (b1, blk [I 1] 3) :: H) rfl rfl rfl (g_IndexI 108 [ptr b1] (fun n => decide (n ≥ 1)) [0, 2] oa 2 c rfl (by decide) ((b1, blk [I 1] 3) :: H) (fun n _ => q_reached1 n 1 b1 _)) (fun o H' ⟨r, e1, e2, e3⟩ => ⟨_, e1, by rw [idx_02 e2], e3⟩)) rfl rfl ?_)
 rintro _ _ ⟨rfl, rfl⟩
 refine QA (vnil ?_)
 refine vret (V1 (H) Tryz.func79 ?_)
 exact ⟨rfl, rfl⟩
theorem q_sorted02 (oa : Option Addr) (c : Nat) (H : Heap) [hs : SlO H oa 1 encI [0, 2]] : VHas Tryz.prog 67 [.slice oa 2 c] (.bool true) H H := by
 refine CV 21 Tryz.func67 ?_
 refine KK2 (QA (vnil (vseq (KK2 ?_))))
 refine QM ?_
 refine QQ (vlen rfl) rfl ?_
 refine QQ (vsub rfl rfl (by unfold InR; decide)) rfl ?_
 refine QA (vnil (vblock ?_))
 refine vloop1 ?_
 refine vseq (KK2 (QM ?_))
 refine QQ (vgtr rfl rfl) rfl (vnil ?_)
 refine vcondt rfl (vskip (vseq (vblock (vseq ?_))))
 refine DR [(.q, 0), (.q, 1), (.q, 2), (.q, 3), (.q, 4), (.q, 5), (.q, 6), (.q, 7), (.q, 8), (.q, 9)] Tryz.mixed ?_
 refine DM ?_
 refine DM ?_
 refine DD (visg (enc := encI) (z := 2) rfl rfl (by decide) w2_1) rfl ?_
 refine DD (vldS1 (enc := encI) (z := 2) rfl w2_1 rfl) rfl ?_
 refine DM ?_
 refine DM ?_
 refine DD (vsub rfl rfl (by unfold InR; decide)) rfl ?_
 refine DD (visg (enc := encI) (z := 0) rfl rfl (by decide) w2_0) rfl ?_
 refine DD (vldS1 (enc := encI) (z := 0) rfl w2_0 rfl) rfl ?_
 refine DD (vcq rfl rfl rfl (q_cmpLess 2 0 _)) rfl ?_
 refine vdknow (d := 20) (b' := false) rfl (by decide) ?_
 refine vdend rfl (vcondf rfl (vskip (vinblock (vregion (QM ?_)))))
 refine QQ (vsub rfl rfl (by unfold InR; decide)) rfl ?_
 refine QA (vnil ?_)
 refine vinloop1 ?_
 refine vseq (KK2 (QM ?_))
 refine QQ (vgtr rfl rfl) rfl (vnil ?_)
 refine vcondf rfl ?_
 refine vexit (k' := _) rfl ?_
 refine KK2 (QA (vnil ?_))
 refine vret (V1 (H) Tryz.func67 ?_)
 exact ⟨rfl, rfl⟩
end Go.Proofs.YtoebpndlbldfcaaGreatDoor
namespace Go.Proofs.YtoebpndlbldfcaaGreatDoor
open Go
set_option maxRecDepth 100000
attribute [local irreducible] tightP hullP rootP farP rows endsOf
instance tApSh : TAp Tryz.prog 87 93 3 24 := mkTAp (z := .agg [I 0, I 0, .bool false].toArray) (by kernel_rfl) (by kernel_rfl) rfl
theorem d_fire0 (oa : Option Addr) (c : Nat) (H : Heap) [hs : SlO H oa 1 encI [0, 2]] : VCall Tryz.prog 68 [vF0, .slice oa 2 c].toArray H (fun o H' => ∃ oa' c' B, o = .val (.slice oa' 1 c') ∧ H' = B ++ H ∧ OwnS 93 3 (.slice oa' 1 c') 1 [I 1, I 0, .bool false] B) := by
 refine CV 55 Tryz.func68 ?_
 refine KK2 (BX fun b1 => ?_)
 refine QA (KK3 ?_)
 refine QA (vnil (vseq (KK2 ?_)))
 refine QF ?_
 refine QL ?_
 refine QM (vnil (vblock ?_))
 refine vloop1 ?_
 refine KK2 (QS (vnil (vseq ?_)))
 refine vcondt rfl (vskip (vseq (vblock (KK2 (QM ?_)))))
 refine QA (vnil (vseq ?_))
 refine vdraw [(.q, 0), (.q, 1), (.q, 2), (.q, 3), (.q, 4), (.q, 5), (.q, 6), (.q, 7), (.q, 8), (.q, 9), (.a (blk [.int .i64 0, .int .i64 0, .bool false] (93)), 10), (.s, 11)] Tryz.mixed (by kernel_rfl) ⟨⟨_, _, _, _, _, rfl, _, inferInstance, rfl⟩, True.intro⟩ ?_
 refine DM ?_
 refine DN ?_
 refine DM ?_
 refine DD (vcp rfl rfl rfl (c_due0)) rfl ?_
 refine DD (vcq rfl rfl rfl (q_reached0 oa c _)) rfl ?_
 refine DM ?_
 refine DF ?_
 refine DL ?_
 refine DD (vrem rfl rfl (by omega)) rfl ?_
 refine DB ?_
 refine vda rfl rfl (fun b2 => ?_)
 refine vds (mone rfl) (vstn rfl rfl rfl rfl rfl) rfl ?_
 refine vdend rfl (vseq ?_)
 refine DR [(.q, 0), (.q, 1), (.q, 2), (.q, 3), (.q, 4), (.q, 5), (.q, 6), (.q, 7), (.q, 8), (.q, 9), (.q, 10), (.q, 11), (.q, 12), (.q, 13), (.q, 14), (.q, 15), (.q, 16), (.q, 17), (.q, 18), (.q, 19), (.q, 20), (.q, 21), (.q, 22), (.q, 23), (.q, 24), (.q, 25), (.c, 26)] Tryz.mixed ?_
 refine DF ?_
 refine DL ?_
 refine DD (vgeq rfl rfl) rfl ?_
 refine DM ?_
 refine vdknow (d := 26) (b' := true) rfl (by decide) ?_
 refine WM ?_
 refine WF ?_
 refine WL ?_
 refine WW (vgeq rfl rfl) rfl ?_
 refine DT ?_
 refine DM ?_
 refine vdknow (d := 32) (b' := false) rfl (by decide) ?_
 refine NP4 ?_
 refine NP4 ?_
 refine NP4 ?_
 refine NP2 ?_
 refine DU ?_
 refine DF ?_
 refine vdcs (mone rfl) (vst1 rfl rfl rfl rfl) rfl ?_
 refine vdend rfl (vregion (QM ?_))
 refine QN ?_
 refine vone rfl (vxg (vbs rfl rfl rfl rfl rfl rfl) rfl rfl ?_)
 rintro _ _ ⟨b3, rfl, rfl⟩
 refine vone rfl (vxg (vappF (a := ⟨b3, 0, Option.none⟩) (m := 1) (c := 1) (size := 3) (bytes := 24) (F := fun C => C ++ ((b3, blk [I 1, I 0, .bool false] 93) :: (b2, blk [I 1, I 0, .bool false] 93) :: (b1, blk [I 1, I 1, I 1, I 1, I 0] 91) :: H)) (H0 := (b3, blk [I 1, I 0, .bool false] 93) :: (b2, blk [I 1, I 0, .bool false] 93) :: (b1, blk [I 1, I 1, I 1, I 1, I 0] 91) :: H) (B := []) (xs := []) (news := [I 1, I 0, .bool false]) (fun C => .refl _) rfl rfl OwnS.nil rfl (news_blk (b := b3) (List.Mem.head _)) (fun u hu => by simp at hu; rcases hu with rfl | rfl | rfl <;> rfl) (by omega) (by simp only [maxLen]; omega) (by omega)) rfl rfl ?_)
 rintro _ _ ⟨B2, hown2, _, rfl⟩
 obtain ⟨oa2, c2, rfl, hle2⟩ := hown2.shape
 refine QA (vnil (vinblock (vregion ?_)))
 refine QQ (vadd rfl rfl (by unfold InR; omega)) rfl ?_
 refine QM (vnil ?_)
 refine vinloop1 ?_
 refine KK2 (QS (vnil (vseq ?_)))
 refine vcondf rfl ?_
 refine vexit (k' := _) rfl ?_
 refine KK2 (QM ?_)
 refine QA (vnil ?_)
 refine vret (V1 (B2 ++ H) Tryz.func68 ?_)
 exact ⟨oa2, c2, B2, rfl, rfl, hown2⟩
theorem d_Fire0 (oa : Option Addr) (c : Nat) (H : Heap) [hs : SlO H oa 1 encI [0, 2]] : VCall Tryz.prog 43 [vF0, .slice oa 2 c].toArray H (fun o H' => ∃ oa' c' B, o = .val (tup [.slice oa' 1 c', I 0]) ∧ H' = B ++ H ∧ OwnS 93 3 (.slice oa' 1 c') 1 [I 1, I 0, .bool false] B) := by
 refine CV 40 Tryz.func43 ?_
 refine KK2 (BX fun b1 => ?_)
 refine QA ?_
 refine QA (vnil (vseq (KK2 ?_)))
 refine QN ?_
 refine QQ (vcp rfl rfl rfl (c_CheckFiring0)) rfl ?_
 refine QA (KK3 ?_)
 refine QM ?_
 refine QG ?_
 refine vknow (d := 11) (b' := false) rfl (by decide) ?_
 refine vnil (vcondf rfl (vskip (KK2 (QM ?_))))
 refine QQ (vlen rfl) rfl ?_
 refine QQ (vcp rfl rfl rfl (c_swithin _ _ _)) rfl ?_
 refine QM ?_
 refine vknow (d := 16) (b' := true) rfl (by decide) ?_
 refine YM ?_
 refine YY (vcq rfl rfl rfl (q_sorted02 oa c _)) rfl ?_
 refine QT ?_
 refine QA (vnil (vseq (KK2 ?_)))
 refine QM ?_
 refine QQ (vnot rfl) rfl ?_
 refine QM ?_
 refine vknow (d := 22) (b' := false) rfl rfl ?_
 refine YM ?_
 refine YY (visg (enc := encI) (z := 0) rfl rfl (by decide) w2_0) rfl ?_
 refine YY (vldS1 (enc := encI) (z := 0) rfl w2_0 rfl) rfl ?_
 refine YS ?_
 refine QU ?_
 refine QM ?_
 refine vknow (d := 28) (b' := false) rfl (by decide) ?_
 refine YM ?_
 refine YM ?_
 refine YY (vlen rfl) rfl ?_
 refine YY (vsub rfl rfl (by unfold InR; decide)) rfl ?_
 refine YY (visg (enc := encI) (z := 2) rfl rfl (by decide) w2_1) rfl ?_
 refine YY (vldS1 (enc := encI) (z := 2) rfl w2_1 rfl) rfl ?_
 refine YY (vgtr rfl rfl) rfl ?_
 refine QU ?_
 refine vknow (d := 36) (b' := false) rfl (by decide) ?_
 refine vnil (vcondf rfl (vskip (KK2 (QN ?_))))
 refine QM ?_
 refine vone rfl (vxg (vcg (R := fun v H' => ∃ oa' c' B, v = .slice oa' 1 c' ∧ H' = B ++ ((b1, blk [I 1, I 1, I 1, I 1, I 0] 91) :: H) ∧ OwnS 93 3 (.slice oa' 1 c') 1 [I 1, I 0, .bool false] B) rfl rfl rfl (d_fire0 oa c _) (fun o H' ⟨oa', c', B, e1, e2, e3⟩ => ⟨_, e1, oa', c', B, rfl, e2, e3⟩)) rfl rfl ?_)
 rintro _ _ ⟨oa2, c2, B, rfl, rfl, hown⟩
 refine QA ?_
 refine QA (vnil ?_)
 refine vret (vr2 (H' := B ++ H) Tryz.func43 rfl (.tmp rfl) (.tmp rfl) sb2 ?_)
 exact ⟨oa2, c2, B, rfl, rfl, hown⟩
end Go.Proofs.YtoebpndlbldfcaaGreatDoor
namespace Go.Proofs.YtoebpndlbldfcaaGreatDoor
open Go
set_option maxRecDepth 100000
attribute [local irreducible] tightP hullP rootP farP rows endsOf
abbrev vBB (a b : Int) : Value := .agg #[I a, I b]
theorem c_wide (a b : Int) (h : InR (b - a)) : VPure Tryz.prog 120 [vBB a b] (.bool (decide (b - a > 256))) := by
 intro H
 refine CV 9 Tryz.func120 ?_
 refine KK2 (BX fun b1 => ?_)
 refine QA (KK3 ?_)
 refine QF ?_
 refine QL ?_
 refine QF ?_
 refine QL ?_
 refine QQ (vsub rfl rfl h) rfl ?_
 refine QQ (vgtr rfl rfl) rfl ?_
 refine QA (vnil ?_)
 refine vret (V1 (H) Tryz.func120 ?_)
 exact ⟨rfl, rfl⟩
theorem c_about (n : Int) : VPure Tryz.prog 263 [I n] (vBB (-(rootE n).1) (rootE n).1) := by
 have hr : 0 ≤ (rootE n).1 ∧ (rootE n).1 ≤ 1099511627776 := by
  unfold rootE; split
  · rename_i h; have h1 := (rootP_is h.1); unfold IsRt at h1; refine ⟨h1.1, ?_⟩; have h2 := h1.2.1; by_cases h3 : rootP n ≤ 1; omega; have := Int.mul_le_mul (show (1 : Int) ≤ rootP n by omega) (Int.le_refl (rootP n)) (by omega) (by omega); omega
  · decide
 intro H
 refine CV 14 Tryz.func263 ?_
 refine KK2 (AL fun b1 => (KK3 ?_))
 refine QM ?_
 refine QQ (vcp rfl rfl rfl (c_Root n)) rfl ?_
 refine QM ?_
 refine QX ?_
 refine QX ?_
 refine QA ?_
 refine QA (KK3 ?_)
 refine QM ?_
 refine QQ (vneg rfl (by unfold InR; omega)) rfl ?_
 refine QM ?_
 refine QB ?_
 refine SN (vnil ?_)
 refine vret (VN (H) Tryz.func263 ?_)
 exact ⟨rfl, rfl⟩
theorem c_shift (a b x y m : Int) (h1 : InR (a + x)) (h2 : InR (b + y)) (h3 : InR (-m)) : VPure Tryz.prog 232 [vBB a b, vBB x y, I m] (vBB (max (a + x) (-m)) (min (b + y) m)) := by
 intro H
 refine CV 23 Tryz.func232 ?_
 refine KK2 (BX fun b1 => ?_)
 refine BX fun b2 => ?_
 refine AL fun b3 => (KK3 ?_)
 refine QF ?_
 refine QL ?_
 refine QF ?_
 refine QL ?_
 refine QQ (vadd rfl rfl (by first | exact h1 | exact h2 | exact h3)) rfl ?_
 refine QM ?_
 refine QQ (vneg rfl (by first | exact h1 | exact h2 | exact h3)) rfl ?_
 refine QQ (vmax2 rfl rfl) rfl ?_
 refine QF ?_
 refine QL ?_
 refine QF ?_
 refine QL ?_
 refine QQ (vadd rfl rfl (by first | exact h1 | exact h2 | exact h3)) rfl ?_
 refine QM ?_
 refine QQ (vmin2 rfl rfl) rfl ?_
 refine QB ?_
 refine SN (vnil ?_)
 refine vret (VN (H) Tryz.func232 ?_)
 exact ⟨rfl, rfl⟩
end Go.Proofs.YtoebpndlbldfcaaGreatDoor
namespace Go.Proofs.YtoebpndlbldfcaaGreatDoor
open Go
set_option maxRecDepth 100000
attribute [local irreducible] tightP hullP rootP farP rows endsOf
abbrev r9 : Rg := ⟨⟨0, 9⟩, ⟨0, 9⟩, ⟨0, 18⟩, ⟨-9, 9⟩⟩
abbrev rb : Rg := ⟨⟨0, 1⟩, ⟨0, 1⟩, ⟨0, 2⟩, ⟨-1, 1⟩⟩
abbrev spR : Rg := ⟨⟨-1, 1⟩, ⟨-1, 1⟩, ⟨-2, 2⟩, ⟨-2, 2⟩⟩
def shB (a b : Bd) (m : Int) : Bd := ⟨max (a.lo + b.lo) (-m), min (a.hi + b.hi) m⟩
def winR (r s : Rg) : Rg := ⟨shB r.x s.x 32768, shB r.y s.y 32768, shB r.s s.s 65536, shB r.d s.d 65536⟩
theorem m_nodes (w : World) : (method (Tryz.prog.types.size + Made.depth) 282 (.agg #[I 0, I 1, I 0, I 2]) "paravane/fix.nodes").run Tryz.prog w = .ok (260, .agg #[I 0, I 1]) w := by kernel_rfl
theorem m_span (w : World) : (method (Tryz.prog.types.size + Made.depth) 282 (.agg #[I 0, I 1, I 0, I 2]) "paravane/fix.span").run Tryz.prog w = .ok (262, .agg #[I 0, I 1, I 0, I 2]) w := by kernel_rfl
theorem vinvp {P : Program} {N : Nat} {E : Env} {D : List Deferred} {H : Heap} {d : Nat} {ty : TypeId} {pos : String} {af : Array Edge} {g : Option (Nat × Bool)} {recv : Operand} {name : String} {al : List Operand} {ats : Array TypeId} {gf : FuncId} {T' : TypeId} {u u' v : Value} {vs : List Value} [hf : TFn P gf]
    (hx : ev E recv = some (.iface T' u)) (hm : ∀ w, (method (P.types.size + Made.depth) T' u name).run P w = .ok (gf, u') w) (ha : evL E al = some vs) (hc : VPure P gf (u' :: vs) v) :
    OQ P N E D H ⟨some d, .call ⟨.invoke recv name, al.toArray, ats⟩, ty, pos, af, g⟩ v := vinv hx hm ha (hc H) (fun _ _ h => ⟨v, h.1, rfl, h.2⟩)
theorem c_fwithin (n a b : Int) : VPure Tryz.prog 118 [I n, I a, I b] (.bool (decide (a ≤ n ∧ n ≤ b))) := by
 intro H
 refine CV 15 Tryz.func118 ?_
 refine KK2 (QA (KK3 ?_))
 refine QM ?_
 refine QM ?_
 refine QQ (vgeq rfl rfl) rfl ?_
 refine QM ?_
 refine vsplitd (d := 10) rfl (fun h10 => ?_) (fun h10 => ?_)
 ·
  refine YM ?_
  refine YM ?_
  refine YY (vleq rfl rfl) rfl ?_
  refine QT ?_
  refine QA (vnil ?_)
  refine vret (V1 (H) Tryz.func118 ?_)
  exact ⟨obd (by omega), rfl⟩
 ·
  refine NO3 ?_
  refine QU ?_
  refine QA (vnil ?_)
  refine vret (V1 (H) Tryz.func118 ?_)
  exact ⟨obf (by omega), rfl⟩
theorem fx_turn (a b : Int) (h1 : InR (-a)) (h2 : InR (-b)) : VPure Tryz.prog 233 [vBB a b] (vBB (-b) (-a)) := by
 intro H
 refine CV 10 Tryz.func233 ?_
 refine KK2 (BX fun b1 => ?_)
 refine AL fun b2 => (KK3 ?_)
 refine QF ?_
 refine QL ?_
 refine QQ (vneg rfl (by first | exact h1 | exact h2)) rfl ?_
 refine QF ?_
 refine QL ?_
 refine QQ (vneg rfl (by first | exact h1 | exact h2)) rfl ?_
 refine QB ?_
 refine SN (vnil ?_)
 refine vret (VN (H) Tryz.func233 ?_)
 exact ⟨rfl, rfl⟩
theorem fx_back  : VPure Tryz.prog 200 [vR spR] (vR spR) := by
 intro H
 refine CV 21 Tryz.func200 ?_
 refine KK2 (BX fun b1 => ?_)
 refine AL fun b2 => (KK3 ?_)
 refine QA (vnil (vseq ?_))
 refine DR [(.q, 0), (.q, 1), (.q, 2), (.q, 3), (.q, 4), (.q, 5), (.q, 6), (.q, 7), (.q, 8), (.q, 9), (.q, 10), (.q, 11), (.q, 12), (.q, 13), (.q, 14), (.q, 15), (.q, 16), (.c, 17)] Tryz.mixed ?_
 refine DM ?_
 refine DF ?_
 refine DN ?_
 refine DD (vcp rfl rfl rfl ((fx_turn (-1) 1 (by unfold InR; omega) (by unfold InR; omega)))) rfl ?_
 refine DM ?_
 refine DF ?_
 refine DN ?_
 refine DD (vcp rfl rfl rfl ((fx_turn (-1) 1 (by unfold InR; omega) (by unfold InR; omega)))) rfl ?_
 refine DM ?_
 refine DF ?_
 refine DN ?_
 refine DD (vcp rfl rfl rfl ((fx_turn (-2) 2 (by unfold InR; omega) (by unfold InR; omega)))) rfl ?_
 refine DM ?_
 refine DF ?_
 refine DN ?_
 refine DD (vcp rfl rfl rfl ((fx_turn (-2) 2 (by unfold InR; omega) (by unfold InR; omega)))) rfl ?_
 refine DB ?_
 refine vdcs (mone rfl) (vstn rfl rfl rfl rfl rfl) rfl ?_
 refine vdend rfl ?_
 refine vret (VN (H) Tryz.func200 ?_)
 exact ⟨rfl, rfl⟩
theorem fx_about2 : VPure Tryz.prog 263 [I 2] (vBB (-1) 1) := by
  have := c_about 2
  rw [show (rootE 2).1 = 1 by kernel_rfl] at this; exact this
theorem fx_about4 : VPure Tryz.prog 263 [I 4] (vBB (-2) 2) := by
  have := c_about 4
  rw [show (rootE 4).1 = 2 by kernel_rfl] at this; exact this
theorem fx_span  : VPure Tryz.prog 262 [.agg #[I 0, I 1, I 0, I 2]] (vR spR) := by
 intro H
 refine CV 22 Tryz.func262 ?_
 refine KK2 (BX fun b1 => ?_)
 refine AL fun b2 => (vnil (vseq ?_))
 refine DR [(.q, 0), (.q, 1), (.q, 2), (.q, 3), (.q, 4), (.q, 5), (.q, 6), (.q, 7), (.q, 8), (.q, 9), (.q, 10), (.q, 11), (.q, 12), (.q, 13), (.q, 14), (.q, 15), (.q, 16), (.q, 17), (.q, 18), (.c, 19)] Tryz.mixed ?_
 refine DF ?_
 refine DF ?_
 refine DL ?_
 refine DD (vcp rfl rfl rfl (fx_about2)) rfl ?_
 refine DF ?_
 refine DF ?_
 refine DL ?_
 refine DD (vcp rfl rfl rfl (fx_about2)) rfl ?_
 refine DF ?_
 refine DF ?_
 refine DL ?_
 refine DD (vmul rfl rfl (by unfold InR; omega)) rfl ?_
 refine DD (vcp rfl rfl rfl (fx_about4)) rfl ?_
 refine DF ?_
 refine DF ?_
 refine DL ?_
 refine DD (vmul rfl rfl (by unfold InR; omega)) rfl ?_
 refine DD (vcp rfl rfl rfl (fx_about4)) rfl ?_
 refine DB ?_
 refine vdcs (mone rfl) (vstn rfl rfl rfl rfl rfl) rfl ?_
 refine vdend rfl ?_
 refine vret (VN (H) Tryz.func262 ?_)
 exact ⟨rfl, rfl⟩
theorem fx_nodes  : VPure Tryz.prog 260 [.agg #[I 0, I 1]] (tup [I 0, I 1]) := by
 intro H
 refine CV 8 Tryz.func260 ?_
 refine KK2 (BX fun b1 => ?_)
 refine QA ?_
 refine QA (vnil (vseq ?_))
 refine DR [(.q, 0), (.q, 1), (.q, 2), (.q, 3), (.q, 4), (.q, 5)] Tryz.mixed ?_
 refine DF ?_
 refine DL ?_
 refine DF ?_
 refine DL ?_
 refine DA ?_
 refine DA (vdend rfl ?_)
 refine vret (vr2 (H' := H) Tryz.func260 rfl (.tmp rfl) (.tmp rfl) sb ?_)
 exact ⟨rfl, rfl⟩
theorem fx_window (r s : Rg) (hr : r.sm 1048576) (hs : s.sm 1048576) : VPure Tryz.prog 199 [vR r, vR s] (vR (winR r s)) := by
 unfold Rg.sm Bd.sm at hr hs
 intro H
 refine CV 26 Tryz.func199 ?_
 refine KK2 (BX fun b1 => ?_)
 refine BX fun b2 => ?_
 refine AL fun b3 => (vnil (vseq ?_))
 refine DR [(.q, 0), (.q, 1), (.q, 2), (.q, 3), (.q, 4), (.q, 5), (.q, 6), (.q, 7), (.q, 8), (.q, 9), (.q, 10), (.q, 11), (.q, 12), (.q, 13), (.q, 14), (.q, 15), (.q, 16), (.q, 17), (.q, 18), (.q, 19), (.q, 20), (.c, 21)] Tryz.mixed ?_
 refine DF ?_
 refine DN ?_
 refine DF ?_
 refine DN ?_
 refine DD (vcp rfl rfl rfl (c_shift r.x.lo r.x.hi s.x.lo s.x.hi 32768 (by unfold InR; omega) (by unfold InR; omega) (by unfold InR; omega))) rfl ?_
 refine DF ?_
 refine DN ?_
 refine DF ?_
 refine DN ?_
 refine DD (vcp rfl rfl rfl (c_shift r.y.lo r.y.hi s.y.lo s.y.hi 32768 (by unfold InR; omega) (by unfold InR; omega) (by unfold InR; omega))) rfl ?_
 refine DF ?_
 refine DN ?_
 refine DF ?_
 refine DN ?_
 refine DD (vcp rfl rfl rfl (c_shift r.s.lo r.s.hi s.s.lo s.s.hi 65536 (by unfold InR; omega) (by unfold InR; omega) (by unfold InR; omega))) rfl ?_
 refine DF ?_
 refine DN ?_
 refine DF ?_
 refine DN ?_
 refine DD (vcp rfl rfl rfl (c_shift r.d.lo r.d.hi s.d.lo s.d.hi 65536 (by unfold InR; omega) (by unfold InR; omega) (by unfold InR; omega))) rfl ?_
 refine DB ?_
 refine vdcs (mone rfl) (vstn rfl rfl rfl rfl rfl) rfl ?_
 refine vdend rfl ?_
 refine vret (VN (H) Tryz.func199 ?_)
 exact ⟨rfl, rfl⟩
theorem fx_cut (r w x : Rg) (h : meetE r w = (x, 0)) : VPure Tryz.prog 198 [vR r, vR w] (vR x) := by
 have hM := c_Meet r w
 rw [h] at hM
 intro H
 refine CV 18 Tryz.func198 ?_
 refine KK2 (BX fun b1 => ?_)
 refine BX fun b2 => ?_
 refine AL fun b3 => (KK3 ?_)
 refine QN ?_
 refine QN ?_
 refine QQ (vcp rfl rfl rfl (hM)) rfl ?_
 refine QM ?_
 refine QX ?_
 refine QX ?_
 refine AL fun b4 => ?_
 refine SN ?_
 refine QA (vnil (vseq (KK2 ?_)))
 refine QM ?_
 refine QG ?_
 refine vknow (d := 14) (b' := false) rfl rfl ?_
 refine vnil (vcondf rfl (vskip (KK2 (QN ?_))))
 refine SN (vnil ?_)
 refine vret (VN (H) Tryz.func198 ?_)
 exact ⟨rfl, rfl⟩
theorem fx_possible (a b : Rg) (m : Bd) (h : gapE a b = (m, 0)) (h1 : m.lo ≤ 2) (h2 : 0 ≤ m.hi) : VPure Tryz.prog 201 [.iface 282 (.agg #[I 0, I 1, I 0, I 2]), vR a, vR b] (.bool true) := by
 have hG := c_Gap a b
 rw [h] at hG
 intro H
 refine CV 35 Tryz.func201 ?_
 refine KK2 (BX fun b1 => ?_)
 refine BX fun b2 => ?_
 refine QA (KK3 ?_)
 refine QM (vnil (vblock (KK2 ?_)))
 refine QQ (vtay (by kernel_rfl) rfl) rfl ?_
 refine QX ?_
 refine QX (vnil ?_)
 refine vcondt rfl (KK2 (AL fun b3 => ?_))
 refine SN (KK3 ?_)
 refine QN ?_
 refine QN ?_
 refine QQ (vcp rfl rfl rfl (hG)) rfl ?_
 refine QM ?_
 refine QX ?_
 refine QX ?_
 refine AL fun b4 => ?_
 refine SN ?_
 refine QA (KK3 ?_)
 refine QF ?_
 refine QL ?_
 refine QF ?_
 refine QF ?_
 refine QL ?_
 refine QQ (vleq rfl rfl) rfl ?_
 refine vknow (d := 26) (b' := true) rfl (decide_eq_true h1) ?_
 refine QM ?_
 refine YF ?_
 refine YF ?_
 refine YL ?_
 refine YF ?_
 refine YL ?_
 refine YY (vleq rfl rfl) rfl ?_
 refine vknow (d := 33) (b' := true) rfl (decide_eq_true h2) ?_
 refine QT ?_
 refine QA (vnil ?_)
 refine vret (V1 (H) Tryz.func201 ?_)
 exact ⟨rfl, rfl⟩
theorem fx_read  : VPure Tryz.prog 121 [.agg #[I 1, I 0, I 1, I 0, I 2, I 0, I 0, I 0, I 0, I 0, I 0, I 0, I 0, I 0], I 2] (tup [.iface 282 (.agg #[I 0, I 1, I 0, I 2]), .bool true]) := by
 intro H
 refine CV 119 Tryz.func121 ?_
 refine KK2 (BX fun b1 => ?_)
 refine QA ?_
 refine QA (KK3 ?_)
 refine QF ?_
 refine QL ?_
 refine QF ?_
 refine QL ?_
 refine QB ?_
 refine AL fun b2 => ?_
 refine SN (KK3 ?_)
 refine QF ?_
 refine QL ?_
 refine QM ?_
 refine QQ (vsub rfl rfl (by unfold InR; decide)) rfl ?_
 refine QQ (vcp rfl rfl rfl (c_fwithin _ _ _)) rfl ?_
 refine vknow (d := 18) (b' := true) rfl (by decide) ?_
 refine QM ?_
 refine YF ?_
 refine YL ?_
 refine YM ?_
 refine YY (vsub rfl rfl (by unfold InR; decide)) rfl ?_
 refine YY (vcp rfl rfl rfl (c_fwithin _ _ _)) rfl ?_
 refine vknow (d := 24) (b' := true) rfl (by decide) ?_
 refine QT ?_
 refine QM ?_
 refine YF ?_
 refine YL ?_
 refine YF ?_
 refine YL ?_
 refine YG ?_
 refine vknow (d := 31) (b' := true) rfl (by decide) ?_
 refine QT ?_
 refine QA (KK3 ?_)
 refine QF ?_
 refine QL ?_
 refine QF ?_
 refine QL ?_
 refine QF ?_
 refine QL ?_
 refine QB ?_
 refine AL fun b3 => ?_
 refine SN (vnil (vseq (KK2 ?_)))
 refine QF ?_
 refine QL (vnil (vblock (KK2 ?_)))
 refine QE ?_
 refine vknow (d := 43) (b' := true) rfl (by decide) ?_
 refine QA (vnil ?_)
 refine vcondt rfl (vseq ?_)
 refine vdraw1 (d := 8) rfl [(.q, 0), (.q, 1), (.q, 2), (.q, 3), (.q, 4), (.s, 5), (.q, 6), (.s, 7)] Tryz.mixed (by kernel_rfl) (allocOk_of _ (by kernel_rfl)) ?_
 refine DF ?_
 refine DL ?_
 refine DF ?_
 refine DL ?_
 refine DF ?_
 refine vds (mone rfl) (vst1 rfl rfl rfl rfl) rfl ?_
 refine DF ?_
 refine vds (mone rfl) (vst1 rfl rfl rfl rfl) rfl ?_
 refine vdend rfl (vseq ?_)
 refine DR [(.q, 0), (.q, 1), (.q, 2), (.q, 3), (.q, 4), (.q, 5), (.q, 6), (.q, 7), (.q, 8), (.q, 9), (.q, 10), (.q, 11), (.q, 12), (.q, 13), (.q, 14), (.q, 15), (.q, 16), (.q, 17), (.q, 18), (.q, 19), (.q, 20), (.q, 21), (.q, 22), (.q, 23), (.q, 24), (.q, 25), (.q, 26), (.q, 27)] Tryz.mixed ?_
 refine DN ?_
 refine DF ?_
 refine DL ?_
 refine DF ?_
 refine DL ?_
 refine DB ?_
 refine DB ?_
 refine DD (vmki (by kernel_rfl) rfl) rfl ?_
 refine DM ?_
 refine DM ?_
 refine WN ?_
 refine WN ?_
 refine WW (veqs rfl rfl rfl rfl rfl rfl) rfl ?_
 refine vdknow (d := 62) (b' := true) rfl (by decide) ?_
 refine DT ?_
 refine DM ?_
 refine WF ?_
 refine WL ?_
 refine WW (vgeq rfl rfl) rfl ?_
 refine vdknow (d := 67) (b' := true) rfl (by decide) ?_
 refine DT ?_
 refine DM ?_
 refine WF ?_
 refine WL ?_
 refine WF ?_
 refine WL ?_
 refine WW (vcp rfl rfl rfl (c_fwithin _ _ _)) rfl ?_
 refine vdknow (d := 74) (b' := true) rfl (by decide) ?_
 refine DT ?_
 refine DA ?_
 refine DA (vdend rfl ?_)
 refine vret (vr2 (H' := H) Tryz.func121 rfl (.tmp rfl) (.tmp rfl) sb ?_)
 exact ⟨rfl, rfl⟩
end Go.Proofs.YtoebpndlbldfcaaGreatDoor
namespace Go.Proofs.YtoebpndlbldfcaaGreatDoor
open Go
set_option maxRecDepth 100000
attribute [local irreducible] tightP hullP rootP farP rows endsOf
section
variable {P : Program} {b : Frame} {a : Act} {k : List Item} {cs : List Frame} {w : World} {ops : Array Oper}
theorem stepD_val {i : Nat} {rest : List Nat} {o : Oper} {v : Value} (hb : b.roundOf = Option.none) (ho : ops[i]? = some o) (hg : o.guard = Option.none) (h : (execOp a.eval o).run P w = .ok (.value v) w) :
    step P (lone (b.atR a (.inRegion ops (i :: rest) :: k)) cs w) = .next (lone (b.atR (a.put o.dst v) (.inRegion ops rest :: k)) cs w) := by
  refine step_lone_go ?_
  have hs : o.semAt b.roundOf a.eval = execOp a.eval o := by rw [hb]; exact Oper.semAt_none _ _
  have hf := Frame.finish_atR b a ops i rest k v
  rw [ho] at hf
  simp only [Option.bind_some] at hf
  rw [stepGR_op ho (by simp [Region.wanted, hg]), hs, ← hf]
  simp [stepG.apply, h]
theorem stepD_rec {i d : Nat} {rest : List Nat} {ats : Array TypeId} {ty : TypeId} {pos : String} {af : Array Edge} {c : Frame} (hb : b.roundOf = Option.none) (hk : b.kind = .deferred) (hc : c.mode = .returning) (ho : ops[i]? = some ⟨some d, .call ⟨.builtin .recover, #[], ats⟩, ty, pos, af, Option.none⟩) :
    step P (lone (b.atR a (.inRegion ops (i :: rest) :: k)) (c :: cs) w) = .next (lone (b.atR (a.put (some d) .nilIface) (.inRegion ops rest :: k)) (c :: cs) w) := by
  refine step_lone_go ?_
  have h : (execOp a.eval ⟨some d, .call ⟨.builtin .recover, #[], ats⟩, ty, pos, af, Option.none⟩).run P w = .ok .recover w := by
    simp [execOp, resolve, invoke, builtin]
  have hs : (⟨some d, .call ⟨.builtin .recover, #[], ats⟩, ty, pos, af, Option.none⟩ : Oper).semAt b.roundOf a.eval = execOp a.eval ⟨some d, .call ⟨.builtin .recover, #[], ats⟩, ty, pos, af, Option.none⟩ := by rw [hb]; exact Oper.semAt_none _ _
  have hf := Frame.finish_atR b a ops i rest k .nilIface
  rw [ho] at hf
  simp only [Option.bind_some] at hf
  rw [stepGR_op ho (by simp [Region.wanted]), hs, ← hf]
  simp [stepG.apply, h, hb, hk, hc, tryRecover, Frame.atR]
end
theorem vcallD_enter {P : Program} {g : FuncId} {fn : Func} {c : Code} {args : Array Value} (hf : P.funcs[g]? = some fn) (hb : fn.body = some c) :
    Frame.enter P g args .deferred = ({ (default : Frame) with fn := g, kind := .deferred } : Frame).atR ⟨args ++ Array.replicate (fn.ntmps - args.size) undef, []⟩ [.code c] := by
  simp [Frame.enter, Frame.atR, hf, hb]
  rfl
theorem fx_recD (b : Nat) (H : Heap) : VCallD Tryz.prog 160 #[ptr b] H (fun H' => H' = H) := by
  intro w c cs hE hm
  refine ⟨w, H, rfl, Fr.refl hE, ?_⟩
  rw [vcallD_enter Tryz.func160 rfl]
  refine .head stepR_seq ?_
  refine .head stepR_region ?_
  refine .head (stepD_rec (i := 0) (rest := [1]) (d := 4) rfl rfl hm rfl) ?_
  refine .head (stepD_val (i := 1) (rest := []) (v := .nilIface) rfl rfl rfl (by kernel_rfl)) ?_
  refine .head stepR_region_end ?_
  refine .head stepR_seq ?_
  refine .head stepR_region ?_
  refine .head (stepD_val (i := 0) (rest := [1]) (v := .nilIface) rfl rfl rfl (by kernel_rfl)) ?_
  refine .head (stepD_val (i := 1) (rest := []) (v := .bool false) rfl rfl rfl (by kernel_rfl)) ?_
  refine .head stepR_region_end ?_
  refine .head (stepR_cond (t := false) (by kernel_rfl)) ?_
  refine .head stepR_skip ?_
  refine .head (stepR_end rfl) ?_
  refine .one ((step_going_returned (P := Tryz.prog) (c := c) (cs := cs) (w := w) (v := .tuple #[]) rfl ⟨rfl, rfl, _, Tryz.func160, ?_⟩).trans ?_)
  · kernel_rfl
  have e : ({ c with mode := settle c.mode } : Frame) = c := by
    cases c
    simp only at hm
    subst hm
    rfl
  rw [e]
def c2 (a b : Rg) (rest : List Value) : List Value := clR a ++ (clR b ++ rest)
theorem subA (a b : Rg) (rest : List Value) : sub (c2 a b rest) 0 8 = some (clR a) := by simp [sub, tak, c2]
theorem subB (a b : Rg) (rest : List Value) : sub (c2 a b rest) 8 8 = some (clR b) := by simp [sub, tak, c2]
theorem putA (a b c : Rg) (rest : List Value) : put (c2 a b rest) 0 (clR c) = some (c2 c b rest) := by simp [put, c2]
theorem putB (a b c : Rg) (rest : List Value) : put (c2 a b rest) 8 (clR c) = some (c2 a c rest) := by simp [put, c2]
theorem fx_failed {gr : FuncId} [TFn Tryz.prog gr] {caps : List Value} {R : Heap → Prop} (H : Heap) (hc : VCall Tryz.prog gr caps.toArray H (fun o H' => o = .val (.tuple #[]) ∧ R H')) : VCall Tryz.prog 123 [.func (.func gr) #[] caps.toArray].toArray H (fun o H' => ∃ v, o = .val v ∧ v = .bool false ∧ R H') := by
 refine CV 6 Tryz.func123 ?_
 refine KK2 (AL fun b1 => (KK3 ?_))
 refine QQ (vmf rfl) rfl ?_
 refine vone rfl (vxdef rfl ?_)
 refine KK3 (QM ?_)
 refine vone rfl (vxg (vcg (R := fun v H' => ∃ A', H' = (b1, blk [.bool false] 4) :: A' ∧ R A') rfl rfl rfl (VCall.conv (VCall.perm (List.perm_append_comm (l₁ := [(b1, blk [.bool false] 4)]) (l₂ := H)) (VCall.frame hc)) (R' := fun o H' => o = .val (.tuple #[]) ∧ ∃ A', H' = (b1, blk [.bool false] 4) :: A' ∧ R A') (fun o H' ⟨A', e1, e2, e3⟩ => ⟨_, by rw [e1]; exact List.perm_append_comm, e2, A', rfl, e3⟩)) (fun o H' h => ⟨_, h.1, h.2⟩)) rfl rfl ?_)
 rintro _ _ ⟨A', rfl, hR⟩
 refine KK3 (SU (vnil ?_))
 refine vret (vret_def (gf := 160) (caps := [ptr b1]) (fx_recD b1 _) ?_)
 rintro H' rfl
 exact vr1 (H' := A') Tryz.func123 rfl (.cell1 rfl rfl) sb2 ⟨_, rfl, rfl, hR⟩
theorem fx_stepT (g1 k1 g2 k2 : Nat) (r1 b : Rg) (rest : List Value) (m : Bd) (hr : r1.sm 1048576) (h1 : meetE zR (winR r1 spR) = (zR, 0)) (h2 : meetE r1 (winR zR spR) = (b, 0)) (h3 : gapE zR b = (m, 0)) (h4 : m.lo ≤ 2) (h5 : 0 ≤ m.hi) (hne : decide ([b.x.lo, b.x.hi, b.y.lo, b.y.hi, b.s.lo, b.s.hi, b.d.lo, b.d.hi] ≠ [r1.x.lo, r1.x.hi, r1.y.lo, r1.y.hi, r1.s.lo, r1.s.hi, r1.d.lo, r1.d.hi]) = true) (H : Heap) : VCall Tryz.prog 162 [.agg #[.slice (some ⟨g1, 0, Option.none⟩) 2 k1, .slice (some ⟨g2, 0, Option.none⟩) 1 k2], .iface 282 (.agg #[I 0, I 1, I 0, I 2])].toArray ((g1, blk (c2 zR r1 rest) 134) :: H) (fun o H' => ∃ v, o = .val v ∧ v = .bool true ∧ H' = (g1, blk (c2 zR b rest) 134) :: H) := by
 have hs : spR.sm 1048576 := by unfold Rg.sm Bd.sm; decide
 have hz : zR.sm 1048576 := by unfold zR Rg.sm Bd.sm; decide
 refine CV 74 Tryz.func162 ?_
 refine KK2 (BX fun b1 => ?_)
 refine QA (KK3 ?_)
 refine QM ?_
 refine QQ (vinvp rfl m_nodes rfl fx_nodes) rfl ?_
 refine QM ?_
 refine QX ?_
 refine QX ?_
 refine QA ?_
 refine QA (vnil (vseq ?_))
 refine vdraw [(.q, 0), (.q, 1), (.q, 2), (.q, 3), (.q, 4), (.q, 5), (.q, 6), (.q, 7), (.q, 8), (.q, 9), (.q, 10), (.q, 11), (.q, 12), (.q, 13), (.q, 14), (.a (blk [.int .i64 0, .int .i64 0, .int .i64 0, .int .i64 0, .int .i64 0, .int .i64 0, .int .i64 0, .int .i64 0] (134)), 15), (.s, 16)] Tryz.mixed (by kernel_rfl) ⟨⟨_, _, _, _, _, rfl, _, inferInstance, rfl⟩, True.intro⟩ ?_
 refine DF ?_
 refine DL ?_
 refine DM ?_
 refine DD (vis rfl rfl (by omega)) rfl ?_
 refine DD (vldn rfl (subA _ _ _)) rfl ?_
 refine DF ?_
 refine DL ?_
 refine DM ?_
 refine DD (vis rfl rfl (by omega)) rfl ?_
 refine DD (vldn rfl (subB _ _ _)) rfl ?_
 refine DM ?_
 refine DD (vinvp rfl m_span rfl fx_span) rfl ?_
 refine DD (vcp rfl rfl rfl (fx_back)) rfl ?_
 refine DD (vcp rfl rfl rfl (fx_window r1 spR hr hs)) rfl ?_
 refine DD (vcp rfl rfl rfl (fx_cut zR _ zR h1)) rfl ?_
 refine vda rfl rfl (fun b2 => ?_)
 refine vds (mone rfl) (vstn rfl rfl rfl rfl rfl) rfl ?_
 refine vdend rfl (vseq ?_)
 refine vdraw [(.q, 0), (.q, 1), (.q, 2), (.q, 3), (.q, 4), (.q, 5), (.q, 6), (.q, 7), (.q, 8), (.q, 9), (.a (blk [.int .i64 0, .int .i64 0, .int .i64 0, .int .i64 0, .int .i64 0, .int .i64 0, .int .i64 0, .int .i64 0] (134)), 10), (.s, 11)] Tryz.mixed (by kernel_rfl) ⟨⟨_, _, _, _, _, rfl, _, inferInstance, rfl⟩, True.intro⟩ ?_
 refine DF ?_
 refine DL ?_
 refine DM ?_
 refine DD (vis rfl rfl (by omega)) rfl ?_
 refine DD (vldn rfl (subB _ _ _)) rfl ?_
 refine DN ?_
 refine DM ?_
 refine DD (vinvp rfl m_span rfl fx_span) rfl ?_
 refine DD (vcp rfl rfl rfl (fx_window zR spR hz hs)) rfl ?_
 refine DD (vcp rfl rfl rfl (fx_cut r1 _ b h2)) rfl ?_
 refine vda rfl rfl (fun b3 => ?_)
 refine vds (mone rfl) (vstn rfl rfl rfl rfl rfl) rfl ?_
 refine vdend rfl (vseq (KK2 (QM ?_)))
 refine QN ?_
 refine QN ?_
 refine QQ (vcp rfl rfl rfl (fx_possible zR b m h3 h4 h5)) rfl ?_
 refine QQ (vnot rfl) rfl ?_
 refine vknow (d := 44) (b' := false) rfl rfl ?_
 refine vnil (vcondf rfl (vskip (vseq ?_)))
 refine DR [(.q, 0), (.q, 1), (.q, 2), (.q, 3), (.q, 4), (.q, 5), (.q, 6), (.q, 7), (.q, 8), (.q, 9), (.q, 10), (.q, 11), (.q, 12), (.q, 13), (.q, 14), (.q, 15), (.q, 16)] Tryz.mixed ?_
 refine DN ?_
 refine DF ?_
 refine DL ?_
 refine DM ?_
 refine DD (vis rfl rfl (by omega)) rfl ?_
 refine DD (vldn rfl (subA _ _ _)) rfl ?_
 refine DD (vnes rfl rfl rfl rfl rfl rfl) rfl ?_
 refine vdknow (d := 53) (b' := false) rfl (by decide) ?_
 refine DM ?_
 refine WN ?_
 refine WF ?_
 refine WL ?_
 refine WM ?_
 refine WW (vis rfl rfl (by omega)) rfl ?_
 refine WW (vldn rfl (subB _ _ _)) rfl ?_
 refine WW (vnes rfl rfl rfl rfl rfl rfl) rfl ?_
 refine vdknow (d := 61) (b' := true) rfl hne ?_
 refine DU ?_
 refine DA (vdend rfl (vseq ?_))
 refine vdrawP (G0 := [(g1, blk (c2 zR r1 rest) 134)]) (H0 := [(b3, blk (clR b) 134), (b2, blk (clR zR) 134), (b1, blk [.slice (some ⟨g1, 0, Option.none⟩) 2 k1, .slice (some ⟨g2, 0, Option.none⟩) 1 k2] 191)] ++ H) (perm_mid [(b3, blk (clR b) 134), (b2, blk (clR zR) 134), (b1, blk [.slice (some ⟨g1, 0, Option.none⟩) 2 k1, .slice (some ⟨g2, 0, Option.none⟩) 1 k2] 191)] [(g1, blk (c2 zR r1 rest) 134)] H) [(.q, 0), (.q, 1), (.q, 2), (.q, 3), (.q, 4), (.q, 5), (.q, 6), (.q, 7), (.q, 8), (.s, 9), (.q, 10), (.s, 11)] Tryz.mixed (by kernel_rfl) (allocOk_of _ (by kernel_rfl)) ?_
 refine DF ?_
 refine DL ?_
 refine DM ?_
 refine DF ?_
 refine DL ?_
 refine DM ?_
 refine DN ?_
 refine DN ?_
 refine DD (vis rfl rfl (by omega)) rfl ?_
 refine vds (mone rfl) (vstn (cs' := c2 zR r1 rest) rfl rfl rfl rfl (putA _ _ _ _)) rfl ?_
 refine DD (vis rfl rfl (by omega)) rfl ?_
 refine vds (mone rfl) (vstn (cs' := c2 zR b rest) rfl rfl rfl rfl (putB _ _ _ _)) rfl ?_
 refine vdend rfl (KK2 (QM ?_))
 refine QA (vnil ?_)
 refine vret (V1 ((g1, blk (c2 zR b rest) 134) :: H) Tryz.func162 ?_)
 exact ⟨_, rfl, rfl, rfl⟩
theorem fx_stepF (g1 k1 g2 k2 : Nat) (r1 b : Rg) (rest : List Value) (m : Bd) (hr : r1.sm 1048576) (h1 : meetE zR (winR r1 spR) = (zR, 0)) (h2 : meetE r1 (winR zR spR) = (b, 0)) (h3 : gapE zR b = (m, 0)) (h4 : m.lo ≤ 2) (h5 : 0 ≤ m.hi) (hne : decide ([b.x.lo, b.x.hi, b.y.lo, b.y.hi, b.s.lo, b.s.hi, b.d.lo, b.d.hi] ≠ [r1.x.lo, r1.x.hi, r1.y.lo, r1.y.hi, r1.s.lo, r1.s.hi, r1.d.lo, r1.d.hi]) = false) (H : Heap) : VCall Tryz.prog 162 [.agg #[.slice (some ⟨g1, 0, Option.none⟩) 2 k1, .slice (some ⟨g2, 0, Option.none⟩) 1 k2], .iface 282 (.agg #[I 0, I 1, I 0, I 2])].toArray ((g1, blk (c2 zR r1 rest) 134) :: H) (fun o H' => ∃ v, o = .val v ∧ v = .bool false ∧ H' = (g1, blk (c2 zR b rest) 134) :: H) := by
 have hs : spR.sm 1048576 := by unfold Rg.sm Bd.sm; decide
 have hz : zR.sm 1048576 := by unfold zR Rg.sm Bd.sm; decide
 refine CV 74 Tryz.func162 ?_
 refine KK2 (BX fun b1 => ?_)
 refine QA (KK3 ?_)
 refine QM ?_
 refine QQ (vinvp rfl m_nodes rfl fx_nodes) rfl ?_
 refine QM ?_
 refine QX ?_
 refine QX ?_
 refine QA ?_
 refine QA (vnil (vseq ?_))
 refine vdraw [(.q, 0), (.q, 1), (.q, 2), (.q, 3), (.q, 4), (.q, 5), (.q, 6), (.q, 7), (.q, 8), (.q, 9), (.q, 10), (.q, 11), (.q, 12), (.q, 13), (.q, 14), (.a (blk [.int .i64 0, .int .i64 0, .int .i64 0, .int .i64 0, .int .i64 0, .int .i64 0, .int .i64 0, .int .i64 0] (134)), 15), (.s, 16)] Tryz.mixed (by kernel_rfl) ⟨⟨_, _, _, _, _, rfl, _, inferInstance, rfl⟩, True.intro⟩ ?_
 refine DF ?_
 refine DL ?_
 refine DM ?_
 refine DD (vis rfl rfl (by omega)) rfl ?_
 refine DD (vldn rfl (subA _ _ _)) rfl ?_
 refine DF ?_
 refine DL ?_
 refine DM ?_
 refine DD (vis rfl rfl (by omega)) rfl ?_
 refine DD (vldn rfl (subB _ _ _)) rfl ?_
 refine DM ?_
 refine DD (vinvp rfl m_span rfl fx_span) rfl ?_
 refine DD (vcp rfl rfl rfl (fx_back)) rfl ?_
 refine DD (vcp rfl rfl rfl (fx_window r1 spR hr hs)) rfl ?_
 refine DD (vcp rfl rfl rfl (fx_cut zR _ zR h1)) rfl ?_
 refine vda rfl rfl (fun b2 => ?_)
 refine vds (mone rfl) (vstn rfl rfl rfl rfl rfl) rfl ?_
 refine vdend rfl (vseq ?_)
 refine vdraw [(.q, 0), (.q, 1), (.q, 2), (.q, 3), (.q, 4), (.q, 5), (.q, 6), (.q, 7), (.q, 8), (.q, 9), (.a (blk [.int .i64 0, .int .i64 0, .int .i64 0, .int .i64 0, .int .i64 0, .int .i64 0, .int .i64 0, .int .i64 0] (134)), 10), (.s, 11)] Tryz.mixed (by kernel_rfl) ⟨⟨_, _, _, _, _, rfl, _, inferInstance, rfl⟩, True.intro⟩ ?_
 refine DF ?_
 refine DL ?_
 refine DM ?_
 refine DD (vis rfl rfl (by omega)) rfl ?_
 refine DD (vldn rfl (subB _ _ _)) rfl ?_
 refine DN ?_
 refine DM ?_
 refine DD (vinvp rfl m_span rfl fx_span) rfl ?_
 refine DD (vcp rfl rfl rfl (fx_window zR spR hz hs)) rfl ?_
 refine DD (vcp rfl rfl rfl (fx_cut r1 _ b h2)) rfl ?_
 refine vda rfl rfl (fun b3 => ?_)
 refine vds (mone rfl) (vstn rfl rfl rfl rfl rfl) rfl ?_
 refine vdend rfl (vseq (KK2 (QM ?_)))
 refine QN ?_
 refine QN ?_
 refine QQ (vcp rfl rfl rfl (fx_possible zR b m h3 h4 h5)) rfl ?_
 refine QQ (vnot rfl) rfl ?_
 refine vknow (d := 44) (b' := false) rfl rfl ?_
 refine vnil (vcondf rfl (vskip (vseq ?_)))
 refine DR [(.q, 0), (.q, 1), (.q, 2), (.q, 3), (.q, 4), (.q, 5), (.q, 6), (.q, 7), (.q, 8), (.q, 9), (.q, 10), (.q, 11), (.q, 12), (.q, 13), (.q, 14), (.q, 15), (.q, 16)] Tryz.mixed ?_
 refine DN ?_
 refine DF ?_
 refine DL ?_
 refine DM ?_
 refine DD (vis rfl rfl (by omega)) rfl ?_
 refine DD (vldn rfl (subA _ _ _)) rfl ?_
 refine DD (vnes rfl rfl rfl rfl rfl rfl) rfl ?_
 refine vdknow (d := 53) (b' := false) rfl (by decide) ?_
 refine DM ?_
 refine WN ?_
 refine WF ?_
 refine WL ?_
 refine WM ?_
 refine WW (vis rfl rfl (by omega)) rfl ?_
 refine WW (vldn rfl (subB _ _ _)) rfl ?_
 refine WW (vnes rfl rfl rfl rfl rfl rfl) rfl ?_
 refine vdknow (d := 61) (b' := false) rfl hne ?_
 refine DU ?_
 refine DA (vdend rfl (vseq ?_))
 refine vdrawP (G0 := [(g1, blk (c2 zR r1 rest) 134)]) (H0 := [(b3, blk (clR b) 134), (b2, blk (clR zR) 134), (b1, blk [.slice (some ⟨g1, 0, Option.none⟩) 2 k1, .slice (some ⟨g2, 0, Option.none⟩) 1 k2] 191)] ++ H) (perm_mid [(b3, blk (clR b) 134), (b2, blk (clR zR) 134), (b1, blk [.slice (some ⟨g1, 0, Option.none⟩) 2 k1, .slice (some ⟨g2, 0, Option.none⟩) 1 k2] 191)] [(g1, blk (c2 zR r1 rest) 134)] H) [(.q, 0), (.q, 1), (.q, 2), (.q, 3), (.q, 4), (.q, 5), (.q, 6), (.q, 7), (.q, 8), (.s, 9), (.q, 10), (.s, 11)] Tryz.mixed (by kernel_rfl) (allocOk_of _ (by kernel_rfl)) ?_
 refine DF ?_
 refine DL ?_
 refine DM ?_
 refine DF ?_
 refine DL ?_
 refine DM ?_
 refine DN ?_
 refine DN ?_
 refine DD (vis rfl rfl (by omega)) rfl ?_
 refine vds (mone rfl) (vstn (cs' := c2 zR r1 rest) rfl rfl rfl rfl (putA _ _ _ _)) rfl ?_
 refine DD (vis rfl rfl (by omega)) rfl ?_
 refine vds (mone rfl) (vstn (cs' := c2 zR b rest) rfl rfl rfl rfl (putB _ _ _ _)) rfl ?_
 refine vdend rfl (KK2 (QM ?_))
 refine QA (vnil ?_)
 refine vret (V1 ((g1, blk (c2 zR b rest) 134) :: H) Tryz.func162 ?_)
 exact ⟨_, rfl, rfl, rfl⟩
end Go.Proofs.YtoebpndlbldfcaaGreatDoor
namespace Go.Proofs.YtoebpndlbldfcaaGreatDoor
open Go
set_option maxRecDepth 100000
attribute [local irreducible] tightP hullP rootP farP rows endsOf meetE gapE winR
instance sl2 {a b : Rg} {rest : List Value} {g T : Nat} {H : Heap} : SlO ((g, blk (c2 a b rest) T) :: H) (some ⟨g, 0, Option.none⟩) 8 clR [a, b] :=
  SlO.blk (cs := c2 a b rest) (T := T) fun i x hx => ⟨rfl, fun j v hv => by
    unfold c2
    have hj := (List.getElem?_eq_some_iff.1 hv).1
    rcases i with _ | _ | i
    · cases hx
      rw [Nat.zero_mul, Nat.zero_add, List.getElem?_append_left hj]; exact hv
    · cases hx
      rw [List.getElem?_append_right (by simp [clR]), show (0 + 1) * 8 + j - (clR a).length = j by simp [clR], List.getElem?_append_left hj]; exact hv
    · simp at hx⟩
theorem fx_clone2 (a b : Rg) (oa : Option Addr) (c : Nat) (H : Heap) [hs : SlO H oa 8 clR [a, b]] : VCall Tryz.prog 122 [.slice oa 2 c].toArray H (fun o H' => ∃ v, o = .val v ∧ ∃ gb cap rest, v = .slice (some ⟨gb, 0, Option.none⟩) 2 cap ∧ H' = (gb, blk (c2 a b rest) 134) :: H) := by
  refine (d_CloneR [a, b] oa 2 c rfl (by decide) H).mono ?_
  rintro o H' ⟨v, h1, B, h2, oa', c', h3, h4⟩
  rcases h4 with ⟨_, hn, _⟩ | ⟨g, cap, cur, h5, h6, h7, h8, h9, h10⟩
  · cases hn
  · have e : cur = c2 a b (cur.drop 16) := by
      have := List.take_append_drop (2 * 8) cur
      rw [h10] at this
      unfold c2
      rw [← this]
      simp
    refine ⟨v, h1, g, cap, cur.drop 16, ?_, ?_⟩
    · rw [h3, h5]
    · rw [h2, h6, ← e]; rfl
theorem fx_Index0 (n : Int) (H : Heap) : VHas Tryz.prog 164 [.slice Option.none 0 0, I n] (I (-1)) H H := by
 refine CV 19 Tryz.func164 ?_
 refine KK2 (QA (vnil (vseq (KK2 ?_))))
 refine QM ?_
 refine QQ (vlen rfl) rfl ?_
 refine QM (vnil (vblock ?_))
 refine vloop1 ?_
 refine KK2 (QS (vnil (vseq ?_)))
 refine vcondf rfl ?_
 refine vexit (k' := _) rfl ?_
 refine KK2 (QA (vnil ?_))
 refine vret (V1 (H) Tryz.func164 ?_)
 exact ⟨rfl, rfl⟩
theorem fx_Contains0 (n : Int) (H : Heap) : VHas Tryz.prog 127 [.slice Option.none 0 0, I n] (.bool false) H H := by
 refine CV 9 Tryz.func127 ?_
 refine KK2 (QA (KK3 ?_))
 refine QM ?_
 refine QM ?_
 refine QQ (vcq rfl rfl rfl (fx_Index0 n _)) rfl ?_
 refine QQ (vgeq rfl rfl) rfl ?_
 refine QA (vnil ?_)
 refine vret (V1 (H) Tryz.func127 ?_)
 exact ⟨rfl, rfl⟩
theorem fx_used (n : Int) (bo : Nat) (H : Heap) [hat : HAt H bo [.slice Option.none 0 0] 22] : VHas Tryz.prog 126 [I n, ptr bo] (.bool true) H H := by
 refine CV 8 Tryz.func126 ?_
 refine KK2 (QA (KK3 ?_))
 refine QL ?_
 refine QM ?_
 refine QQ (vcq rfl rfl rfl (fx_Contains0 n _)) rfl ?_
 refine QQ (vnot rfl) rfl ?_
 refine QA (vnil ?_)
 refine vret (V1 (H) Tryz.func126 ?_)
 exact ⟨rfl, rfl⟩
theorem fx_note (bn : Nat) (H : Heap) : VCall Tryz.prog 128 [I 0, ptr bn].toArray ((bn, blk [.slice Option.none 0 0] 22) :: H) (fun o H' => ∃ v, o = .val v ∧ ∃ sa sc, v = .tuple #[] ∧ H' = (bn, blk [.slice sa 1 sc] 22) :: H) := by
 refine CV 7 Tryz.func128 ?_
 refine vregion (QL ?_)
 refine QM ?_
 refine vone rfl (vxg (vbs rfl rfl rfl rfl rfl rfl) rfl rfl ?_)
 rintro _ _ ⟨b1, rfl, rfl⟩
 refine vone rfl (vxg (vappF (F := fun C => C ++ ((b1, blk [I 0] 3) :: (bn, blk [.slice Option.none 0 0] 22) :: H)) (H0 := (b1, blk [I 0] 3) :: (bn, blk [.slice Option.none 0 0] 22) :: H) (B := []) (xs := []) (a := ⟨b1, 0, Option.none⟩) (m := 1) (c := 1) (news := [I 0]) (fun C => .refl _) rfl rfl OwnS.nil rfl (news_blk (b := b1) (List.Mem.head _)) (fun u hu => by simp at hu; subst hu; rfl) (by omega) (by simp only [maxLen]; omega) (by omega)) rfl rfl ?_)
 rintro sv _ ⟨B', hown, _, rfl⟩
 obtain ⟨oa2, c2, rfl, _⟩ := hown.shape
 refine SU (vnil ?_)
 refine vend (vr0 (H' := (bn, blk [.slice oa2 (0 + 1) c2] 22) :: H) Tryz.func128 rfl  sb2 ?_)
 exact ⟨_, rfl, _, _, rfl, rfl⟩
theorem fx_equalF (a b d : Rg) (h : decide ([b.x.lo, b.x.hi, b.y.lo, b.y.hi, b.s.lo, b.s.hi, b.d.lo, b.d.hi] ≠ [d.x.lo, d.x.hi, d.y.lo, d.y.hi, d.s.lo, d.s.hi, d.d.lo, d.d.hi]) = true) (o1 o2 : Option Addr) (c1 c2 : Nat) (H : Heap) [hs1 : SlO H o1 8 clR [a, b]] [hs2 : SlO H o2 8 clR [a, d]] : VHas Tryz.prog 163 [.slice o1 2 c1, .slice o2 2 c2] (.bool false) H H := by
 refine CV 26 Tryz.func163 ?_
 refine KK2 (QA (vnil (vseq (KK2 ?_))))
 refine QM ?_
 refine QQ (vlen rfl) rfl ?_
 refine QM ?_
 refine QQ (vlen rfl) rfl ?_
 refine QG (vnil ?_)
 refine vcondf rfl (vskip (vseq (KK2 (QM ?_))))
 refine QQ (vlen rfl) rfl ?_
 refine QM (vnil (vblock ?_))
 refine vloop1 ?_
 refine KK2 (QS (vnil (vseq ?_)))
 refine vcondt rfl (vskip (vseq (vblock (KK2 (QM ?_)))))
 refine QA (vnil (vseq ?_))
 refine DR [(.q, 0), (.q, 1), (.q, 2), (.q, 3), (.q, 4), (.q, 5), (.q, 6), (.q, 7), (.q, 8)] Tryz.mixed ?_
 refine DM ?_
 refine DM ?_
 refine DD (visg (enc := clR) (xs := [a, b]) (z := a) rfl rfl (by decide) rfl) rfl ?_
 refine DD (vldS (enc := clR) (xs := [a, b]) (z := a) rfl rfl) rfl ?_
 refine DM ?_
 refine DM ?_
 refine DD (visg (enc := clR) (xs := [a, d]) (z := a) rfl rfl (by decide) rfl) rfl ?_
 refine DD (vldS (enc := clR) (xs := [a, d]) (z := a) rfl rfl) rfl ?_
 refine DD (vnes rfl rfl rfl rfl rfl rfl) rfl ?_
 refine vdknow (d := 24) (b' := false) rfl (by simp) ?_
 refine vdend rfl (vcondf rfl (vskip (vinblock (vregion (QQ (vadd rfl rfl (by unfold InR; omega)) rfl ?_)))))
 refine QM (vnil ?_)
 refine vinloop1 ?_
 refine KK2 (QS (vnil (vseq ?_)))
 refine vcondt rfl (vskip (vseq (vblock (KK2 (QM ?_)))))
 refine QA (vnil (vseq ?_))
 refine DR [(.q, 0), (.q, 1), (.q, 2), (.q, 3), (.q, 4), (.q, 5), (.q, 6), (.q, 7), (.q, 8)] Tryz.mixed ?_
 refine DM ?_
 refine DM ?_
 refine DD (visg (enc := clR) (xs := [a, b]) (z := b) rfl rfl (by decide) rfl) rfl ?_
 refine DD (vldS (enc := clR) (xs := [a, b]) (z := b) rfl rfl) rfl ?_
 refine DM ?_
 refine DM ?_
 refine DD (visg (enc := clR) (xs := [a, d]) (z := d) rfl rfl (by decide) rfl) rfl ?_
 refine DD (vldS (enc := clR) (xs := [a, d]) (z := d) rfl rfl) rfl ?_
 refine DD (vnes rfl rfl rfl rfl rfl rfl) rfl ?_
 refine vdknow (d := 24) (b' := true) rfl h ?_
 refine vdend rfl (vcondt rfl (KK2 (QA (vnil ?_))))
 refine vret (V1 (H) Tryz.func163 ?_)
 exact ⟨rfl, rfl⟩
theorem fx_equalT (a b d : Rg)  (o1 o2 : Option Addr) (c1 c2 : Nat) (H : Heap) [hs1 : SlO H o1 8 clR [a, b]] [hs2 : SlO H o2 8 clR [a, b]] : VHas Tryz.prog 163 [.slice o1 2 c1, .slice o2 2 c2] (.bool true) H H := by
 refine CV 26 Tryz.func163 ?_
 refine KK2 (QA (vnil (vseq (KK2 ?_))))
 refine QM ?_
 refine QQ (vlen rfl) rfl ?_
 refine QM ?_
 refine QQ (vlen rfl) rfl ?_
 refine QG (vnil ?_)
 refine vcondf rfl (vskip (vseq (KK2 (QM ?_))))
 refine QQ (vlen rfl) rfl ?_
 refine QM (vnil (vblock ?_))
 refine vloop1 ?_
 refine KK2 (QS (vnil (vseq ?_)))
 refine vcondt rfl (vskip (vseq (vblock (KK2 (QM ?_)))))
 refine QA (vnil (vseq ?_))
 refine DR [(.q, 0), (.q, 1), (.q, 2), (.q, 3), (.q, 4), (.q, 5), (.q, 6), (.q, 7), (.q, 8)] Tryz.mixed ?_
 refine DM ?_
 refine DM ?_
 refine DD (visg (enc := clR) (xs := [a, b]) (z := a) rfl rfl (by decide) rfl) rfl ?_
 refine DD (vldS (enc := clR) (xs := [a, b]) (z := a) rfl rfl) rfl ?_
 refine DM ?_
 refine DM ?_
 refine DD (visg (enc := clR) (xs := [a, b]) (z := a) rfl rfl (by decide) rfl) rfl ?_
 refine DD (vldS (enc := clR) (xs := [a, b]) (z := a) rfl rfl) rfl ?_
 refine DD (vnes rfl rfl rfl rfl rfl rfl) rfl ?_
 refine vdknow (d := 24) (b' := false) rfl (by simp) ?_
 refine vdend rfl (vcondf rfl (vskip (vinblock (vregion (QQ (vadd rfl rfl (by unfold InR; omega)) rfl ?_)))))
 refine QM (vnil ?_)
 refine vinloop1 ?_
 refine KK2 (QS (vnil (vseq ?_)))
 refine vcondt rfl (vskip (vseq (vblock (KK2 (QM ?_)))))
 refine QA (vnil (vseq ?_))
 refine DR [(.q, 0), (.q, 1), (.q, 2), (.q, 3), (.q, 4), (.q, 5), (.q, 6), (.q, 7), (.q, 8)] Tryz.mixed ?_
 refine DM ?_
 refine DM ?_
 refine DD (visg (enc := clR) (xs := [a, b]) (z := b) rfl rfl (by decide) rfl) rfl ?_
 refine DD (vldS (enc := clR) (xs := [a, b]) (z := b) rfl rfl) rfl ?_
 refine DM ?_
 refine DM ?_
 refine DD (visg (enc := clR) (xs := [a, b]) (z := b) rfl rfl (by decide) rfl) rfl ?_
 refine DD (vldS (enc := clR) (xs := [a, b]) (z := b) rfl rfl) rfl ?_
 refine DD (vnes rfl rfl rfl rfl rfl rfl) rfl ?_
 refine vdknow (d := 24) (b' := false) rfl (by simp) ?_
 refine vdend rfl (vcondf rfl (vskip (vinblock (vregion (QQ (vadd rfl rfl (by unfold InR; omega)) rfl ?_)))))
 refine QM (vnil ?_)
 refine vinloop1 ?_
 refine KK2 (QS (vnil (vseq ?_)))
 refine vcondf rfl ?_
 refine vexit (k' := _) rfl ?_
 refine KK2 (QA (vnil ?_))
 refine vret (V1 (H) Tryz.func163 ?_)
 exact ⟨rfl, rfl⟩
theorem fx_roundT (g1 k1 g2 k2 b3 b8 b6 : Nat) (r1 b : Rg) (rest : List Value) (m : Bd) (hr : r1.sm 1048576) (h1 : meetE zR (winR r1 spR) = (zR, 0)) (h2 : meetE r1 (winR zR spR) = (b, 0)) (h3 : gapE zR b = (m, 0)) (h4 : m.lo ≤ 2) (h5 : 0 ≤ m.hi) (hne : decide ([b.x.lo, b.x.hi, b.y.lo, b.y.hi, b.s.lo, b.s.hi, b.d.lo, b.d.hi] ≠ [r1.x.lo, r1.x.hi, r1.y.lo, r1.y.hi, r1.s.lo, r1.s.hi, r1.d.lo, r1.d.hi]) = true) (H : Heap) [hat1 : HAt H b3 [.slice (some ⟨g1, 0, Option.none⟩) 2 k1, .slice (some ⟨g2, 0, Option.none⟩) 1 k2] 191] [hat2 : HAt H b8 [.iface 282 (.agg #[I 0, I 1, I 0, I 2])] 231] : VCall Tryz.prog 161 [ptr b3, ptr b8, ptr b6].toArray ((g1, blk (c2 zR r1 rest) 134) :: (b6, blk [.bool false] 4) :: H) (fun o H' => o = .val (.tuple #[]) ∧ H' = (g1, blk (c2 zR b rest) 134) :: (b6, blk [.bool true] 4) :: H) := by
 refine CV 6 Tryz.func161 ?_
 refine KK2 (QN ?_)
 refine QL ?_
 refine vone rfl (vxg (vcg rfl rfl rfl (fx_stepT g1 k1 g2 k2 r1 b rest m hr h1 h2 h3 h4 h5 hne _) (fun o H' h => h)) rfl rfl ?_)
 rintro _ _ ⟨rfl, rfl⟩
 refine vnil (vcondt rfl (vregion (SU (vnil ?_))))
 refine vend (vr0 (H' := (g1, blk (c2 zR b rest) 134) :: (b6, blk [.bool true] 4) :: H) Tryz.func161 rfl  sb2 ?_)
 exact ⟨rfl, rfl⟩
theorem fx_roundF (g1 k1 g2 k2 b3 b8 b6 : Nat) (r1 b : Rg) (rest : List Value) (m : Bd) (hr : r1.sm 1048576) (h1 : meetE zR (winR r1 spR) = (zR, 0)) (h2 : meetE r1 (winR zR spR) = (b, 0)) (h3 : gapE zR b = (m, 0)) (h4 : m.lo ≤ 2) (h5 : 0 ≤ m.hi) (hne : decide ([b.x.lo, b.x.hi, b.y.lo, b.y.hi, b.s.lo, b.s.hi, b.d.lo, b.d.hi] ≠ [r1.x.lo, r1.x.hi, r1.y.lo, r1.y.hi, r1.s.lo, r1.s.hi, r1.d.lo, r1.d.hi]) = false) (H : Heap) [hat1 : HAt H b3 [.slice (some ⟨g1, 0, Option.none⟩) 2 k1, .slice (some ⟨g2, 0, Option.none⟩) 1 k2] 191] [hat2 : HAt H b8 [.iface 282 (.agg #[I 0, I 1, I 0, I 2])] 231] : VCall Tryz.prog 161 [ptr b3, ptr b8, ptr b6].toArray ((g1, blk (c2 zR r1 rest) 134) :: (b6, blk [.bool false] 4) :: H) (fun o H' => o = .val (.tuple #[]) ∧ H' = (g1, blk (c2 zR b rest) 134) :: (b6, blk [.bool false] 4) :: H) := by
 refine CV 6 Tryz.func161 ?_
 refine KK2 (QN ?_)
 refine QL ?_
 refine vone rfl (vxg (vcg rfl rfl rfl (fx_stepF g1 k1 g2 k2 r1 b rest m hr h1 h2 h3 h4 h5 hne _) (fun o H' h => h)) rfl rfl ?_)
 rintro _ _ ⟨rfl, rfl⟩
 refine vnil (vcondf rfl (vskip ?_))
 refine vend (vr0 (H' := (g1, blk (c2 zR b rest) 134) :: (b6, blk [.bool false] 4) :: H) Tryz.func161 rfl  sb2 ?_)
 exact ⟨rfl, rfl⟩
end Go.Proofs.YtoebpndlbldfcaaGreatDoor
namespace Go.Proofs.YtoebpndlbldfcaaGreatDoor
open Go
set_option maxRecDepth 100000
attribute [local irreducible] tightP hullP rootP farP rows endsOf meetE gapE winR
section
open Classical in
theorem pmAA (X B Y G Z : Heap) : (X ++ (B ++ (Y ++ (G ++ Z)))).Perm (G ++ (B ++ (X ++ (Y ++ Z)))) := perm_of fun a => by simp only [List.count_append]; omega
end
theorem mt1 : meetE zR (winR r9 spR) = (zR, 0) := by kernel_rfl
theorem mt2 : meetE r9 (winR zR spR) = (rb, 0) := by kernel_rfl
theorem mt3 : meetE zR (winR rb spR) = (zR, 0) := by kernel_rfl
theorem mt4 : meetE rb (winR zR spR) = (rb, 0) := by kernel_rfl
theorem gp1 : gapE zR rb = (⟨0, 2⟩, 0) := by kernel_rfl
theorem sm9 : r9.sm 1048576 := by unfold Rg.sm Bd.sm; decide
theorem smb : rb.sm 1048576 := by unfold Rg.sm Bd.sm; decide
theorem fx_note_at (bn : Nat) (X H : Heap) : VCall Tryz.prog 128 [I 0, ptr bn].toArray (X ++ ((bn, blk [.slice Option.none 0 0] 22) :: H)) (fun o H' => ∃ v, o = .val v ∧ ∃ sa sc, v = .tuple #[] ∧ H' = X ++ ((bn, blk [.slice sa 1 sc] 22) :: H)) := by
  refine VCall.conv (VCall.perm List.perm_middle (fx_note bn (X ++ H))) ?_
  rintro o H' ⟨v, h1, sa, sc, h2, rfl⟩
  exact ⟨_, List.perm_middle.symm, v, h1, sa, sc, h2, rfl⟩
theorem fx_tryT (g1 k1 g2 k2 b3 b8 b6 : Nat) (r1 b : Rg) (rest : List Value) (m : Bd) (hr : r1.sm 1048576) (h1 : meetE zR (winR r1 spR) = (zR, 0)) (h2 : meetE r1 (winR zR spR) = (b, 0)) (h3 : gapE zR b = (m, 0)) (h4 : m.lo ≤ 2) (h5 : 0 ≤ m.hi) (hne : decide ([b.x.lo, b.x.hi, b.y.lo, b.y.hi, b.s.lo, b.s.hi, b.d.lo, b.d.hi] ≠ [r1.x.lo, r1.x.hi, r1.y.lo, r1.y.hi, r1.s.lo, r1.s.hi, r1.d.lo, r1.d.hi]) = true) (X Y Z : Heap) [hat1 : HAt (X ++ (Y ++ Z)) b3 [.slice (some ⟨g1, 0, Option.none⟩) 2 k1, .slice (some ⟨g2, 0, Option.none⟩) 1 k2] 191] [hat2 : HAt (X ++ (Y ++ Z)) b8 [.iface 282 (.agg #[I 0, I 1, I 0, I 2])] 231] :
    VCall Tryz.prog 123 [.func (.func 161) #[] [ptr b3, ptr b8, ptr b6].toArray].toArray (X ++ ((b6, blk [.bool false] 4) :: (Y ++ ((g1, blk (c2 zR r1 rest) 134) :: Z)))) (fun o H' => ∃ v, o = .val v ∧ v = .bool false ∧ H' = X ++ ((b6, blk [.bool true] 4) :: (Y ++ ((g1, blk (c2 zR b rest) 134) :: Z)))) := by
  refine VCall.conv (VCall.perm (pmAA X [(b6, blk [.bool false] 4)] Y [(g1, blk (c2 zR r1 rest) 134)] Z) (fx_failed (R := fun H' => H' = (g1, blk (c2 zR b rest) 134) :: (b6, blk [.bool true] 4) :: (X ++ (Y ++ Z))) _ (fx_roundT g1 k1 g2 k2 b3 b8 b6 r1 b rest m hr h1 h2 h3 h4 h5 hne (X ++ (Y ++ Z))))) ?_
  rintro o H' ⟨v, h1, h2, h3⟩
  exact ⟨_, h3 ▸ (pmAA X [(b6, blk [.bool true] 4)] Y [(g1, blk (c2 zR b rest) 134)] Z).symm, v, h1, h2, rfl⟩
theorem fx_tryF (g1 k1 g2 k2 b3 b8 b6 : Nat) (r1 b : Rg) (rest : List Value) (m : Bd) (hr : r1.sm 1048576) (h1 : meetE zR (winR r1 spR) = (zR, 0)) (h2 : meetE r1 (winR zR spR) = (b, 0)) (h3 : gapE zR b = (m, 0)) (h4 : m.lo ≤ 2) (h5 : 0 ≤ m.hi) (hne : decide ([b.x.lo, b.x.hi, b.y.lo, b.y.hi, b.s.lo, b.s.hi, b.d.lo, b.d.hi] ≠ [r1.x.lo, r1.x.hi, r1.y.lo, r1.y.hi, r1.s.lo, r1.s.hi, r1.d.lo, r1.d.hi]) = false) (X Y Z : Heap) [hat1 : HAt (X ++ (Y ++ Z)) b3 [.slice (some ⟨g1, 0, Option.none⟩) 2 k1, .slice (some ⟨g2, 0, Option.none⟩) 1 k2] 191] [hat2 : HAt (X ++ (Y ++ Z)) b8 [.iface 282 (.agg #[I 0, I 1, I 0, I 2])] 231] :
    VCall Tryz.prog 123 [.func (.func 161) #[] [ptr b3, ptr b8, ptr b6].toArray].toArray (X ++ ((b6, blk [.bool false] 4) :: (Y ++ ((g1, blk (c2 zR r1 rest) 134) :: Z)))) (fun o H' => ∃ v, o = .val v ∧ v = .bool false ∧ H' = X ++ ((b6, blk [.bool false] 4) :: (Y ++ ((g1, blk (c2 zR b rest) 134) :: Z)))) := by
  refine VCall.conv (VCall.perm (pmAA X [(b6, blk [.bool false] 4)] Y [(g1, blk (c2 zR r1 rest) 134)] Z) (fx_failed (R := fun H' => H' = (g1, blk (c2 zR b rest) 134) :: (b6, blk [.bool false] 4) :: (X ++ (Y ++ Z))) _ (fx_roundF g1 k1 g2 k2 b3 b8 b6 r1 b rest m hr h1 h2 h3 h4 h5 hne (X ++ (Y ++ Z))))) ?_
  rintro o H' ⟨v, h1, h2, h3⟩
  exact ⟨_, h3 ▸ (pmAA X [(b6, blk [.bool false] 4)] Y [(g1, blk (c2 zR b rest) 134)] Z).symm, v, h1, h2, rfl⟩
end Go.Proofs.YtoebpndlbldfcaaGreatDoor
namespace Go.Proofs.YtoebpndlbldfcaaGreatDoor
open Go
set_option maxRecDepth 100000
attribute [local irreducible] tightP hullP rootP farP rows endsOf meetE gapE winR
theorem fx_narrow (g1 k1 g2 k2 bo bn : Nat) (rest rest2 : List Value) (H : Heap) [hat1 : HAt H g2 (.iface 282 (.agg #[I 0, I 1, I 0, I 2]) :: rest2) 231] [hat2 : HAt H bo [.slice Option.none 0 0] 22] : VCall Tryz.prog 125 [.agg #[.slice (some ⟨g1, 0, Option.none⟩) 2 k1, .slice (some ⟨g2, 0, Option.none⟩) 1 k2], .func (.func 126) #[] #[ptr bo], .func (.func 128) #[] #[ptr bn]].toArray ((g1, blk (c2 zR r9 rest) 134) :: (bn, blk [.slice Option.none 0 0] 22) :: H) (fun o H' => ∃ v, o = .val v ∧ ∃ sa sc, v = .tuple #[] ∧ H' = (g1, blk (c2 zR rb rest) 134) :: (bn, blk [.slice sa 1 sc] 22) :: H) := by
 refine CV 43 Tryz.func125 ?_
 refine KK2 (BX fun b1 => (KK3 ?_))
 refine AL fun b2 => ?_
 refine SU (vnil (vblock ?_))
 refine vloop1 ?_
 refine vseq (KK2 (QL (vnil ?_)))
 refine vcondt rfl (vskip (vseq (vblock (KK2 (SU (KK3 ?_))))))
 refine QF ?_
 refine QL ?_
 refine QQ (vlen rfl) rfl ?_
 refine QM (vnil (vblock ?_))
 refine vloop1 ?_
 refine KK2 (QS (vnil (vseq ?_)))
 refine vcondt rfl (vskip (vseq (vblock (KK2 (QM ?_)))))
 refine QQ (vis rfl rfl (by decide)) rfl ?_
 refine QL ?_
 refine AL fun b3 => ?_
 refine QA ?_
 refine SU (vnil (vseq (KK2 ?_)))
 refine QM ?_
 refine QM ?_
 refine QQ (vcq rfl rfl rfl (fx_used 0 bo _)) rfl ?_
 refine QQ (vnot rfl) rfl ?_
 refine vknow (d := 22) (b' := false) rfl rfl ?_
 refine vnil (vcondf rfl (vskip (KK2 (QF ?_))))
 refine QL ?_
 refine vone rfl (vxg (vcg rfl rfl rfl (fx_clone2 zR r9 _ k1 _) (fun o H' h => h)) rfl rfl ?_)
 rintro _ _ ⟨gb0, kb0, rs0, rfl, rfl⟩
 refine QA (vnil (vseq (KK2 ?_)))
 refine QQ (vmf rfl) rfl ?_
 refine vone rfl (vxg (vcg (R := fun v H' => v = .bool false ∧ H' = (gb0, blk (c2 zR r9 rs0) 134) :: (b3, blk [.iface 282 (.agg #[I 0, I 1, I 0, I 2])] 231) :: (b2, blk [.bool true] 4) :: (b1, blk [.slice (some ⟨g1, 0, Option.none⟩) 2 k1, .slice (some ⟨g2, 0, Option.none⟩) 1 k2] 191) :: (g1, blk (c2 zR rb rest) 134) :: (bn, blk [.slice Option.none 0 0] 22) :: H) rfl rfl rfl (fx_tryT g1 k1 g2 k2 b1 b3 b2 r9 rb rest ⟨0, 2⟩ sm9 mt1 mt2 gp1 (by decide) (by decide) (by decide) [(gb0, blk (c2 zR r9 rs0) 134), (b3, blk [.iface 282 (.agg #[I 0, I 1, I 0, I 2])] 231)] [(b1, blk [.slice (some ⟨g1, 0, Option.none⟩) 2 k1, .slice (some ⟨g2, 0, Option.none⟩) 1 k2] 191)] ((bn, blk [.slice Option.none 0 0] 22) :: H)) (fun o H' h => h)) rfl rfl ?_)
 rintro _ _ ⟨rfl, rfl⟩
 refine vnil (vcondf rfl (vskip (KK2 (QM ?_))))
 refine QF ?_
 refine QL ?_
 refine QQ (vcq rfl rfl rfl (fx_equalF zR r9 rb (by decide) _ _ _ _ _)) rfl ?_
 refine QQ (vnot rfl) rfl ?_
 refine vknow (d := 37) (b' := true) rfl rfl ?_
 refine vnil (vcondt rfl (vregion (QM ?_)))
 refine QM ?_
 refine vone rfl (vxg (vcg (R := fun v H' => ∃ sa sc, v = .tuple #[] ∧ H' = (gb0, blk (c2 zR r9 rs0) 134) :: (b3, blk [.iface 282 (.agg #[I 0, I 1, I 0, I 2])] 231) :: (b2, blk [.bool true] 4) :: (b1, blk [.slice (some ⟨g1, 0, Option.none⟩) 2 k1, .slice (some ⟨g2, 0, Option.none⟩) 1 k2] 191) :: (g1, blk (c2 zR rb rest) 134) :: (bn, blk [.slice sa 1 sc] 22) :: H) rfl rfl rfl (fx_note_at bn [(gb0, blk (c2 zR r9 rs0) 134), (b3, blk [.iface 282 (.agg #[I 0, I 1, I 0, I 2])] 231), (b2, blk [.bool true] 4), (b1, blk [.slice (some ⟨g1, 0, Option.none⟩) 2 k1, .slice (some ⟨g2, 0, Option.none⟩) 1 k2] 191), (g1, blk (c2 zR rb rest) 134)] H) (fun o H' h => h)) rfl rfl ?_)
 rintro _ _ ⟨sa, sc, rfl, rfl⟩
 refine vnil (vinblock (vregion (QQ (vadd rfl rfl (by unfold InR; decide)) rfl ?_)))
 refine QM (vnil ?_)
 refine vinloop1 ?_
 refine KK2 (QS (vnil (vseq ?_)))
 refine vcondf rfl ?_
 refine vexit (k' := _) rfl ?_
 refine vinblock (KK2 (QL (vnil (vregion ?_))))
 refine AL fun b4 => ?_
 refine SU (vnil ?_)
 refine vinloop1 ?_
 refine vseq (KK2 (QL (vnil ?_)))
 refine vcondt rfl (vskip (vseq (vblock (KK2 (SU (KK3 ?_))))))
 refine QF ?_
 refine QL ?_
 refine QQ (vlen rfl) rfl ?_
 refine QM (vnil (vblock ?_))
 refine vloop1 ?_
 refine KK2 (QS (vnil (vseq ?_)))
 refine vcondt rfl (vskip (vseq (vblock (KK2 (QM ?_)))))
 refine QQ (vis rfl rfl (by decide)) rfl ?_
 refine QL ?_
 refine AL fun b5 => ?_
 refine QA ?_
 refine SU (vnil (vseq (KK2 ?_)))
 refine QM ?_
 refine QM ?_
 refine QQ (vcq rfl rfl rfl (fx_used 0 bo _)) rfl ?_
 refine QQ (vnot rfl) rfl ?_
 refine vknow (d := 22) (b' := false) rfl rfl ?_
 refine vnil (vcondf rfl (vskip (KK2 (QF ?_))))
 refine QL ?_
 refine vone rfl (vxg (vcg rfl rfl rfl (fx_clone2 zR rb _ k1 _) (fun o H' h => h)) rfl rfl ?_)
 rintro _ _ ⟨gb1, kb1, rs1, rfl, rfl⟩
 refine QA (vnil (vseq (KK2 ?_)))
 refine QQ (vmf rfl) rfl ?_
 refine vone rfl (vxg (vcg (R := fun v H' => v = .bool false ∧ H' = (gb1, blk (c2 zR rb rs1) 134) :: (b5, blk [.iface 282 (.agg #[I 0, I 1, I 0, I 2])] 231) :: (b4, blk [.bool false] 4) :: (gb0, blk (c2 zR r9 rs0) 134) :: (b3, blk [.iface 282 (.agg #[I 0, I 1, I 0, I 2])] 231) :: (b2, blk [.bool true] 4) :: (b1, blk [.slice (some ⟨g1, 0, Option.none⟩) 2 k1, .slice (some ⟨g2, 0, Option.none⟩) 1 k2] 191) :: (g1, blk (c2 zR rb rest) 134) :: (bn, blk [.slice sa 1 sc] 22) :: H) rfl rfl rfl (fx_tryF g1 k1 g2 k2 b1 b5 b4 rb rb rest ⟨0, 2⟩ smb mt3 mt4 gp1 (by decide) (by decide) (by decide) [(gb1, blk (c2 zR rb rs1) 134), (b5, blk [.iface 282 (.agg #[I 0, I 1, I 0, I 2])] 231)] [(gb0, blk (c2 zR r9 rs0) 134), (b3, blk [.iface 282 (.agg #[I 0, I 1, I 0, I 2])] 231), (b2, blk [.bool true] 4), (b1, blk [.slice (some ⟨g1, 0, Option.none⟩) 2 k1, .slice (some ⟨g2, 0, Option.none⟩) 1 k2] 191)] ((bn, blk [.slice sa 1 sc] 22) :: H)) (fun o H' h => h)) rfl rfl ?_)
 rintro _ _ ⟨rfl, rfl⟩
 refine vnil (vcondf rfl (vskip (KK2 (QM ?_))))
 refine QF ?_
 refine QL ?_
 refine QQ (vcq rfl rfl rfl (fx_equalT zR rb rb _ _ _ _ _)) rfl ?_
 refine QQ (vnot rfl) rfl ?_
 refine vknow (d := 37) (b' := false) rfl rfl ?_
 refine vnil (vcondf rfl (vskip (vinblock (vregion (QQ (vadd rfl rfl (by unfold InR; decide)) rfl ?_)))))
 refine QM (vnil ?_)
 refine vinloop1 ?_
 refine KK2 (QS (vnil (vseq ?_)))
 refine vcondf rfl ?_
 refine vexit (k' := _) rfl ?_
 refine vinblock (KK2 (QL (vnil (vregion ?_))))
 refine AL fun b6 => ?_
 refine SU (vnil ?_)
 refine vinloop1 ?_
 refine vseq (KK2 (QL (vnil ?_)))
 refine vcondf rfl ?_
 refine vexit (k' := _) rfl ?_
 refine vend (vr0 (H' := (g1, blk (c2 zR rb rest) 134) :: (bn, blk [.slice sa 1 sc] 22) :: H) Tryz.func125 rfl  sb2 ?_)
 exact ⟨_, rfl, _, _, rfl, rfl⟩
end Go.Proofs.YtoebpndlbldfcaaGreatDoor
namespace Go.Proofs.YtoebpndlbldfcaaGreatDoor
open Go
set_option maxRecDepth 100000
attribute [local irreducible] tightP hullP rootP farP rows endsOf meetE gapE winR
theorem fx_fixed1 (g1 k1 g2 k2 bx bo bn : Nat) (rest rest2 : List Value) (H : Heap) [hat0 : HAt H bx [.slice (some ⟨g1, 0, Option.none⟩) 2 k1, .slice (some ⟨g2, 0, Option.none⟩) 1 k2] 191] [hat1 : HAt H g2 (.iface 282 (.agg #[I 0, I 1, I 0, I 2]) :: rest2) 231] [hat2 : HAt H bo [.slice Option.none 0 0] 22] : VCall Tryz.prog 124 [ptr bx, ptr bo, ptr bn].toArray ((g1, blk (c2 zR r9 rest) 134) :: (bn, blk [.slice Option.none 0 0] 22) :: H) (fun o H' => o = .val (.tuple #[]) ∧ ∃ sa sc, H' = (g1, blk (c2 zR rb rest) 134) :: (bn, blk [.slice sa 1 sc] 22) :: H) := by
 refine CV 7 Tryz.func124 ?_
 refine vregion (QN ?_)
 refine QQ (vmf rfl) rfl ?_
 refine QQ (vmf rfl) rfl ?_
 refine vone rfl (vxg (vcg rfl rfl rfl (fx_narrow g1 k1 g2 k2 bo bn rest rest2 H) (fun o H' h => h)) rfl rfl ?_)
 rintro _ _ ⟨sa, sc, rfl, rfl⟩
 refine vnil ?_
 refine vend (vr0 (H' := (g1, blk (c2 zR rb rest) 134) :: (bn, blk [.slice sa 1 sc] 22) :: H) Tryz.func124 rfl  sb2 ?_)
 exact ⟨rfl, _, _, rfl⟩
theorem fx_fixed (oa : Option Addr) (ca g2 k2 : Nat) (rest2 : List Value) (H : Heap) [hs : SlO H oa 8 clR [zR, r9]] [hat1 : HAt H g2 (.iface 282 (.agg #[I 0, I 1, I 0, I 2]) :: rest2) 231] : VCall Tryz.prog 91 [.agg #[.slice oa 2 ca, .slice (some ⟨g2, 0, Option.none⟩) 1 k2], .slice Option.none 0 0].toArray H (fun o H' => ∃ v, o = .val v ∧ ∃ gb kb rs sa sc, v = tup [.slice (some ⟨gb, 0, Option.none⟩) 2 kb, .slice sa 1 sc, .bool true] ∧ H' = (gb, blk (c2 zR rb rs) 134) :: H) := by
 refine CV 19 Tryz.func91 ?_
 refine KK2 (BX fun b1 => ?_)
 refine BX fun b2 => ?_
 refine QA ?_
 refine AL fun b3 => ?_
 refine QA (KK3 ?_)
 refine QF ?_
 refine QL ?_
 refine vone rfl (vxg (vcg rfl rfl rfl (fx_clone2 zR r9 oa ca _) (fun o H' h => h)) rfl rfl ?_)
 rintro _ _ ⟨gb, kb, rs, rfl, rfl⟩
 refine QF ?_
 refine SU (KK3 ?_)
 refine QQ (vmf rfl) rfl ?_
 refine vone rfl (vxg (vcg rfl rfl rfl (fx_failed (R := fun H' => ∃ sa sc, H' = (gb, blk (c2 zR rb rs) 134) :: (b3, blk [.slice sa 1 sc] 22) :: (b2, blk [.slice Option.none 0 0] 22) :: (b1, blk [.slice (some ⟨gb, 0, Option.none⟩) 2 kb, .slice (some ⟨g2, 0, Option.none⟩) 1 k2] 191) :: H) _ (fx_fixed1 gb kb g2 k2 b1 b2 b3 rs rest2 ((b2, blk [.slice Option.none 0 0] 22) :: (b1, blk [.slice (some ⟨gb, 0, Option.none⟩) 2 kb, .slice (some ⟨g2, 0, Option.none⟩) 1 k2] 191) :: H))) (fun o H' h => h)) rfl rfl ?_)
 rintro _ _ ⟨rfl, sa, sc, rfl⟩
 refine QA (vnil (vseq ?_))
 refine DR [(.q, 0), (.q, 1), (.q, 2), (.q, 3), (.q, 4), (.q, 5), (.q, 6), (.q, 7)] Tryz.mixed ?_
 refine DF ?_
 refine DL ?_
 refine DL ?_
 refine DM ?_
 refine DD (vnot rfl) rfl ?_
 refine DA ?_
 refine vdqn (mone rfl) (vst1s rfl rfl rfl rfl) rfl ?_
 refine DA (vdend rfl ?_)
 refine vret (vr3 (H' := (gb, blk (c2 zR rb rs) 134) :: H) Tryz.func91 rfl (.tmp rfl) (.cell1 rfl rfl) (.tmp rfl) sb2 ?_)
 exact ⟨_, rfl, gb, kb, rs, sa, sc, rfl, rfl⟩
end Go.Proofs.YtoebpndlbldfcaaGreatDoor
namespace Go.Proofs.YtoebpndlbldfcaaGreatDoor
open Go
set_option maxRecDepth 100000
attribute [local irreducible] tightP hullP rootP farP rows endsOf meetE gapE winR
def encOb (_ : Unit) : List Value := [I 1, I 0, I 1, I 0, I 2, I 0, I 0, I 0, I 0, I 0, I 0, I 0, I 0, I 0]
instance tApSd : TAp Tryz.prog 189 231 1 16 := mkTAp (z := .nilIface) (by kernel_rfl) (by kernel_rfl) rfl
theorem fx_tightA : VPure Tryz.prog 119 [vR zR] (tup [vR zR, I 0]) := by
  have := c_Tight ⟨⟨0, 0⟩, ⟨0, 0⟩, ⟨0, 0⟩, ⟨0, 0⟩⟩
  rw [show tightE ⟨⟨0, 0⟩, ⟨0, 0⟩, ⟨0, 0⟩, ⟨0, 0⟩⟩ = (zR, 0) by kernel_rfl] at this; exact this
theorem fx_tightB : VPure Tryz.prog 119 [vR r9] (tup [vR r9, I 0]) := by
  have := c_Tight ⟨⟨0, 9⟩, ⟨0, 9⟩, ⟨0, 18⟩, ⟨-9, 9⟩⟩
  rw [show tightE ⟨⟨0, 9⟩, ⟨0, 9⟩, ⟨0, 18⟩, ⟨-9, 9⟩⟩ = (r9, 0) by kernel_rfl] at this; exact this
theorem OG.mono {P : Program} {N : Nat} {E : Env} {D : List Deferred} {H : Heap} {o : Oper} {R R' : Value → Heap → Prop} (h : OG P N E D H o R) (hr : ∀ v H', R v H' → R' v H') : OG P N E D H o R' :=
  ⟨h.nodef, fun t w hA hE => let ⟨n, w1, e, hn⟩ := h.go t w hA hE; ⟨n, w1, e, hn.mono fun v w2 ⟨H', hF, hR⟩ => ⟨H', hF, hr v H' hR⟩⟩⟩
theorem own_cons {e size n : Nat} {u : Value} {xs : List Value} {B : Heap} (h : OwnS e size u (n + 1) xs B) : ∃ g cap cur, u = .slice (some ⟨g, 0, Option.none⟩) (n + 1) cap ∧ B = [(g, blk cur e)] ∧ OwnS e size (.slice (some ⟨g, 0, Option.none⟩) (n + 1) cap) (n + 1) xs [(g, blk cur e)] := by
  rcases h with ⟨_, hn, _⟩ | ⟨g, cap, cur, h1, h2, h3, h4, h5, h6⟩
  · omega
  · exact ⟨g, cap, cur, h1, h2, .inr ⟨g, cap, cur, rfl, rfl, h3, h4, h5, h6⟩⟩
theorem own_c2 {e n g cap : Nat} {cur : List Value} {u : Value} {a b : Rg} (h : OwnS e 8 u n (clR a ++ clR b) [(g, blk cur e)]) (hn : n = 2) : cur = c2 a b (cur.drop 16) := by
  subst hn
  rcases h with ⟨_, h, _⟩ | ⟨g', cap', cur', h1, h2, h3, h4, h5, h6⟩
  · cases h
  · simp only [List.cons.injEq, Prod.mk.injEq, and_true] at h2
    obtain ⟨rfl, h2⟩ := h2
    have : cur = cur' := by
      have := congrArg (fun o : Obj => match o with | .cells c _ _ => c.toList | _ => []) h2
      simpa [blk] using this
    subst this
    have ht := List.take_append_drop (2 * 8) cur
    rw [h6] at ht
    unfold c2
    rw [← List.append_assoc]
    exact ht.symm
theorem own_1 {e g : Nat} {cur : List Value} {u x : Value} (h : OwnS e 1 u 1 [x] [(g, blk cur e)]) : ∃ r, cur = x :: r := by
  rcases h with ⟨_, h, _⟩ | ⟨g', cap', cur', h1, h2, h3, h4, h5, h6⟩
  · cases h
  · simp only [List.cons.injEq, Prod.mk.injEq, and_true] at h2
    obtain ⟨rfl, h2⟩ := h2
    have : cur = cur' := by
      have := congrArg (fun o : Obj => match o with | .cells c _ _ => c.toList | _ => []) h2
      simpa [blk] using this
    subst this
    cases cur with
    | nil => simp at h6
    | cons y r => simp at h6; exact ⟨r, by rw [h6]⟩
theorem fx_netOf (oa ob : Option Addr) (ca cb : Nat) (H : Heap) [hs1 : SlO H oa 8 clR [zR, r9]] [hs2 : SlO H ob 14 encOb [()]] : VCall Tryz.prog 90 [.agg #[.slice oa 2 ca, .slice ob 1 cb]].toArray H (fun o H' => ∃ v, o = .val v ∧ ∃ gb kb rs gc kc rc, v = tup [.agg #[.slice (some ⟨gb, 0, Option.none⟩) 2 kb, .slice (some ⟨gc, 0, Option.none⟩) 1 kc], I 0] ∧ H' = (gc, blk (.iface 282 (.agg #[I 0, I 1, I 0, I 2]) :: rc) 231) :: (gb, blk (c2 zR r9 rs) 134) :: H) := by
 refine CV 83 Tryz.func90 ?_
 refine KK2 (BX fun b1 => ?_)
 refine AL fun b2 => ?_
 refine QA (vnil (vseq (KK2 ?_)))
 refine QF ?_
 refine QL ?_
 refine QQ (vlen rfl) rfl ?_
 refine QQ (vcp rfl rfl rfl (c_fwithin _ _ _)) rfl ?_
 refine vknow (d := 16) (b' := true) rfl (by decide) ?_
 refine QQ (vnot rfl) rfl ?_
 refine QM ?_
 refine YF ?_
 refine YL ?_
 refine YY (vlen rfl) rfl ?_
 refine YY (vgtr rfl rfl) rfl ?_
 refine QU (vnil ?_)
 refine vcondf rfl (vskip (KK2 (AL fun b3 => (vnil (vseq (KK2 ?_))))))
 refine QF ?_
 refine QL ?_
 refine QQ (vlen rfl) rfl ?_
 refine QM (vnil (vblock ?_))
 refine vloop1 ?_
 refine KK2 (QS (vnil (vseq ?_)))
 refine vcondt rfl (vskip (vseq (vblock (KK2 (QQ (visg (enc := clR) (xs := [zR, r9]) (z := zR) rfl rfl (by decide) rfl) rfl ?_)))))
 refine QQ (vldS (enc := clR) (xs := [zR, r9]) (z := zR) rfl rfl) rfl ?_
 refine AL fun b4 => ?_
 refine SN (KK3 ?_)
 refine QN ?_
 refine QQ (vcp rfl rfl rfl fx_tightA) rfl ?_
 refine QM ?_
 refine QX ?_
 refine QX ?_
 refine AL fun b5 => ?_
 refine SN ?_
 refine QA (vnil (vseq (KK2 ?_)))
 refine QM ?_
 refine QG ?_
 refine vknow (d := 38) (b' := false) rfl rfl ?_
 refine QM ?_
 refine YF ?_
 refine YN ?_
 refine YY (vcp rfl rfl rfl (c_wide 0 0 (by unfold InR; decide))) rfl ?_
 refine vknow (d := 42) (b' := false) rfl (by decide) ?_
 refine QU ?_
 refine QM ?_
 refine YF ?_
 refine YN ?_
 refine YY (vcp rfl rfl rfl (c_wide 0 0 (by unfold InR; decide))) rfl ?_
 refine vknow (d := 47) (b' := false) rfl (by decide) ?_
 refine QU (vnil ?_)
 refine vcondf rfl (vskip (vregion (QF ?_)))
 refine QL ?_
 refine QN ?_
 refine vone rfl (vxg (vbs rfl rfl rfl rfl rfl rfl) rfl rfl ?_)
 rintro _ _ ⟨b6, rfl, rfl⟩
 refine vone rfl (vxg ((vappF (F := fun C => C ++ ((b6, blk (clR zR) 134) :: (b5, blk (clR zR) 134) :: (b4, blk (clR zR) 134) :: (b3, blk [.slice Option.none 0 0, .slice Option.none 0 0] 191) :: (b2, blk [.slice Option.none 0 0, .slice Option.none 0 0] 191) :: (b1, blk [.slice oa 2 ca, .slice ob 1 cb] 148) :: H)) (H0 := (b6, blk (clR zR) 134) :: (b5, blk (clR zR) 134) :: (b4, blk (clR zR) 134) :: (b3, blk [.slice Option.none 0 0, .slice Option.none 0 0] 191) :: (b2, blk [.slice Option.none 0 0, .slice Option.none 0 0] 191) :: (b1, blk [.slice oa 2 ca, .slice ob 1 cb] 148) :: H) (B := []) (xs := []) (a := ⟨b6, 0, Option.none⟩) (m := 1) (c := 1) (news := clR zR) (fun C => .refl _) rfl rfl OwnS.nil rfl (news_blk (b := b6) (List.Mem.head _)) (fun u hu => by simp at hu; rcases hu with rfl | rfl | rfl | rfl | rfl | rfl | rfl | rfl <;> rfl) (by omega) (by simp only [maxLen]; omega) (by omega)).mono (R' := fun u H' => ∃ ga ka cura, u = .slice (some ⟨ga, 0, Option.none⟩) (0 + 1) ka ∧ OwnS 134 8 (.slice (some ⟨ga, 0, Option.none⟩) (0 + 1) ka) (0 + 1) (clR zR) [(ga, blk cura 134)] ∧ H' = (ga, blk cura 134) :: (b6, blk (clR zR) 134) :: (b5, blk (clR zR) 134) :: (b4, blk (clR zR) 134) :: (b3, blk [.slice Option.none 0 0, .slice Option.none 0 0] 191) :: (b2, blk [.slice Option.none 0 0, .slice Option.none 0 0] 191) :: (b1, blk [.slice oa 2 ca, .slice ob 1 cb] 148) :: H) (fun u H' ⟨B', h1, _, h3⟩ => by obtain ⟨g, cap, cur, e1, e2, e3⟩ := own_cons h1; subst e1; subst e2; exact ⟨g, cap, cur, rfl, e3, h3⟩)) rfl rfl ?_)
 rintro _ _ ⟨ga, ka, cura, rfl, howa, rfl⟩
 refine QF ?_
 refine SU (vnil (vinblock (vregion ?_)))
 refine QQ (vadd rfl rfl (by unfold InR; decide)) rfl ?_
 refine QM (vnil ?_)
 refine vinloop1 ?_
 refine KK2 (QS (vnil (vseq ?_)))
 refine vcondt rfl (vskip (vseq (vblock (KK2 (QQ (visg (enc := clR) (xs := [zR, r9]) (z := r9) rfl rfl (by decide) rfl) rfl ?_)))))
 refine QQ (vldS (enc := clR) (xs := [zR, r9]) (z := r9) rfl rfl) rfl ?_
 refine AL fun b7 => ?_
 refine SN (KK3 ?_)
 refine QN ?_
 refine QQ (vcp rfl rfl rfl fx_tightB) rfl ?_
 refine QM ?_
 refine QX ?_
 refine QX ?_
 refine AL fun b8 => ?_
 refine SN ?_
 refine QA (vnil (vseq (KK2 ?_)))
 refine QM ?_
 refine QG ?_
 refine vknow (d := 38) (b' := false) rfl rfl ?_
 refine QM ?_
 refine YF ?_
 refine YN ?_
 refine YY (vcp rfl rfl rfl (c_wide 0 9 (by unfold InR; decide))) rfl ?_
 refine vknow (d := 42) (b' := false) rfl (by decide) ?_
 refine QU ?_
 refine QM ?_
 refine YF ?_
 refine YN ?_
 refine YY (vcp rfl rfl rfl (c_wide 0 9 (by unfold InR; decide))) rfl ?_
 refine vknow (d := 47) (b' := false) rfl (by decide) ?_
 refine QU (vnil ?_)
 refine vcondf rfl (vskip (vregion (QF ?_)))
 refine QL ?_
 refine QN ?_
 refine vone rfl (vxg (vbs rfl rfl rfl rfl rfl rfl) rfl rfl ?_)
 rintro _ _ ⟨b9, rfl, rfl⟩
 refine vone rfl (vxg ((vappF (F := fun C => [(b9, blk (clR r9) 134), (b8, blk (clR r9) 134), (b7, blk (clR r9) 134)] ++ (C ++ ((b6, blk (clR zR) 134) :: (b5, blk (clR zR) 134) :: (b4, blk (clR zR) 134) :: (b3, blk [.slice (some ⟨ga, 0, Option.none⟩) (0 + 1) ka, .slice Option.none 0 0] 191) :: (b2, blk [.slice Option.none 0 0, .slice Option.none 0 0] 191) :: (b1, blk [.slice oa 2 ca, .slice ob 1 cb] 148) :: H))) (H0 := [(b9, blk (clR r9) 134), (b8, blk (clR r9) 134), (b7, blk (clR r9) 134)] ++ ((b6, blk (clR zR) 134) :: (b5, blk (clR zR) 134) :: (b4, blk (clR zR) 134) :: (b3, blk [.slice (some ⟨ga, 0, Option.none⟩) (0 + 1) ka, .slice Option.none 0 0] 191) :: (b2, blk [.slice Option.none 0 0, .slice Option.none 0 0] 191) :: (b1, blk [.slice oa 2 ca, .slice ob 1 cb] 148) :: H)) (B := [(ga, blk cura 134)]) (xs := clR zR) (a := ⟨b9, 0, Option.none⟩) (m := 1) (c := 1) (news := clR r9) (fun C => perm_mid [(b9, blk (clR r9) 134), (b8, blk (clR r9) 134), (b7, blk (clR r9) 134)] C ((b6, blk (clR zR) 134) :: (b5, blk (clR zR) 134) :: (b4, blk (clR zR) 134) :: (b3, blk [.slice (some ⟨ga, 0, Option.none⟩) (0 + 1) ka, .slice Option.none 0 0] 191) :: (b2, blk [.slice Option.none 0 0, .slice Option.none 0 0] 191) :: (b1, blk [.slice oa 2 ca, .slice ob 1 cb] 148) :: H)) rfl rfl howa rfl (news_blk (b := b9) (List.Mem.head _)) (fun u hu => by simp at hu; rcases hu with rfl | rfl | rfl | rfl | rfl | rfl | rfl | rfl <;> rfl) (by omega) (by simp only [maxLen]; omega) (by omega)).mono (R' := fun u H' => ∃ gb kb rs, u = .slice (some ⟨gb, 0, Option.none⟩) (0 + 1 + 1) kb ∧ H' = (b9, blk (clR r9) 134) :: (b8, blk (clR r9) 134) :: (b7, blk (clR r9) 134) :: (gb, blk (c2 zR r9 rs) 134) :: (b6, blk (clR zR) 134) :: (b5, blk (clR zR) 134) :: (b4, blk (clR zR) 134) :: (b3, blk [.slice (some ⟨ga, 0, Option.none⟩) (0 + 1) ka, .slice Option.none 0 0] 191) :: (b2, blk [.slice Option.none 0 0, .slice Option.none 0 0] 191) :: (b1, blk [.slice oa 2 ca, .slice ob 1 cb] 148) :: H) (fun u H' ⟨B', h1, _, h3⟩ => by obtain ⟨g, cap, cur, e1, e2, e3⟩ := own_cons h1; subst e1; subst e2; have e4 := own_c2 (cap := cap) e3 rfl; exact ⟨g, cap, cur.drop 16, rfl, by rw [h3, ← e4]; rfl⟩)) rfl rfl ?_)
 rintro _ _ ⟨gb, kb, rs, rfl, rfl⟩
 refine QF ?_
 refine SU (vnil (vinblock (vregion ?_)))
 refine QQ (vadd rfl rfl (by unfold InR; decide)) rfl ?_
 refine QM (vnil ?_)
 refine vinloop1 ?_
 refine KK2 (QS (vnil (vseq ?_)))
 refine vcondf rfl ?_
 refine vexit (k' := _) rfl ?_
 refine vseq (KK2 (QF ?_))
 refine QL ?_
 refine QQ (vlen rfl) rfl ?_
 refine QM (vnil (vblock ?_))
 refine vloop1 ?_
 refine KK2 (QS (vnil (vseq ?_)))
 refine vcondt rfl (vskip (vseq (vblock (KK2 (QQ (visg (enc := encOb) (xs := [()]) (z := ()) rfl rfl (by decide) rfl) rfl ?_)))))
 refine QQ (vldS (enc := encOb) (xs := [()]) (z := ()) rfl rfl) rfl ?_
 refine AL fun b10 => ?_
 refine SN (KK3 ?_)
 refine QN ?_
 refine QF ?_
 refine QL ?_
 refine QQ (vlen rfl) rfl ?_
 refine QQ (vcp rfl rfl rfl fx_read) rfl ?_
 refine QM ?_
 refine QX ?_
 refine QX ?_
 refine QA ?_
 refine QA (vnil (vseq (KK2 ?_)))
 refine QM ?_
 refine QQ (vnot rfl) rfl (vnil ?_)
 refine vcondf rfl (vskip (vregion (QF ?_)))
 refine QL ?_
 refine QM ?_
 refine vone rfl (vxg (vbs rfl rfl rfl rfl rfl rfl) rfl rfl ?_)
 rintro _ _ ⟨b11, rfl, rfl⟩
 refine vone rfl (vxg ((vappF (F := fun C => C ++ ((b11, blk [.iface 282 (.agg #[I 0, I 1, I 0, I 2])] 231) :: (b10, blk (encOb ()) 145) :: (b9, blk (clR r9) 134) :: (b8, blk (clR r9) 134) :: (b7, blk (clR r9) 134) :: (gb, blk (c2 zR r9 rs) 134) :: (b6, blk (clR zR) 134) :: (b5, blk (clR zR) 134) :: (b4, blk (clR zR) 134) :: (b3, blk [.slice (some ⟨gb, 0, Option.none⟩) (0 + 1 + 1) kb, .slice Option.none 0 0] 191) :: (b2, blk [.slice Option.none 0 0, .slice Option.none 0 0] 191) :: (b1, blk [.slice oa 2 ca, .slice ob 1 cb] 148) :: H)) (H0 := (b11, blk [.iface 282 (.agg #[I 0, I 1, I 0, I 2])] 231) :: (b10, blk (encOb ()) 145) :: (b9, blk (clR r9) 134) :: (b8, blk (clR r9) 134) :: (b7, blk (clR r9) 134) :: (gb, blk (c2 zR r9 rs) 134) :: (b6, blk (clR zR) 134) :: (b5, blk (clR zR) 134) :: (b4, blk (clR zR) 134) :: (b3, blk [.slice (some ⟨gb, 0, Option.none⟩) (0 + 1 + 1) kb, .slice Option.none 0 0] 191) :: (b2, blk [.slice Option.none 0 0, .slice Option.none 0 0] 191) :: (b1, blk [.slice oa 2 ca, .slice ob 1 cb] 148) :: H) (B := []) (xs := []) (a := ⟨b11, 0, Option.none⟩) (m := 1) (c := 1) (news := [.iface 282 (.agg #[I 0, I 1, I 0, I 2])]) (fun C => .refl _) rfl rfl OwnS.nil rfl (news_blk (b := b11) (List.Mem.head _)) (fun u hu => by simp at hu; subst hu; rfl) (by omega) (by simp only [maxLen]; omega) (by omega)).mono (R' := fun u H' => ∃ gc kc rc, u = .slice (some ⟨gc, 0, Option.none⟩) (0 + 1) kc ∧ H' = (gc, blk (.iface 282 (.agg #[I 0, I 1, I 0, I 2]) :: rc) 231) :: (b11, blk [.iface 282 (.agg #[I 0, I 1, I 0, I 2])] 231) :: (b10, blk (encOb ()) 145) :: (b9, blk (clR r9) 134) :: (b8, blk (clR r9) 134) :: (b7, blk (clR r9) 134) :: (gb, blk (c2 zR r9 rs) 134) :: (b6, blk (clR zR) 134) :: (b5, blk (clR zR) 134) :: (b4, blk (clR zR) 134) :: (b3, blk [.slice (some ⟨gb, 0, Option.none⟩) (0 + 1 + 1) kb, .slice Option.none 0 0] 191) :: (b2, blk [.slice Option.none 0 0, .slice Option.none 0 0] 191) :: (b1, blk [.slice oa 2 ca, .slice ob 1 cb] 148) :: H) (fun u H' ⟨B', h1, _, h3⟩ => by obtain ⟨g, cap, cur, e1, e2, e3⟩ := own_cons h1; subst e1; subst e2; obtain ⟨r, e4⟩ := own_1 e3; exact ⟨g, cap, r, rfl, by rw [h3, e4]; rfl⟩)) rfl rfl ?_)
 rintro _ _ ⟨gc, kc, rc, rfl, rfl⟩
 refine QF ?_
 refine SU (vnil (vinblock (vregion ?_)))
 refine QQ (vadd rfl rfl (by unfold InR; decide)) rfl ?_
 refine QM (vnil ?_)
 refine vinloop1 ?_
 refine KK2 (QS (vnil (vseq ?_)))
 refine vcondf rfl ?_
 refine vexit (k' := _) rfl ?_
 refine KK2 (QN ?_)
 refine SN ?_
 refine QA (vnil ?_)
 refine vret (vr2 (H' := (gc, blk (.iface 282 (.agg #[I 0, I 1, I 0, I 2]) :: rc) 231) :: (gb, blk (c2 zR r9 rs) 134) :: H) Tryz.func90 rfl (.celln rfl rfl) (.tmp rfl) sb2 ?_)
 exact ⟨_, rfl, gb, kb, rs, gc, kc, rc, rfl, rfl⟩
end Go.Proofs.YtoebpndlbldfcaaGreatDoor
namespace Go.Proofs.YtoebpndlbldfcaaGreatDoor
open Go
set_option maxRecDepth 100000
def c0L : Pt × Pt := (⟨0, 0⟩, ⟨10, 0⟩)
def c0D : List Bd := [⟨7, 100⟩]
def c0 : Cz := ⟨[c0L], [], [], zR, ⟨⟨0, 0⟩, 0⟩, 2, 3, [c0D]⟩
theorem c0_tight : (tightE c0.spread).2 = 0 := by kernel_rfl
theorem c0_swept : (sweptE c0.spread ⟨0, 0⟩ ⟨10, 0⟩).2 = 0 := by kernel_rfl
theorem c0_swept' : (sweptE c0.spread ⟨10, 0⟩ ⟨0, 0⟩).2 = 0 := by kernel_rfl
theorem c0_clear : clearB c0 ⟨0, 0⟩ ⟨10, 0⟩ = true := by unfold clearB; rw [decide_eq_true c0_swept]; rfl
theorem c0_clear' : clearB c0 ⟨10, 0⟩ ⟨0, 0⟩ = true := by unfold clearB; rw [decide_eq_true c0_swept']; rfl
theorem c0_steps : stepsC c0 ⟨0, 0⟩ ⟨10, 0⟩ = 5 := by kernel_rfl
theorem c0_steps' : stepsC c0 ⟨10, 0⟩ ⟨0, 0⟩ = 5 := by kernel_rfl
theorem c0_cost0 : costV c0 c0.start (fromV (wayV c0L 0)) = 0 := by kernel_rfl
theorem c0_pass1 : passP c0 c0.start (fromV (wayV c0L 1)) = [([⟨0, 0⟩, ⟨10, 0⟩], 14)] := by
  have h1 : triedP c0 c0.start (fromV (wayV c0L 1)) = [[⟨0, 0⟩, ⟨10, 0⟩]] := by kernel_rfl
  unfold passP
  rw [h1]
  have h2 : costP c0 [⟨0, 0⟩, ⟨10, 0⟩] c0.start.oc (fromV (wayV c0L 1)).oc = some 14 := by
    show costL c0 (fromV (wayV c0L 1)).oc ⟨0, 0⟩ [⟨10, 0⟩] 0 0 = some 14
    simp only [costL]
    rw [if_neg (by rw [c0_clear]; decide), c0_steps]
    kernel_rfl
  simp only [List.filterMap_cons, List.filterMap_nil, h2, Option.map_some]
theorem c0_cost1 : costV c0 c0.start (fromV (wayV c0L 1)) = 14 := by
  unfold costV bestP
  rw [if_pos (by unfold okPs Pt.ok c0; decide), c0_pass1]; rfl
theorem c0_go0 : goV c0 (c0.start, 0) (wayV c0L 0) c0D = some (7, 12) := by
  unfold goV
  rw [c0_cost0, if_neg (by decide)]
  show shotV c0 (⟨0, 0⟩, ⟨10, 0⟩) c0D 0 = _
  unfold shotV
  rw [c0_clear, if_neg (by decide), c0_steps]; rfl
theorem c0_go1 : goV c0 (c0.start, 0) (wayV c0L 1) c0D = some (14, 19) := by
  unfold goV
  rw [c0_cost1, if_neg (by decide)]
  show shotV c0 (⟨10, 0⟩, ⟨0, 0⟩) c0D 14 = _
  unfold shotV
  rw [c0_clear', if_neg (by decide), c0_steps']; rfl
theorem c0_tab1 : tabE c0 c0L c0D 1 = 19 := by
  apply tab_s; unfold earE; simp only [List.flatMap_cons, List.flatMap_nil, List.append_nil]; rw [goL_s c0_go1]; rfl
theorem c0_ok : okCz c0 := by
  refine ⟨by decide, by decide, by decide, by decide, fun l hl => ?_, fun l hl => ?_, (fun f hf => by cases hf), (fun p hp => by cases hp), c0_tight, by decide, by decide, by unfold okPs Pt.ok c0; decide, by decide, by decide⟩
  · rw [List.mem_singleton.1 hl]; unfold Pt.ok c0L; decide
  · rw [List.mem_singleton.1 hl]; rfl
end Go.Proofs.YtoebpndlbldfcaaGreatDoor
namespace Go.Proofs.YtoebpndlbldfcaaGreatDoor
open Go
set_option maxRecDepth 100000
attribute [local irreducible] tightP hullP rootP farP rows endsOf meetE gapE winR goV tabE
theorem c_AlikeI (l m : List Int) (oa ob : Option Addr) (n k c d : Nat) (hn : l.length = n) (hk : m.length = k) (hmax : n ≤ 9223372036854775807) (H : Heap) [SlO0 : SlO H oa 1 encI l] [SlO1 : SlO H ob 1 encI m] : VHas Tryz.prog 6 [sli oa n c, sli ob k d] (.bool (decide (l = m))) (H) (H) := by
 refine CV 26 Tryz.func6 ?_
 refine KK2 (QA (vnil (vseq (KK2 ?_))))
 refine QM ?_
 refine QQ (vlen rfl) rfl ?_
 refine QM ?_
 refine QQ (vlen rfl) rfl ?_
 refine QG (vnil ?_)
 refine vcondd rfl (fun h10 => ?_) (fun h10 => ?_)
 ·
  refine KK2 (QA (vnil ?_))
  refine vret (V1 (H) Tryz.func6 ?_)
  (have hne : ¬ l = m := (fun e => h10 (by rw [e] at hn; omega)); rw [decide_eq_false hne]; exact ⟨rfl, rfl⟩)
 ·
  refine vskip (vseq (KK2 (QA (vnil (vblock ?_)))))
  refine vwhile (σ := Int) (fun i => (n - i).toNat) (fun i => [(0, sli oa n c), (1, sli ob k d), (5, I i)]) (fun i => H) (fun i => (0 ≤ i ∧ i ≤ n) ∧ ∀ j : Nat, (j : Int) < i → l[j]? = m[j]?) 0 ⟨⟨by omega, by omega⟩, fun j hj => by omega⟩ ⟨rfl, rfl, rfl, True.intro⟩ sb ?_
  rintro i ⟨⟨hi0, hin⟩, hall⟩ IH
  change VRun _ _ _ _ _ [(0, sli oa n c), (1, sli ob k d), (5, I i)] _ (H) _
  refine vseq (KK2 (QM ?_))
  refine QM ?_
  refine QQ (vlen rfl) rfl ?_
  refine QS (vnil ?_)
  refine vcondd rfl (fun h14 => ?_) (fun h14 => ?_)
  ·
   obtain ⟨x, hx⟩ := get_of_lt l (i := i.toNat) (by omega)
   obtain ⟨y, hy⟩ := get_of_lt m (i := i.toNat) (by omega)
   refine vskip (vseq (vblock (vseq ?_)))
   refine DR [(.q, 0), (.q, 1), (.q, 2), (.q, 3), (.q, 4), (.q, 5), (.q, 6), (.q, 7), (.q, 8)] Tryz.mixed ?_
   refine DM ?_
   refine DM ?_
   refine DD (visg (enc := encI) rfl rfl (by omega) hx) rfl ?_
   refine DD (vldS1 (enc := encI) rfl hx rfl) rfl ?_
   refine DM ?_
   refine DM ?_
   refine DD (visg (enc := encI) rfl rfl (by omega) hy) rfl ?_
   refine DD (vldS1 (enc := encI) rfl hy rfl) rfl ?_
   refine DG (vdend rfl ?_)
   refine vcondd rfl (fun h25 => ?_) (fun h25 => ?_)
   ·
    refine KK2 (QA (vnil ?_))
    refine vret (V1 (H) Tryz.func6 ?_)
    (have hne : ¬ l = m := (fun e => by subst e; rw [hx] at hy; cases hy; first | exact h25 rfl | (simp at h25; done)); rw [decide_eq_false hne]; exact ⟨rfl, rfl⟩)
   ·
    refine vskip (vinblock (vregion (QM ?_)))
    refine QQ (vadd rfl rfl (by unfold InR; omega)) rfl ?_
    refine QA (vnil ?_)
    exact vback (IH (i + 1) ⟨⟨by omega, by omega⟩, lt_snoc (n := 0) hi0 hall (by rw [hx, hy]; exact congrArg some (Classical.not_not.1 h25))⟩ (by show (_ : Int).toNat < (_ : Int).toNat; omega)) ⟨rfl, rfl, rfl, True.intro⟩ sb
  ·
   refine vexit (k' := _) rfl ?_
   refine KK2 (QA (vnil ?_))
   refine vret (V1 (H) Tryz.func6 ?_)
   (have he : l = m := (List.ext_getElem? fun j => (by rcases Nat.lt_or_ge j n with hj | hj; exact hall j (by omega); rw [List.getElem?_eq_none (by omega), List.getElem?_eq_none (by omega)])); rw [decide_eq_true he]; exact ⟨rfl, rfl⟩)
theorem fx_Fix (oa ob : Option Addr) (ca cb : Nat) (H : Heap) [hs1 : SlO H oa 8 clR [zR, r9]] [hs2 : SlO H ob 14 encOb [()]] : VCall Tryz.prog 70 [.agg #[.slice oa 2 ca, .slice ob 1 cb]].toArray H (fun o H' => ∃ v, o = .val v ∧ ∃ gb kb rs, v = tup [.slice (some ⟨gb, 0, Option.none⟩) 2 kb, I 0] ∧ H' = (gb, blk (c2 zR rb rs) 134) :: H) := by
 refine CV 26 Tryz.func70 ?_
 refine KK2 (BX fun b1 => ?_)
 refine QA ?_
 refine QA (KK3 ?_)
 refine QN ?_
 refine vone rfl (vxg (vcg rfl rfl rfl (fx_netOf oa ob ca cb _) (fun o H' h => h)) rfl rfl ?_)
 rintro _ _ ⟨gb, kb, rs, gc, kc, rc, rfl, rfl⟩
 refine QM ?_
 refine QX ?_
 refine QX ?_
 refine AL fun b2 => ?_
 refine SN ?_
 refine QA (vnil (vseq (KK2 ?_)))
 refine QM ?_
 refine QG ?_
 refine vknow (d := 15) (b' := false) rfl rfl ?_
 refine vnil (vcondf rfl (vskip (KK2 (QN ?_))))
 refine vone rfl (vxg (vcg rfl rfl rfl (fx_fixed (some ⟨gb, 0, Option.none⟩) kb gc kc rc _) (fun o H' h => h)) rfl rfl ?_)
 rintro _ _ ⟨gx, kx, rx, sa, sc, rfl, rfl⟩
 refine QM ?_
 refine QX ?_
 refine QX ?_
 refine QX ?_
 refine QA ?_
 refine QA ?_
 refine QA (vnil (vseq (KK2 ?_)))
 refine QM ?_
 refine QQ (vnot rfl) rfl (vnil ?_)
 refine vcondf rfl (vskip (KK2 (QM ?_)))
 refine QA ?_
 refine QA (vnil ?_)
 refine vret (vr2 (H' := (gx, blk (c2 zR rb rx) 134) :: H) Tryz.func70 rfl (.tmp rfl) (.tmp rfl) sb2 ?_)
 exact ⟨_, rfl, gx, kx, rx, rfl, rfl⟩
theorem sub8 (a b : Rg) (rest : List Value) : sub (c2 a b rest) 8 2 = some [I b.x.lo, I b.x.hi] := by simp [sub, tak, c2]
theorem cz_c0 {H : Heap} {b1 b2 b3 : Nat} {T1 T2 T3 : TypeId} (h1 : (b1, blk (encLg c0L) T1) ∈ H) (h2 : (b2, blk (encBd ⟨7, 100⟩) T2) ∈ H) (h3 : (b3, blk [.slice (some ⟨b2, 0, Option.none⟩) 1 1] T3) ∈ H) :
    CzO H ⟨some ⟨b1, 0, Option.none⟩, 1, Option.none, 0, [], Option.none, 0, some ⟨b3, 0, Option.none⟩, 1, [⟨some ⟨b2, 0, Option.none⟩, 1, c0D⟩]⟩ c0 := by
  haveI a1 : HAt H b1 (encLg c0L) T1 := ⟨h1⟩
  haveI a2 : HAt H b2 (encBd ⟨7, 100⟩) T2 := ⟨h2⟩
  haveI a3 : HAt H b3 [.slice (some ⟨b2, 0, Option.none⟩) 1 1] T3 := ⟨h3⟩
  refine ⟨SlO.flat (fun _ => rfl) (by rfl), SlO.nil, (fun d hd => by cases hd), rfl, SlO.nil, SlO.flat (fun _ => rfl) (by rfl), (fun d hd => ?_), rfl, ⟨Nat.le_of_ble_eq_true rfl, Nat.le_of_ble_eq_true rfl, Nat.le_of_ble_eq_true rfl, Nat.le_of_ble_eq_true rfl⟩⟩
  rw [List.mem_singleton.1 hd]
  exact ⟨SlO.flat (fun _ => rfl) (by rfl), Nat.le_of_ble_eq_true rfl⟩
theorem q_steered (H : Heap) : VHas Tryz.prog 44 [] (.bool true) H H := by
 refine CV 78 Tryz.func44 ?_
 refine KK2 (QA (KK3 ?_))
 refine QB ?_
 refine QB ?_
 refine vone rfl (vxg (vbs rfl rfl rfl rfl rfl rfl) rfl rfl ?_)
 rintro _ _ ⟨b1, rfl, rfl⟩
 refine QB ?_
 refine vone rfl (vxg (vbs rfl rfl rfl rfl rfl rfl) rfl rfl ?_)
 rintro _ _ ⟨b2, rfl, rfl⟩
 refine vone rfl (vxg (vbs rfl rfl rfl rfl rfl rfl) rfl rfl ?_)
 rintro _ _ ⟨b3, rfl, rfl⟩
 refine QB ?_
 refine AL fun b4 => ?_
 refine SN (KK3 ?_)
 refine QN ?_
 refine vone rfl (vxg (haveI hcz : CzO ((b4, blk (clCz (⟨some ⟨b1, 0, Option.none⟩, 1, Option.none, 0, [], Option.none, 0, some ⟨b3, 0, Option.none⟩, 1, [⟨some ⟨b2, 0, Option.none⟩, 1, c0D⟩]⟩ : CH) c0) 138) :: (b3, blk [.slice (some ⟨b2, 0, Option.none⟩) 1 1] 57) :: (b2, blk (encBd ⟨7, 100⟩) 56) :: (b1, blk (encLg c0L) 128) :: H) (⟨some ⟨b1, 0, Option.none⟩, 1, Option.none, 0, [], Option.none, 0, some ⟨b3, 0, Option.none⟩, 1, [⟨some ⟨b2, 0, Option.none⟩, 1, c0D⟩]⟩ : CH) c0 := cz_c0 (T1 := 128) (T2 := 56) (T3 := 57) (by simp) (by simp) (by simp); vcg (R := fun v H' => ∃ B sl, v = tup [sl, I 12, I 0] ∧ H' = B ++ ((b4, blk (clCz (⟨some ⟨b1, 0, Option.none⟩, 1, Option.none, 0, [], Option.none, 0, some ⟨b3, 0, Option.none⟩, 1, [⟨some ⟨b2, 0, Option.none⟩, 1, c0D⟩]⟩ : CH) c0) 138) :: (b3, blk [.slice (some ⟨b2, 0, Option.none⟩) 1 1] 57) :: (b2, blk (encBd ⟨7, 100⟩) 56) :: (b1, blk (encLg c0L) 128) :: H)) rfl rfl rfl (d_Best1 (⟨some ⟨b1, 0, Option.none⟩, 1, Option.none, 0, [], Option.none, 0, some ⟨b3, 0, Option.none⟩, 1, [⟨some ⟨b2, 0, Option.none⟩, 1, c0D⟩]⟩ : CH) c0 ((b4, blk (clCz (⟨some ⟨b1, 0, Option.none⟩, 1, Option.none, 0, [], Option.none, 0, some ⟨b3, 0, Option.none⟩, 1, [⟨some ⟨b2, 0, Option.none⟩, 1, c0D⟩]⟩ : CH) c0) 138) :: (b3, blk [.slice (some ⟨b2, 0, Option.none⟩) 1 1] 57) :: (b2, blk (encBd ⟨7, 100⟩) 56) :: (b1, blk (encLg c0L) 128) :: H) c0L rfl rfl c0D rfl c0_ok (7, 12) c0_go0 (by decide) (.inr (by rw [c0_tab1]; decide))) (fun o H' ⟨B, sl, e1, e2⟩ => ⟨_, e2, B, sl, rfl, e1⟩)) rfl rfl ?_)
 rintro _ _ ⟨B1, sl, rfl, rfl⟩
 refine QM ?_
 refine QX ?_
 refine QX ?_
 refine QX ?_
 refine QA ?_
 refine QA ?_
 refine QA (KK3 ?_)
 refine QB ?_
 refine QB ?_
 refine QB ?_
 refine QB ?_
 refine QB ?_
 refine QB ?_
 refine vone rfl (vxg (vbs rfl rfl rfl rfl rfl rfl) rfl rfl ?_)
 rintro _ _ ⟨b5, rfl, rfl⟩
 refine QB ?_
 refine vone rfl (vxg (vbs rfl rfl rfl rfl rfl rfl) rfl rfl ?_)
 rintro _ _ ⟨b6, rfl, rfl⟩
 refine QB ?_
 refine vone rfl (vxg (vcg rfl rfl rfl (fx_Fix (hs1 := SlO.flat (b := b5) clR_len (by rfl)) (hs2 := SlO.flat (b := b6) (fun _ => rfl) (by rfl)) (some ⟨b5, 0, Option.none⟩) (some ⟨b6, 0, Option.none⟩) 2 1 _) (fun o H' h => h)) rfl rfl ?_)
 rintro _ _ ⟨gx, kx, rx, rfl, rfl⟩
 refine QM ?_
 refine QX ?_
 refine QX ?_
 refine QA ?_
 refine QA (KK3 ?_)
 refine QB ?_
 refine vone rfl (vxg (vbs rfl rfl rfl rfl rfl rfl) rfl rfl ?_)
 rintro _ _ ⟨b7, rfl, rfl⟩
 refine QB ?_
 refine QB ?_
 refine vone rfl (vxg (vbs rfl rfl rfl rfl rfl rfl) rfl rfl ?_)
 rintro _ _ ⟨b8, rfl, rfl⟩
 refine vone rfl (vxg (vbs rfl rfl rfl rfl rfl rfl) rfl rfl ?_)
 rintro _ _ ⟨b9, rfl, rfl⟩
 refine vone rfl (vxg (vcg (R := fun v H' => ∃ b, v = tup [.slice (some ⟨b, 0, Option.none⟩) 1 1, I 0] ∧ H' = (b, blk [I 5] 3) :: _) rfl rfl rfl (d_tow0 (hs0 := SlO.flat (b := b7) (fun _ => rfl) (by rfl)) (hs2 := SlO.flat (b := b9) (fun _ => rfl) (by rfl)) (hs3 := SlO.flat (b := b8) (fun _ => rfl) (by rfl)) (some ⟨b7, 0, Option.none⟩) (some ⟨b9, 0, Option.none⟩) (some ⟨b8, 0, Option.none⟩) 1 1 1 _) (fun o H' ⟨b, e1, e2⟩ => ⟨_, e1, b, rfl, e2⟩)) rfl rfl ?_)
 rintro _ _ ⟨gt, rfl, rfl⟩
 refine QM ?_
 refine QX ?_
 refine QX ?_
 refine QA ?_
 refine QA (KK3 ?_)
 refine QM ?_
 refine QE ?_
 refine vknow (d := 47) (b' := true) rfl rfl ?_
 refine QM ?_
 refine YM ?_
 refine YE ?_
 refine vknow (d := 50) (b' := true) rfl rfl ?_
 refine QT ?_
 refine QM ?_
 refine YM ?_
 refine YE ?_
 refine vknow (d := 54) (b' := true) rfl rfl ?_
 refine QT ?_
 refine QM ?_
 refine YM ?_
 refine YE ?_
 refine vknow (d := 58) (b' := true) rfl rfl ?_
 refine QT ?_
 refine QM ?_
 refine YM ?_
 refine YY (vlen rfl) rfl ?_
 refine YE ?_
 refine QT ?_
 refine QM ?_
 refine YM ?_
 refine YY (vis rfl rfl (by decide)) rfl ?_
 refine YF ?_
 refine YY (vldn rfl (sub8 _ _ _)) rfl ?_
 refine YB ?_
 refine YY (veqs rfl rfl rfl rfl rfl rfl) rfl ?_
 refine vknow (d := 71) (b' := true) rfl (by decide) ?_
 refine QT ?_
 refine QM ?_
 refine YM ?_
 refine vyes rfl rfl rfl (vxg (vbs rfl rfl rfl rfl rfl rfl) rfl rfl ?_)
 rintro _ _ ⟨b10, rfl, rfl⟩
 refine YY (vcq rfl rfl rfl (c_AlikeI (SlO0 := SlO.flat (b := gt) (fun _ => rfl) (by rfl)) (SlO1 := SlO.flat (b := b10) (fun _ => rfl) (by rfl)) [5] [5] (some ⟨gt, 0, Option.none⟩) (some ⟨b10, 0, Option.none⟩) 1 1 1 1 rfl rfl (by decide) _)) rfl ?_
 refine vknow (d := 76) (b' := true) rfl rfl ?_
 refine QT ?_
 refine QA (vnil ?_)
 refine vret (V1 (H) Tryz.func44 ?_)
 exact ⟨rfl, rfl⟩
end Go.Proofs.YtoebpndlbldfcaaGreatDoor
namespace Go.Proofs.YtoebpndlbldfcaaGreatDoor
open Go
set_option maxRecDepth 100000
attribute [local irreducible] tightP hullP rootP farP rows endsOf valM
abbrev clI (M : List Int) : List Value := M.map fun n => I n
theorem flatIc : ∀ l : List Int, l.flatMap encI = clI l
  | [] => rfl
  | x :: r => by rw [List.flatMap_cons, flatIc r]; rfl
theorem valM_of {l : List Int} {i : Nat} {z : Int} (h : l[i]? = some z) : valM l (i : Int) = z := by unfold valM; rw [Int.toNat_natCast, h]; rfl
theorem nth_R {M : List Int} {rest : List Value} {i : Int} (h : 0 ≤ i ∧ i < M.length) : nth (clI M ++ rest) (0 + i.toNat * 1) = some (I (valM M i)) := by
  rw [nth_eq, Nat.zero_add, Nat.mul_one]
  unfold valM
  obtain ⟨z, hz⟩ := get_of_lt M (i := i.toNat) (by omega)
  rw [hz, List.getElem?_append_left (by simp; omega)]; simp [hz]
theorem put1_R (rest : List Value) : ∀ (M : List Int) (k : Nat) (v : Int), k < M.length → put (clI M ++ rest) k [I v] = some (clI (M.set k v) ++ rest)
  | [], k, v, h => by cases h
  | x :: r, 0, v, _ => by simp only [clI, List.map_cons, List.cons_append, put, List.set_cons_zero]
  | x :: r, k + 1, v, h => by
    simp only [clI, List.map_cons, List.set_cons_succ, List.cons_append, put]
    have := put1_R rest r k v (by simpa using h)
    simp only [clI] at this
    rw [this]
theorem put_R {M : List Int} {rest : List Value} {i : Int} (v : Int) (h : 0 ≤ i ∧ i < M.length) : put (clI M ++ rest) (0 + i.toNat * 1) [I v] = some (clI (M.set i.toNat v) ++ rest) := by
  rw [Nat.zero_add, Nat.mul_one]; exact put1_R rest M i.toNat v (by omega)
theorem own_list {e n c : Nat} {oa : Option Addr} {l : List Int} {B : Heap} (h : OwnS e 1 (.slice oa n c) n (l.flatMap encI) B) (hn : 0 < n) : ∃ g rest, oa = some ⟨g, 0, Option.none⟩ ∧ B = [(g, blk (clI l ++ rest) e)] := by
  rcases h with ⟨_, h, _⟩ | ⟨g, cap, cur, h1, h2, h3, h4, h5, h6⟩
  · omega
  · refine ⟨g, cur.drop (n * 1), by cases h1; rfl, ?_⟩
    rw [h2, ← flatIc, ← h6, List.take_append_drop]
theorem list_own {g : Nat} {l : List Int} {rest : List Value} {e : TypeId} : SlO [(g, blk (clI l ++ rest) e)] (some ⟨g, 0, Option.none⟩) 1 encI l :=
  SlO.blk (cs := clI l ++ rest) (T := e) fun i x hx => ⟨rfl, fun j v hj => by
    have hi := (List.getElem?_eq_some_iff.1 hx).1
    rcases j with _ | j
    · cases hj
      rw [Nat.mul_one, Nat.add_zero, List.getElem?_append_left (by simpa using hi)]
      simp [hx]
    · simp at hj⟩
section
variable {P : Program} {N : Nat} {E : Env} {D : List Deferred} {H : Heap} {d : Nat} {x y : Operand} {T ty T' : TypeId} {pos : String} {af : Array Edge} {g : Option (Nat × Bool)} {a : Int}
theorem vshr6 (hx : ev E x = some (I a)) (hy : ev E y = some (.int .u64 6)) : OQ P N E D H ⟨some d, .binOp .shr T x y T', ty, pos, af, g⟩ (I (a / 64)) :=
  ov (by simp) (fun t w hA _ => by
    have e : IntKind.i64.bits = 64 := rfl
    have h : a.fdiv (2 ^ 6) = a / 64 := by rw [Int.fdiv_eq_ediv_of_nonneg _ (by decide)]; rfl
    simp [execOp, ev_eval hA hx, ev_eval hA hy, binOp, eqGuard, Op.shift, e]
    (simpa using h))
end
theorem c_vwithin (n a b : Int) : VPure Tryz.prog 12 [I n, I a, I b] (.bool (decide (a ≤ n ∧ n ≤ b))) := by
 intro H
 refine CV 15 Tryz.func12 ?_
 refine KK2 (QA (KK3 ?_))
 refine QM ?_
 refine QM ?_
 refine QQ (vgeq rfl rfl) rfl ?_
 refine QM ?_
 refine vsplitd (d := 10) rfl (fun h10 => ?_) (fun h10 => ?_)
 ·
  refine YM ?_
  refine YM ?_
  refine YY (vleq rfl rfl) rfl ?_
  refine QT ?_
  refine QA (vnil ?_)
  refine vret (V1 (H) Tryz.func12 ?_)
  exact ⟨obd (by omega), rfl⟩
 ·
  refine NO3 ?_
  refine QU ?_
  refine QA (vnil ?_)
  refine vret (V1 (H) Tryz.func12 ?_)
  exact ⟨obf (by omega), rfl⟩
theorem c_stwithin (n a b : Int) : VPure Tryz.prog 14 [I n, I a, I b] (.bool (decide (a ≤ n ∧ n ≤ b))) := by
 intro H
 refine CV 15 Tryz.func14 ?_
 refine KK2 (QA (KK3 ?_))
 refine QM ?_
 refine QM ?_
 refine QQ (vgeq rfl rfl) rfl ?_
 refine QM ?_
 refine vsplitd (d := 10) rfl (fun h10 => ?_) (fun h10 => ?_)
 ·
  refine YM ?_
  refine YM ?_
  refine YY (vleq rfl rfl) rfl ?_
  refine QT ?_
  refine QA (vnil ?_)
  refine vret (V1 (H) Tryz.func14 ?_)
  exact ⟨obd (by omega), rfl⟩
 ·
  refine NO3 ?_
  refine QU ?_
  refine QA (vnil ?_)
  refine vret (V1 (H) Tryz.func14 ?_)
  exact ⟨obf (by omega), rfl⟩
theorem c_tpwithin (n a b : Int) : VPure Tryz.prog 47 [I n, I a, I b] (.bool (decide (a ≤ n ∧ n ≤ b))) := by
 intro H
 refine CV 15 Tryz.func47 ?_
 refine KK2 (QA (KK3 ?_))
 refine QM ?_
 refine QM ?_
 refine QQ (vgeq rfl rfl) rfl ?_
 refine QM ?_
 refine vsplitd (d := 10) rfl (fun h10 => ?_) (fun h10 => ?_)
 ·
  refine YM ?_
  refine YM ?_
  refine YY (vleq rfl rfl) rfl ?_
  refine QT ?_
  refine QA (vnil ?_)
  refine vret (V1 (H) Tryz.func47 ?_)
  exact ⟨obd (by omega), rfl⟩
 ·
  refine NO3 ?_
  refine QU ?_
  refine QA (vnil ?_)
  refine vret (V1 (H) Tryz.func47 ?_)
  exact ⟨obf (by omega), rfl⟩
theorem c_bnwithin (n a b : Int) : VPure Tryz.prog 53 [I n, I a, I b] (.bool (decide (a ≤ n ∧ n ≤ b))) := by
 intro H
 refine CV 15 Tryz.func53 ?_
 refine KK2 (QA (KK3 ?_))
 refine QM ?_
 refine QM ?_
 refine QQ (vgeq rfl rfl) rfl ?_
 refine QM ?_
 refine vsplitd (d := 10) rfl (fun h10 => ?_) (fun h10 => ?_)
 ·
  refine YM ?_
  refine YM ?_
  refine YY (vleq rfl rfl) rfl ?_
  refine QT ?_
  refine QA (vnil ?_)
  refine vret (V1 (H) Tryz.func53 ?_)
  exact ⟨obd (by omega), rfl⟩
 ·
  refine NO3 ?_
  refine QU ?_
  refine QA (vnil ?_)
  refine vret (V1 (H) Tryz.func53 ?_)
  exact ⟨obf (by omega), rfl⟩
theorem c_vdown (n : Int) : VPure Tryz.prog 11 [I n] (I (n / 64)) := by
 intro H
 refine CV 5 Tryz.func11 ?_
 refine KK2 (QA (KK3 ?_))
 refine QM ?_
 refine QQ (vshr6 rfl rfl) rfl ?_
 refine QA (vnil ?_)
 refine vret (V1 (H) Tryz.func11 ?_)
 exact ⟨rfl, rfl⟩
theorem tdiv_bdS {a : Int} (h : -9223372036854775808 ≤ a ∧ a ≤ 9223372036854775807) : -144115188075855872 ≤ a.tdiv 64 ∧ a.tdiv 64 ≤ 144115188075855872 := by
  have h1 := Int.mul_tdiv_add_tmod a 64
  have h2 := Int.tmod_lt_of_pos a (show (0 : Int) < 64 by decide)
  have h3 : -64 < a.tmod 64 := by have := Int.tmod_lt_of_pos (-a) (show (0 : Int) < 64 by decide); rw [Int.neg_tmod] at this; omega
  omega
theorem c_sdown (n : Int) (hn : InR n) : VPure Tryz.prog 17 [I n] (I (n / 64)) := by
 unfold InR at hn
 have hq := tdiv_bdS hn
 intro H
 refine CV 12 Tryz.func17 ?_
 refine KK2 (QA (KK3 ?_))
 refine QM ?_
 refine QQ (vquo rfl rfl (by omega) (by unfold InR; omega)) rfl ?_
 refine QA (vnil (vseq (KK2 ?_)))
 refine QM ?_
 refine QQ (vrem rfl rfl (by omega)) rfl ?_
 refine QS (vnil ?_)
 refine vcondd rfl (fun h8 => ?_) (fun h8 => ?_)
 ·
  refine vregion (QM ?_)
  refine QQ (vsub rfl rfl (by unfold InR; omega)) rfl ?_
  refine QA (KK3 ?_)
  refine QM ?_
  refine QA (vnil ?_)
  refine vret (V1 (H) Tryz.func17 ?_)
  exact ⟨oI (by rw [← down_eq (b := 64) (by decide), if_pos h8]), rfl⟩
 ·
  refine vskip (KK2 (QM ?_))
  refine QA (vnil ?_)
  refine vret (V1 (H) Tryz.func17 ?_)
  exact ⟨oI (by rw [← down_eq (b := 64) (by decide), if_neg h8]), rfl⟩
theorem q_ringing1 (n m : Int) (hm : InR (-m)) (b : Nat) (H : Heap) [hat : HAt H b [I m] 3] : VHas Tryz.prog 23 [I n, ptr b] (.bool (!decide (-m ≤ n ∧ n ≤ m))) H H := by
 refine CV 10 Tryz.func23 ?_
 refine KK2 (QA (KK3 ?_))
 refine QM ?_
 refine QL ?_
 refine QQ (vneg rfl hm) rfl ?_
 refine QL ?_
 refine QQ (vcp rfl rfl rfl (c_vwithin _ _ _)) rfl ?_
 refine QQ (vnot rfl) rfl ?_
 refine QA (vnil ?_)
 refine vret (V1 (H) Tryz.func23 ?_)
 exact ⟨rfl, rfl⟩
theorem any_all {l : List Int} {m : Int} : (!(l.any fun n => !decide (-m ≤ n ∧ n ≤ m))) = decide (allB m l) := by
  rw [Bool.eq_iff_iff]
  simp only [Bool.not_eq_true', List.any_eq_false, Bool.not_eq_true', decide_eq_false_iff_not, Classical.not_not, decide_eq_true_iff]
  rfl
theorem q_ringing (m : Int) (hm : InR (-m)) (l : List Int) (oa : Option Addr) (c : Nat) (H : Heap) [hsl : SlO H oa 1 encI l] (hll : l.length ≤ 9223372036854775807) (p q : Int) : VHas Tryz.prog 10 [.slice oa l.length c, I m, I p, I q] (.bool (decide (rgOk m l p q))) H H := by
 refine CV 26 Tryz.func10 ?_
 refine KK2 (BX fun b1 => ?_)
 refine QA (KK3 ?_)
 refine QM ?_
 refine QQ (vlen rfl) rfl ?_
 refine QQ (vleq rfl rfl) rfl ?_
 refine QM ?_
 refine vsplitd (d := 12) rfl (fun h12 => ?_) (fun h12 => ?_)
 ·
  refine YM ?_
  refine YY (vcp rfl rfl rfl (c_vwithin _ _ _)) rfl ?_
  refine QT ?_
  refine QM ?_
  refine vsplitd (d := 16) rfl (fun h16 => ?_) (fun h16 => ?_)
  ·
   refine YM ?_
   refine YY (vcp rfl rfl rfl (c_vwithin _ _ _)) rfl ?_
   refine QT ?_
   refine QM ?_
   refine vsplitd (d := 20) rfl (fun h20 => ?_) (fun h20 => ?_)
   ·
    refine YM ?_
    refine YY (vmf rfl) rfl ?_
    refine YY (vcq rfl rfl rfl (q_ContainsI 23 [ptr b1] (fun n => !decide (-m ≤ n ∧ n ≤ m)) l oa _ c rfl (by omega) ((b1, blk [I m] 3) :: H) (fun z _ => q_ringing1 z m hm b1 _))) rfl ?_
    refine YY (vnot rfl) rfl ?_
    refine QT ?_
    refine QA (vnil ?_)
    refine vret (V1 (H) Tryz.func10 ?_)
    exact ⟨oV (by rw [any_all]; congr 1; exact decide_eq_decide.2 ⟨fun e => ⟨by omega, by omega, by omega, e⟩, fun e => e.2.2.2⟩), rfl⟩
   ·
    refine NO4 ?_
    refine QU ?_
    refine QA (vnil ?_)
    refine vret (V1 (H) Tryz.func10 ?_)
    exact ⟨oV (by congr 1; symm; exact decide_eq_false (fun e => by obtain ⟨e1, e2, e3, _⟩ := e; omega)), rfl⟩
  ·
   refine NO2 ?_
   refine QU ?_
   refine QM ?_
   refine NO4 ?_
   refine QU ?_
   refine QA (vnil ?_)
   refine vret (V1 (H) Tryz.func10 ?_)
   exact ⟨oV (by congr 1; symm; exact decide_eq_false (fun e => by obtain ⟨e1, e2, e3, _⟩ := e; omega)), rfl⟩
 ·
  refine NO2 ?_
  refine QU ?_
  refine QM ?_
  refine NO2 ?_
  refine QU ?_
  refine QM ?_
  refine NO4 ?_
  refine QU ?_
  refine QA (vnil ?_)
  refine vret (V1 (H) Tryz.func10 ?_)
  exact ⟨oV (by congr 1; symm; exact decide_eq_false (fun e => by obtain ⟨e1, e2, e3, _⟩ := e; omega)), rfl⟩
theorem q_stnum1 (n : Int) (H : Heap) : VHas Tryz.prog 24 [I n] (.bool (!decide (-65536 ≤ n ∧ n ≤ 65536))) H H := by
 refine CV 6 Tryz.func24 ?_
 refine KK2 (QA (KK3 ?_))
 refine QM ?_
 refine QQ (vcp rfl rfl rfl (c_stwithin _ _ _)) rfl ?_
 refine QQ (vnot rfl) rfl ?_
 refine QA (vnil ?_)
 refine vret (V1 (H) Tryz.func24 ?_)
 exact ⟨rfl, rfl⟩
theorem q_stnumbers (l : List Int) (oa : Option Addr) (c : Nat) (H : Heap) [hsl : SlO H oa 1 encI l] (hll : l.length ≤ 9223372036854775807) : VHas Tryz.prog 13 [.slice oa l.length c] (.bool (decide ((1 ≤ l.length ∧ l.length ≤ 64) ∧ allB 65536 l))) H H := by
 refine CV 11 Tryz.func13 ?_
 refine KK2 (QA (KK3 ?_))
 refine QM ?_
 refine QQ (vlen rfl) rfl ?_
 refine QQ (vcp rfl rfl rfl (c_stwithin _ _ _)) rfl ?_
 refine QM ?_
 refine vsplitd (d := 6) rfl (fun h6 => ?_) (fun h6 => ?_)
 ·
  refine YM ?_
  refine YY (vcq rfl rfl rfl (q_ContainsI 24 [] (fun n => !decide (-65536 ≤ n ∧ n ≤ 65536)) l oa _ c rfl (by omega) H (fun z _ => q_stnum1 z _))) rfl ?_
  refine YY (vnot rfl) rfl ?_
  refine QT ?_
  refine QA (vnil ?_)
  refine vret (V1 (H) Tryz.func13 ?_)
  exact ⟨oV (by rw [any_all]; congr 1; exact decide_eq_decide.2 ⟨fun e => ⟨by omega, e⟩, fun e => e.2⟩), rfl⟩
 ·
  refine NO3 ?_
  refine QU ?_
  refine QA (vnil ?_)
  refine vret (V1 (H) Tryz.func13 ?_)
  exact ⟨oV (by congr 1; symm; exact decide_eq_false (fun e => by obtain ⟨e1, _⟩ := e; omega)), rfl⟩
theorem c_repeats (n : Int) : VPure Tryz.prog 15 [I n] (.bool (decide (-64 ≤ n ∧ n ≤ 64))) := by
 intro H
 refine CV 5 Tryz.func15 ?_
 refine KK2 (QA (KK3 ?_))
 refine QM ?_
 refine QQ (vcp rfl rfl rfl (c_stwithin _ _ _)) rfl ?_
 refine QA (vnil ?_)
 refine vret (V1 (H) Tryz.func15 ?_)
 exact ⟨rfl, rfl⟩
end Go.Proofs.YtoebpndlbldfcaaGreatDoor
