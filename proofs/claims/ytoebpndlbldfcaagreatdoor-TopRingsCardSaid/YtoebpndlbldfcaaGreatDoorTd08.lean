/-
  Parts of the proof: rules of the engine, walks of functions, plain Lean. No condition.
-/
import Derived.Test.YtoebpndlbldfcaaGreatDoorTd07
namespace Go.Proofs.YtoebpndlbldfcaaGreatDoor
open Go
set_option maxRecDepth 100000
attribute [local irreducible] tightP hullP rootP farP rows endsOf
section
variable {P : Program} {f : FuncId} {ro : Option Nat} {N : Nat} {k : List Item} {E : Env} {D : List Deferred} {H : Heap} {Q : Out → Heap → Prop} {ops : Array Oper} {l l' : List Oper}
theorem vjoinL {E' : Env} (h2 : VL P f ro N ops l' k E' D H Q → VL P f ro N ops l k E D H Q) (h1 : VL P f ro N ops l' k E' D H Q) : VL P f ro N ops l k E D H Q := h2 h1
theorem vlback {E' : Env} (h : VL P f ro N ops l k E' D H Q) (hE : allIn E' E) : VL P f ro N ops l k E D H Q := fun is his => vweak hE (h is his)
end
theorem andT {A B : Prop} {_ : Decidable B} {i : Decidable (A ∧ B)} (h : A) : some (Value.bool (decide B)) = some (Value.bool (@decide (A ∧ B) i)) := by simp [h]
theorem andF {A B : Prop} {i : Decidable (A ∧ B)} (h : ¬ A) : some (Value.bool false) = some (Value.bool (@decide (A ∧ B) i)) := by simp [h]
structure SlA (α : Type) where
  oa : Option Addr
  c : Nat
  l : List α
abbrev encSl {α : Type} (d : SlA α) : List Value := [.slice d.oa d.l.length d.c]
abbrev encLg (l : Pt × Pt) : List Value := [I l.1.x, I l.1.y, I l.2.x, I l.2.y]
abbrev encBd (b : Bd) : List Value := [I b.lo, I b.hi]
structure CH where
  a1 : Option Addr
  c1 : Nat
  a2 : Option Addr
  c2 : Nat
  fs : List (SlA Pt)
  a3 : Option Addr
  c3 : Nat
  a8 : Option Addr
  c8 : Nat
  os : List (SlA Bd)
abbrev clPs (p : Ps) : List Value := [I p.pt.x, I p.pt.y, I p.oc]
abbrev vPs (p : Ps) : Value := .agg (clPs p).toArray
abbrev clCz (h : CH) (c : Cz) : List Value := [.slice h.a1 c.lines.length h.c1, .slice h.a2 h.fs.length h.c2, .slice h.a3 c.buoys.length h.c3, I c.spread.x.lo, I c.spread.x.hi, I c.spread.y.lo, I c.spread.y.hi, I c.spread.s.lo, I c.spread.s.hi, I c.spread.d.lo, I c.spread.d.hi, I c.start.pt.x, I c.start.pt.y, I c.start.oc, I c.speed, I c.turn, .slice h.a8 h.os.length h.c8]
abbrev vCz (h : CH) (c : Cz) : Value := .agg (clCz h c).toArray
class CzO (H : Heap) (h : CH) (c : Cz) : Prop where
  lines : SlO H h.a1 4 encLg c.lines
  fsl : SlO H h.a2 1 encSl h.fs
  fse : ∀ d ∈ h.fs, SlO H d.oa 2 encP d.l ∧ d.l.length ≤ 9223372036854775807
  feq : h.fs.map (·.l) = c.fields
  buoys : SlO H h.a3 2 encP c.buoys
  osl : SlO H h.a8 1 encSl h.os
  ose : ∀ d ∈ h.os, SlO H d.oa 2 encBd d.l ∧ d.l.length ≤ 9223372036854775807
  oeq : h.os.map (·.l) = c.opens
  bd : c.lines.length ≤ 9223372036854775807 ∧ h.fs.length ≤ 9223372036854775807 ∧ c.buoys.length ≤ 9223372036854775807 ∧ h.os.length ≤ 9223372036854775807
theorem CzO.sub {H H' : Heap} {h : CH} {c : Cz} (hs : CzO H h c) (hm : ∀ e ∈ H, e ∈ H') : CzO H' h c := ⟨hs.lines.sub hm, hs.fsl.sub hm, fun d hd => ⟨(hs.fse d hd).1.sub hm, (hs.fse d hd).2⟩, hs.feq, hs.buoys.sub hm, hs.osl.sub hm, fun d hd => ⟨(hs.ose d hd).1.sub hm, (hs.ose d hd).2⟩, hs.oeq, hs.bd⟩
instance (priority := low) CzO.tail {x : Nat × Obj} {H : Heap} {h : CH} {c : Cz} [hs : CzO H h c] : CzO (x :: H) h c := hs.sub fun e he => List.mem_cons_of_mem _ he
instance CzO.appL {A B : Heap} {h : CH} {c : Cz} [hs : CzO A h c] : CzO (A ++ B) h c := hs.sub fun e he => List.mem_append_left _ he
instance (priority := low) CzO.appR {A B : Heap} {h : CH} {c : Cz} [hs : CzO B h c] : CzO (A ++ B) h c := hs.sub fun e he => List.mem_append_right _ he
instance CzO.i1 {H : Heap} {h : CH} {c : Cz} [hs : CzO H h c] : SlO H h.a1 4 encLg c.lines := hs.lines
instance CzO.i3 {H : Heap} {h : CH} {c : Cz} [hs : CzO H h c] : SlO H h.a3 2 encP c.buoys := hs.buoys
noncomputable def okCzB (c : Cz) : Bool := @decide (okCz c) (Classical.propDecidable _)
theorem okCzB_t {c : Cz} (h : okCz c) : okCzB c = true := by unfold okCzB; exact @decide_eq_true _ (Classical.propDecidable _) h
theorem okCzB_f {c : Cz} (h : ¬ okCz c) : okCzB c = false := by unfold okCzB; exact @decide_eq_false _ (Classical.propDecidable _) h
theorem cz_no {c : Cz} (h : ¬ okCz c) : Out.val (.bool false) = Out.val (.bool (okCzB c)) := by rw [okCzB_f h]
theorem cz_is {c : Cz} {b : Bool} (h : b = true ↔ okCz c) : Out.val (.bool b) = Out.val (.bool (okCzB c)) := by
  cases b with
  | true => rw [okCzB_t (h.1 rfl)]
  | false => rw [okCzB_f (fun e => by have := h.2 e; cases this)]
def prevH (l : List Bd) (i : Nat) : Int := if i = 0 then -1 else ((l[i - 1]?).getD ⟨0, 0⟩).hi
theorem prevH_of {l : List Bd} {i : Nat} {b : Bd} (h : l[i]? = some b) : prevH l (i + 1) = b.hi := by unfold prevH; rw [if_neg (by omega), Nat.add_sub_cancel, h]; rfl
theorem win_step {l : List Bd} {i : Nat} {b : Bd} (h : l[i]? = some b) : winFrom (prevH l i) (l.drop i) = (decide (0 ≤ b.lo ∧ prevH l i < b.lo ∧ b.lo ≤ b.hi ∧ b.hi ≤ 1048576) && winFrom (prevH l (i + 1)) (l.drop (i + 1))) := by
  rw [drop_of h, prevH_of h]; rfl
theorem win_no {l : List Bd} {i : Nat} {b : Bd} (h : l[i]? = some b) (hw : winFrom (-1) l = winFrom (prevH l i) (l.drop i)) (hn : ¬ (0 ≤ b.lo ∧ prevH l i < b.lo ∧ b.lo ≤ b.hi ∧ b.hi ≤ 1048576)) : Out.val (.bool false) = Out.val (.bool (winB l)) := by
  unfold winB; rw [hw, win_step h, decide_eq_false hn]; simp
theorem win_go {l : List Bd} {i : Nat} {b : Bd} (h : l[i]? = some b) (hw : winFrom (-1) l = winFrom (prevH l i) (l.drop i)) (hn : 0 ≤ b.lo ∧ prevH l i < b.lo ∧ b.lo ≤ b.hi ∧ b.hi ≤ 1048576) : winFrom (-1) l = winFrom (prevH l (i + 1)) (l.drop (i + 1)) := by
  rw [hw, win_step h, decide_eq_true hn]; rfl
theorem c_course_within (n a b : Int) : VPure Tryz.prog 150 [I n, I a, I b] (.bool (decide (a ≤ n ∧ n ≤ b))) := by
 intro H
 refine CV 15 Tryz.func150 ?_
 refine KK2 (QA (KK3 ?_))
 refine QM ?_
 refine QM ?_
 refine QQ (vgeq rfl rfl) rfl ?_
 refine QM ?_
 refine vsplitd (d := 10) rfl (fun h10 => ?_) (fun h10 => ?_)
 ·
  refine YM ?_
  refine YM ?_
  refine YY (vleq rfl rfl) rfl ?_
  refine QT ?_
  refine QA (vnil ?_)
  refine vret (V1 (H) Tryz.func150 ?_)
  exact ⟨obd (by omega), rfl⟩
 ·
  refine NO3 ?_
  refine QU ?_
  refine QA (vnil ?_)
  refine vret (V1 (H) Tryz.func150 ?_)
  exact ⟨obf (by omega), rfl⟩
theorem c_psvalid (p : Ps) : VPure Tryz.prog 115 [vPs p] (.bool (decide (okPs p))) := by
 intro H
 refine CV 12 Tryz.func115 ?_
 refine KK2 (BX fun b1 => ?_)
 refine QA (KK3 ?_)
 refine QF ?_
 refine QN ?_
 refine QQ (vcp rfl rfl rfl (c_region_CheckPoint ⟨_, _⟩)) rfl ?_
 refine QE ?_
 refine QM ?_
 refine vsplitd (d := 7) rfl (fun h7 => ?_) (fun h7 => ?_)
 ·
  refine YF ?_
  refine YL ?_
  refine YY (vcp rfl rfl rfl (c_course_within _ _ _)) rfl ?_
  refine QT ?_
  refine QA (vnil ?_)
  refine vret (V1 (H) Tryz.func115 ?_)
  exact ⟨obd (by unfold okPs; constructor; exact fun e => ⟨chkP_zero.1 h7, e⟩; exact fun e => e.2), rfl⟩
 ·
  refine NO3 ?_
  refine QU ?_
  refine QA (vnil ?_)
  refine vret (V1 (H) Tryz.func115 ?_)
  exact ⟨obf (by unfold okPs; rintro ⟨e, _⟩; exact h7 (chkP_zero.2 e)), rfl⟩
theorem c_Octant (v : Pt) : VPure Tryz.prog 149 [vP v] (I (octV v)) := by
 intro H
 refine CV 84 Tryz.func149 ?_
 refine KK2 (BX fun b1 => ?_)
 refine QA (vnil (vseq (KK2 ?_)))
 refine QF ?_
 refine QL ?_
 refine QQ (vcp rfl rfl rfl (c_course_within _ _ _)) rfl ?_
 refine QQ (vnotd rfl) rfl ?_
 refine QM ?_
 refine vsplitd (d := 11) rfl (fun h11 => ?_) (fun h11 => ?_)
 ·
  refine NO4 ?_
  refine QT (vnil ?_)
  refine vcondt rfl (KK2 (QA (vnil ?_)))
  refine vret (V1 (H) Tryz.func149 ?_)
  exact ⟨oI (by unfold octV; rw [if_pos (by omega)]), rfl⟩
 ·
  refine YF ?_
  refine YL ?_
  refine YY (vcp rfl rfl rfl (c_course_within _ _ _)) rfl ?_
  refine YY (vnotd rfl) rfl ?_
  refine QU (vnil ?_)
  refine vcondd rfl (fun h16 => ?_) (fun h16 => ?_)
  ·
   refine KK2 (QA (vnil ?_))
   refine vret (V1 (H) Tryz.func149 ?_)
   exact ⟨oI (by unfold octV; rw [if_pos (by omega)]), rfl⟩
  ·
   refine vskip (vseq ?_)
   refine DR [(.q, 0), (.q, 1), (.q, 2), (.q, 3), (.q, 4), (.q, 5), (.q, 6), (.q, 7), (.q, 8), (.q, 9), (.q, 10), (.q, 11)] Tryz.mixed ?_
   refine DF ?_
   refine DL ?_
   refine DF ?_
   refine DL ?_
   refine DD (vadd rfl rfl (by unfold InR; omega)) rfl ?_
   refine DF ?_
   refine DL ?_
   refine DF ?_
   refine DL ?_
   refine DD (vsub rfl rfl (by unfold InR; omega)) rfl ?_
   refine DA ?_
   refine DA (vdend rfl (vseq (KK2 ?_)))
   apply vjoinL (E' := [(1, ptr b1), (3, I (v.x + v.y)), (4, I (v.x - v.y)), (33, .bool (decide (0 ≤ v.y ∧ 0 ≤ v.x - v.y)))])
   ·
    intro hG27
    refine QF ?_
    refine QL ?_
    refine QQ (vgeq rfl rfl) rfl ?_
    refine QM ?_
    refine vsplitd (d := 30) rfl (fun h30 => ?_) (fun h30 => ?_)
    ·
     refine YM ?_
     refine YY (vgeq rfl rfl) rfl ?_
     refine QT ?_
     exact vlback hG27 ⟨rfl, rfl, rfl, (by first | exact andT h30 | exact andF h30), True.intro⟩
    ·
     refine NO2 ?_
     refine QU ?_
     exact vlback hG27 ⟨rfl, rfl, rfl, (by first | exact andT h30 | exact andF h30), True.intro⟩
   ·
    apply vjoinL (E' := [(1, ptr b1), (3, I (v.x + v.y)), (4, I (v.x - v.y)), (33, .bool (decide (0 ≤ v.y ∧ 0 ≤ v.x - v.y))), (40, .bool (decide (0 ≤ v.x ∧ v.x - v.y ≤ 0)))])
    ·
     intro hG34
     refine QF ?_
     refine QL ?_
     refine QQ (vgeq rfl rfl) rfl ?_
     refine QM ?_
     refine vsplitd (d := 37) rfl (fun h37 => ?_) (fun h37 => ?_)
     ·
      refine YM ?_
      refine YY (vleq rfl rfl) rfl ?_
      refine QT ?_
      exact vlback hG34 ⟨rfl, rfl, rfl, rfl, (by first | exact andT h37 | exact andF h37), True.intro⟩
     ·
      refine NO2 ?_
      refine QU ?_
      exact vlback hG34 ⟨rfl, rfl, rfl, rfl, (by first | exact andT h37 | exact andF h37), True.intro⟩
    ·
     apply vjoinL (E' := [(1, ptr b1), (3, I (v.x + v.y)), (4, I (v.x - v.y)), (33, .bool (decide (0 ≤ v.y ∧ 0 ≤ v.x - v.y))), (40, .bool (decide (0 ≤ v.x ∧ v.x - v.y ≤ 0))), (47, .bool (decide (v.x ≤ 0 ∧ 0 ≤ v.x + v.y)))])
     ·
      intro hG41
      refine QF ?_
      refine QL ?_
      refine QQ (vleq rfl rfl) rfl ?_
      refine QM ?_
      refine vsplitd (d := 44) rfl (fun h44 => ?_) (fun h44 => ?_)
      ·
       refine YM ?_
       refine YY (vgeq rfl rfl) rfl ?_
       refine QT ?_
       exact vlback hG41 ⟨rfl, rfl, rfl, rfl, rfl, (by first | exact andT h44 | exact andF h44), True.intro⟩
      ·
       refine NO2 ?_
       refine QU ?_
       exact vlback hG41 ⟨rfl, rfl, rfl, rfl, rfl, (by first | exact andT h44 | exact andF h44), True.intro⟩
     ·
      apply vjoinL (E' := [(1, ptr b1), (3, I (v.x + v.y)), (4, I (v.x - v.y)), (33, .bool (decide (0 ≤ v.y ∧ 0 ≤ v.x - v.y))), (40, .bool (decide (0 ≤ v.x ∧ v.x - v.y ≤ 0))), (47, .bool (decide (v.x ≤ 0 ∧ 0 ≤ v.x + v.y))), (54, .bool (decide (0 ≤ v.y ∧ v.x + v.y ≤ 0)))])
      ·
       intro hG48
       refine QF ?_
       refine QL ?_
       refine QQ (vgeq rfl rfl) rfl ?_
       refine QM ?_
       refine vsplitd (d := 51) rfl (fun h51 => ?_) (fun h51 => ?_)
       ·
        refine YM ?_
        refine YY (vleq rfl rfl) rfl ?_
        refine QT ?_
        exact vlback hG48 ⟨rfl, rfl, rfl, rfl, rfl, rfl, (by first | exact andT h51 | exact andF h51), True.intro⟩
       ·
        refine NO2 ?_
        refine QU ?_
        exact vlback hG48 ⟨rfl, rfl, rfl, rfl, rfl, rfl, (by first | exact andT h51 | exact andF h51), True.intro⟩
      ·
       apply vjoinL (E' := [(1, ptr b1), (3, I (v.x + v.y)), (4, I (v.x - v.y)), (33, .bool (decide (0 ≤ v.y ∧ 0 ≤ v.x - v.y))), (40, .bool (decide (0 ≤ v.x ∧ v.x - v.y ≤ 0))), (47, .bool (decide (v.x ≤ 0 ∧ 0 ≤ v.x + v.y))), (54, .bool (decide (0 ≤ v.y ∧ v.x + v.y ≤ 0))), (61, .bool (decide (v.y ≤ 0 ∧ v.x - v.y ≤ 0)))])
       ·
        intro hG55
        refine QF ?_
        refine QL ?_
        refine QQ (vleq rfl rfl) rfl ?_
        refine QM ?_
        refine vsplitd (d := 58) rfl (fun h58 => ?_) (fun h58 => ?_)
        ·
         refine YM ?_
         refine YY (vleq rfl rfl) rfl ?_
         refine QT ?_
         exact vlback hG55 ⟨rfl, rfl, rfl, rfl, rfl, rfl, rfl, (by first | exact andT h58 | exact andF h58), True.intro⟩
        ·
         refine NO2 ?_
         refine QU ?_
         exact vlback hG55 ⟨rfl, rfl, rfl, rfl, rfl, rfl, rfl, (by first | exact andT h58 | exact andF h58), True.intro⟩
       ·
        apply vjoinL (E' := [(1, ptr b1), (3, I (v.x + v.y)), (4, I (v.x - v.y)), (33, .bool (decide (0 ≤ v.y ∧ 0 ≤ v.x - v.y))), (40, .bool (decide (0 ≤ v.x ∧ v.x - v.y ≤ 0))), (47, .bool (decide (v.x ≤ 0 ∧ 0 ≤ v.x + v.y))), (54, .bool (decide (0 ≤ v.y ∧ v.x + v.y ≤ 0))), (61, .bool (decide (v.y ≤ 0 ∧ v.x - v.y ≤ 0))), (68, .bool (decide (v.x ≤ 0 ∧ 0 ≤ v.x - v.y)))])
        ·
         intro hG62
         refine QF ?_
         refine QL ?_
         refine QQ (vleq rfl rfl) rfl ?_
         refine QM ?_
         refine vsplitd (d := 65) rfl (fun h65 => ?_) (fun h65 => ?_)
         ·
          refine YM ?_
          refine YY (vgeq rfl rfl) rfl ?_
          refine QT ?_
          exact vlback hG62 ⟨rfl, rfl, rfl, rfl, rfl, rfl, rfl, rfl, (by first | exact andT h65 | exact andF h65), True.intro⟩
         ·
          refine NO2 ?_
          refine QU ?_
          exact vlback hG62 ⟨rfl, rfl, rfl, rfl, rfl, rfl, rfl, rfl, (by first | exact andT h65 | exact andF h65), True.intro⟩
        ·
         apply vjoinL (E' := [(1, ptr b1), (3, I (v.x + v.y)), (4, I (v.x - v.y)), (33, .bool (decide (0 ≤ v.y ∧ 0 ≤ v.x - v.y))), (40, .bool (decide (0 ≤ v.x ∧ v.x - v.y ≤ 0))), (47, .bool (decide (v.x ≤ 0 ∧ 0 ≤ v.x + v.y))), (54, .bool (decide (0 ≤ v.y ∧ v.x + v.y ≤ 0))), (61, .bool (decide (v.y ≤ 0 ∧ v.x - v.y ≤ 0))), (68, .bool (decide (v.x ≤ 0 ∧ 0 ≤ v.x - v.y))), (75, .bool (decide (0 ≤ v.x ∧ v.x + v.y ≤ 0)))])
         ·
          intro hG69
          refine QF ?_
          refine QL ?_
          refine QQ (vgeq rfl rfl) rfl ?_
          refine QM ?_
          refine vsplitd (d := 72) rfl (fun h72 => ?_) (fun h72 => ?_)
          ·
           refine YM ?_
           refine YY (vleq rfl rfl) rfl ?_
           refine QT ?_
           exact vlback hG69 ⟨rfl, rfl, rfl, rfl, rfl, rfl, rfl, rfl, rfl, (by first | exact andT h72 | exact andF h72), True.intro⟩
          ·
           refine NO2 ?_
           refine QU ?_
           exact vlback hG69 ⟨rfl, rfl, rfl, rfl, rfl, rfl, rfl, rfl, rfl, (by first | exact andT h72 | exact andF h72), True.intro⟩
         ·
          refine QB ?_
          refine QM (vnil (vblock ?_))
          refine vloop1 ?_
          refine KK2 (QS (vnil (vseq ?_)))
          refine vcondt rfl (vskip (vseq (vblock (KK2 (QM ?_)))))
          refine QQ (vixa1 rfl rfl (by omega) rfl) rfl ?_
          refine QA ?_
          refine QA (KK3 ?_)
          refine QM (vnil ?_)
          refine vcondd rfl (fun h81 => ?_) (fun h81 => ?_)
          ·
           refine KK2 (QM ?_)
           refine QA (vnil ?_)
           refine vret (V1 (H) Tryz.func149 ?_)
           exact ⟨oI (by unfold octV; rw [if_neg (by omega)]; (repeat' split) <;> omega), rfl⟩
          ·
           refine vskip (vinblock (vregion (QQ (vadd rfl rfl (by unfold InR; omega)) rfl ?_)))
           refine QM (vnil ?_)
           refine vinloop1 ?_
           refine KK2 (QS (vnil (vseq ?_)))
           refine vcondt rfl (vskip (vseq (vblock (KK2 (QM ?_)))))
           refine QQ (vixa1 rfl rfl (by omega) rfl) rfl ?_
           refine QA ?_
           refine QA (KK3 ?_)
           refine QM (vnil ?_)
           refine vcondd rfl (fun h81 => ?_) (fun h81 => ?_)
           ·
            refine KK2 (QM ?_)
            refine QA (vnil ?_)
            refine vret (V1 (H) Tryz.func149 ?_)
            exact ⟨oI (by unfold octV; rw [if_neg (by omega)]; (repeat' split) <;> omega), rfl⟩
           ·
            refine vskip (vinblock (vregion (QQ (vadd rfl rfl (by unfold InR; omega)) rfl ?_)))
            refine QM (vnil ?_)
            refine vinloop1 ?_
            refine KK2 (QS (vnil (vseq ?_)))
            refine vcondt rfl (vskip (vseq (vblock (KK2 (QM ?_)))))
            refine QQ (vixa1 rfl rfl (by omega) rfl) rfl ?_
            refine QA ?_
            refine QA (KK3 ?_)
            refine QM (vnil ?_)
            refine vcondd rfl (fun h81 => ?_) (fun h81 => ?_)
            ·
             refine KK2 (QM ?_)
             refine QA (vnil ?_)
             refine vret (V1 (H) Tryz.func149 ?_)
             exact ⟨oI (by unfold octV; rw [if_neg (by omega)]; (repeat' split) <;> omega), rfl⟩
            ·
             refine vskip (vinblock (vregion (QQ (vadd rfl rfl (by unfold InR; omega)) rfl ?_)))
             refine QM (vnil ?_)
             refine vinloop1 ?_
             refine KK2 (QS (vnil (vseq ?_)))
             refine vcondt rfl (vskip (vseq (vblock (KK2 (QM ?_)))))
             refine QQ (vixa1 rfl rfl (by omega) rfl) rfl ?_
             refine QA ?_
             refine QA (KK3 ?_)
             refine QM (vnil ?_)
             refine vcondd rfl (fun h81 => ?_) (fun h81 => ?_)
             ·
              refine KK2 (QM ?_)
              refine QA (vnil ?_)
              refine vret (V1 (H) Tryz.func149 ?_)
              exact ⟨oI (by unfold octV; rw [if_neg (by omega)]; (repeat' split) <;> omega), rfl⟩
             ·
              refine vskip (vinblock (vregion (QQ (vadd rfl rfl (by unfold InR; omega)) rfl ?_)))
              refine QM (vnil ?_)
              refine vinloop1 ?_
              refine KK2 (QS (vnil (vseq ?_)))
              refine vcondt rfl (vskip (vseq (vblock (KK2 (QM ?_)))))
              refine QQ (vixa1 rfl rfl (by omega) rfl) rfl ?_
              refine QA ?_
              refine QA (KK3 ?_)
              refine QM (vnil ?_)
              refine vcondd rfl (fun h81 => ?_) (fun h81 => ?_)
              ·
               refine KK2 (QM ?_)
               refine QA (vnil ?_)
               refine vret (V1 (H) Tryz.func149 ?_)
               exact ⟨oI (by unfold octV; rw [if_neg (by omega)]; (repeat' split) <;> omega), rfl⟩
              ·
               refine vskip (vinblock (vregion (QQ (vadd rfl rfl (by unfold InR; omega)) rfl ?_)))
               refine QM (vnil ?_)
               refine vinloop1 ?_
               refine KK2 (QS (vnil (vseq ?_)))
               refine vcondt rfl (vskip (vseq (vblock (KK2 (QM ?_)))))
               refine QQ (vixa1 rfl rfl (by omega) rfl) rfl ?_
               refine QA ?_
               refine QA (KK3 ?_)
               refine QM (vnil ?_)
               refine vcondd rfl (fun h81 => ?_) (fun h81 => ?_)
               ·
                refine KK2 (QM ?_)
                refine QA (vnil ?_)
                refine vret (V1 (H) Tryz.func149 ?_)
                exact ⟨oI (by unfold octV; rw [if_neg (by omega)]; (repeat' split) <;> omega), rfl⟩
               ·
                refine vskip (vinblock (vregion (QQ (vadd rfl rfl (by unfold InR; omega)) rfl ?_)))
                refine QM (vnil ?_)
                refine vinloop1 ?_
                refine KK2 (QS (vnil (vseq ?_)))
                refine vcondt rfl (vskip (vseq (vblock (KK2 (QM ?_)))))
                refine QQ (vixa1 rfl rfl (by omega) rfl) rfl ?_
                refine QA ?_
                refine QA (KK3 ?_)
                refine QM (vnil ?_)
                refine vcondd rfl (fun h81 => ?_) (fun h81 => ?_)
                ·
                 refine KK2 (QM ?_)
                 refine QA (vnil ?_)
                 refine vret (V1 (H) Tryz.func149 ?_)
                 exact ⟨oI (by unfold octV; rw [if_neg (by omega)]; (repeat' split) <;> omega), rfl⟩
                ·
                 refine vskip (vinblock (vregion (QQ (vadd rfl rfl (by unfold InR; omega)) rfl ?_)))
                 refine QM (vnil ?_)
                 refine vinloop1 ?_
                 refine KK2 (QS (vnil (vseq ?_)))
                 refine vcondf rfl ?_
                 refine vexit (k' := _) rfl ?_
                 refine KK2 (QA (vnil ?_))
                 refine vret (V1 (H) Tryz.func149 ?_)
                 exact ⟨oI (by unfold octV; rw [if_neg (by omega)]; (repeat' split) <;> omega), rfl⟩
end Go.Proofs.YtoebpndlbldfcaaGreatDoor
namespace Go.Proofs.YtoebpndlbldfcaaGreatDoor
open Go
set_option maxRecDepth 100000
attribute [local irreducible] tightP hullP rootP farP rows endsOf sqL sqP twoE
attribute [local irreducible] pickL
end Go.Proofs.YtoebpndlbldfcaaGreatDoor
namespace Go.Proofs.YtoebpndlbldfcaaGreatDoor
open Go
set_option maxRecDepth 100000
attribute [local irreducible] tightP hullP rootP farP rows endsOf sqL sqP twoE pickL
theorem turn_bd {a b c : Pt} (ha : a.sm 1048576) (hb : b.sm 1048576) (hc : c.sm 1048576) : (-4398046511104 ≤ (b.x - a.x) * (c.y - a.y) ∧ (b.x - a.x) * (c.y - a.y) ≤ 4398046511104) ∧ (-4398046511104 ≤ (b.y - a.y) * (c.x - a.x) ∧ (b.y - a.y) * (c.x - a.x) ≤ 4398046511104) := by
  unfold Pt.sm at *
  have h1 := abs_mul_bd (a := b.x - a.x) (b := c.y - a.y) (m := 2097152) (k := 2097152) (by omega) (by omega)
  have h2 := abs_mul_bd (a := b.y - a.y) (b := c.x - a.x) (m := 2097152) (k := 2097152) (by omega) (by omega)
  omega
theorem c_left (a b c : Pt) (ha : a.sm 1048576) (hb : b.sm 1048576) (hc : c.sm 1048576) : VPure Tryz.prog 238 [vP a, vP b, vP c] (I (turnP a b c)) := by
 have hbd := turn_bd ha hb hc
 unfold Pt.sm at ha hb hc
 intro H
 refine CV 30 Tryz.func238 ?_
 refine KK2 (BX fun b1 => ?_)
 refine BX fun b2 => ?_
 refine BX fun b3 => ?_
 refine QA (KK3 ?_)
 refine QF ?_
 refine QL ?_
 refine QF ?_
 refine QL ?_
 refine QQ (vsub rfl rfl (by unfold InR; omega)) rfl ?_
 refine QF ?_
 refine QL ?_
 refine QF ?_
 refine QL ?_
 refine QQ (vsub rfl rfl (by unfold InR; omega)) rfl ?_
 refine QQ (vmul rfl rfl (by unfold InR; omega)) rfl ?_
 refine QF ?_
 refine QL ?_
 refine QF ?_
 refine QL ?_
 refine QQ (vsub rfl rfl (by unfold InR; omega)) rfl ?_
 refine QF ?_
 refine QL ?_
 refine QF ?_
 refine QL ?_
 refine QQ (vsub rfl rfl (by unfold InR; omega)) rfl ?_
 refine QQ (vmul rfl rfl (by unfold InR; omega)) rfl ?_
 refine QQ (vsub rfl rfl (by unfold InR; omega)) rfl ?_
 refine QA (vnil ?_)
 refine vret (V1 (H) Tryz.func238 ?_)
 exact ⟨rfl, rfl⟩
theorem n_sides (oa : Option Addr) (n c : Nat) : VNew Tryz.prog 226 [sli oa n c] (blk [sli oa n c] 132) (fun b => .func (.func 242) #[] #[ptr b]) := by
 intro H
 refine CV 4 Tryz.func226 ?_
 refine KK2 (BX fun b1 => ?_)
 refine QA (KK3 ?_)
 refine QQ (vmf rfl) rfl ?_
 refine QA (vnil ?_)
 refine vret (V1 ((b1, blk [sli oa n c] 132) :: H) Tryz.func226 ?_)
 exact ⟨_, rfl, rfl⟩
theorem it_sides (f : List Pt) (oa : Option Addr) (n c : Nat) (hn : f.length = n) (hmax : n ≤ 9223372036854775807) (H : Heap) [SlO H oa 2 encP f] (b : Nat) : VIt Tryz.prog 242 [ptr b] (fun s => [vP s.1, vP s.2]) (sidesL f) ((b, blk [sli oa n c] 132) :: H) := by
 intro yf ya yc J Jx Hc0 hJ0 hy
 change VCall _ _ _ ((b, blk [sli oa n c] 132) :: (H ++ Hc0)) _
 refine CV 25 Tryz.func242 ?_
 refine KK2 (QL ?_)
 refine QQ (vlen rfl) rfl ?_
 refine QM (vnil (vblock ?_))
 refine vwhile (σ := Int × Heap) (fun ⟨i, Hc⟩ => (n - i).toNat) (fun ⟨i, Hc⟩ => [(0, .func yf ya yc), (1, ptr b), (5, sli oa n c), (6, I n), (7, I i)]) (fun ⟨i, Hc⟩ => (b, blk [sli oa n c] 132) :: (H ++ Hc)) (fun ⟨i, Hc⟩ => (0 ≤ i ∧ i ≤ n) ∧ J ((sidesL f).take i.toNat) Hc) (0, Hc0) ⟨⟨by omega, by omega⟩, hJ0⟩ ⟨rfl, rfl, rfl, rfl, rfl, True.intro⟩ sb ?_
 rintro ⟨i, Hc⟩ ⟨⟨hi0, hin⟩, hJ⟩ IH
 change VRun _ _ _ _ _ [(0, .func yf ya yc), (1, ptr b), (5, sli oa n c), (6, I n), (7, I i)] _ ((b, blk [sli oa n c] 132) :: (H ++ Hc)) _
 refine KK2 (QS (vnil (vseq ?_)))
 refine vcondd rfl (fun h8 => ?_) (fun h8 => ?_)
 ·
  obtain ⟨z, hz⟩ := get_of_lt f (i := i.toNat) (by omega)
  have hmb := mod_bd (i := i + 1) (n := n) (by omega)
  obtain ⟨zk, hzk⟩ := get_of_lt f (i := ((i + 1) % (n : Int)).toNat) (by omega)
  have hs : (sidesL f)[i.toNat]? = some (z, zk) := by rw [sides_get (by omega), atP_of hz, ← nxt_int hn hi0, atP_of hzk]
  obtain ⟨post, hps⟩ := split_at hs
  refine vskip (vseq (vblock (KK2 (QM ?_))))
  refine QQ (visg (enc := encP) rfl rfl (by omega) hz) rfl ?_
  refine QQ (vldS (enc := encP) rfl hz) rfl ?_
  refine AL fun b1 => ?_
  refine QA ?_
  refine SN (vnil (vseq ?_))
  refine DR [(.q, 0), (.q, 1), (.q, 2), (.q, 3), (.q, 4), (.q, 5), (.q, 6), (.q, 7), (.q, 8), (.q, 9), (.w, 10), (.q, 11)] Tryz.mixed ?_
  refine DM ?_
  refine DN ?_
  refine DL ?_
  refine DM ?_
  refine DD (vadd rfl rfl (by unfold InR; omega)) rfl ?_
  refine DL ?_
  refine DD (vlen rfl) rfl ?_
  refine DD (vremp rfl rfl (by omega) (by omega)) rfl ?_
  refine DD (visg (enc := encP) rfl rfl hmb hzk) rfl ?_
  refine DD (vldS (enc := encP) rfl hzk) rfl ?_
  refine vdw rfl (mone rfl) (vcy rfl rfl (VY.l2 (hy _ (z, zk) _ hps _ hJ))) rfl rfl ?_
  rintro _ _ ⟨bb, rfl, Hc, rfl, hJ⟩
  rcases bb with _ | _
  ·
   refine DD (vnot rfl) rfl (vdend rfl ?_)
   refine vcondt rfl ?_
   refine vret (vr0 (H' := (b, blk [sli oa n c] 132) :: (H ++ Hc)) Tryz.func242 rfl  sb ?_)
   exact ⟨rfl, Hc, rfl, .inr hJ⟩
  ·
   refine DD (vnot rfl) rfl (vdend rfl ?_)
   refine vcondf rfl (vskip (vinblock (vregion (QQ (vadd rfl rfl (by unfold InR; omega)) rfl ?_))))
   refine QM (vnil ?_)
   exact vback (IH (i + 1, Hc) ⟨⟨by omega, by omega⟩, by rw [show (i + 1).toNat = i.toNat + 1 by omega, take_succ_of hs]; exact hJ⟩ (by show (_ : Int).toNat < (_ : Int).toNat; omega)) ⟨rfl, rfl, rfl, rfl, rfl, True.intro⟩ sb
 ·
  refine vexit (k' := _) rfl ?_
  refine vend (vr0 (H' := (b, blk [sli oa n c] 132) :: (H ++ Hc)) Tryz.func242 rfl  sb ?_)
  exact ⟨rfl, Hc, rfl, .inl (by rw [List.take_of_length_le (by rw [sides_len]; omega)] at hJ; exact hJ)⟩
def FRow (f : List Pt) (i : Nat) (m : Int) : Prop := ∀ j : Nat, (j : Int) < m → j < f.length → j ≠ i → j ≠ nxt f i → 0 < turnP (atP f i) (atP f (nxt f i)) (atP f j)
def FRows (f : List Pt) (m : Int) : Prop := ∀ i : Nat, (i : Int) < m → i < f.length → FRow f i f.length
theorem FRow.next {f : List Pt} {i : Nat} {m : Int} (h : FRow f i m) (h0 : 0 ≤ m) (hx : m.toNat ≠ i → m.toNat ≠ nxt f i → 0 < turnP (atP f i) (atP f (nxt f i)) (atP f m.toNat)) : FRow f i (m + 1) := by
  intro j hj hl h1 h2
  by_cases e : (j : Int) = m
  · have e2 : j = m.toNat := by omega
    subst e2; exact hx h1 h2
  · exact h j (by omega) hl h1 h2
theorem FRows.next {f : List Pt} {m : Int} (h : FRows f m) (h0 : 0 ≤ m) (hx : FRow f m.toNat f.length) : FRows f (m + 1) := by
  intro i hi hl
  by_cases e : (i : Int) = m
  · have e2 : i = m.toNat := by omega
    subst e2; exact hx
  · exact h i (by omega) hl
theorem field_of {f : List Pt} {m : Int} (h1 : 3 ≤ f.length ∧ f.length ≤ 8) (h2 : ∀ p ∈ f, p.ok) (h3 : FRows f m) (hm : (f.length : Int) ≤ m) : FieldOk f :=
  ⟨h1, h2, fun i j hi hj h4 h5 => h3 i (by omega) hi j (by omega) hj h4 h5⟩
theorem field_bad {f : List Pt} {i j : Nat} (hi : i < f.length) (hj : j < f.length) (h1 : j ≠ i) (h2 : j ≠ nxt f i) (h : turnP (atP f i) (atP f (nxt f i)) (atP f j) ≤ 0) : ¬ FieldOk f := fun hf => by
  have := hf.2.2 i j hi hj h1 h2; omega
theorem okL_sm {f : List Pt} (h : ∀ p ∈ f, p.ok) : ∀ p ∈ f, p.sm 1048576 := fun p hp => (h p hp).sm.mono (by decide)
theorem take_all {f : List Pt} {n : Nat} {i : Int} (hn : f.length = n) (hi : ¬ i < n) (h : ∀ p ∈ f.take i.toNat, p.ok) : ∀ p ∈ f, p.ok := by
  rw [List.take_of_length_le (by omega)] at h; exact h
theorem take_next {f : List Pt} {i : Int} {z : Pt} (h0 : 0 ≤ i) (hz : f[i.toNat]? = some z) (h : ∀ p ∈ f.take i.toNat, p.ok) (hok : z.ok) : ∀ p ∈ f.take (i + 1).toNat, p.ok := by
  rw [show (i + 1).toNat = i.toNat + 1 by omega, take_succ_of hz]
  intro p hp
  rcases List.mem_append.1 hp with hp | hp
  · exact h p hp
  · rw [List.mem_singleton.1 hp]; exact hok
theorem q_CheckField (f : List Pt) (oa : Option Addr) (n c : Nat) (hn : f.length = n) (hmax : n ≤ 9223372036854775807) (H : Heap) [SlO H oa 2 encP f] : VHas Tryz.prog 219 [sli oa n c] (I (chkF f)) H H := by
  refine CV 63 Tryz.func219 ?_
  refine KK2 (QA (vnil (vseq (KK2 ?_))))
  refine QM ?_
  refine QQ (vlen rfl) rfl ?_
  refine QQ (vcp rfl rfl rfl (c_region_within _ _ _)) rfl ?_
  refine QQ (vnotd rfl) rfl (vnil ?_)
  refine vcondd rfl (fun h13 => ?_) (fun h13 => ?_)
  · skip
    refine KK2 (QA (vnil ?_))
    refine vret (V1 (H) Tryz.func219 ?_)
    exact ⟨oI (chkF_no (fun h => by have := h.1; omega)).symm, rfl⟩
  · skip
    refine vskip (vseq (KK2 (QM ?_)))
    refine QQ (vlen rfl) rfl ?_
    refine QM (vnil (vblock ?_))
    refine vwhile (σ := Int) (fun i => (n - i).toNat) (fun i => [(0, sli oa n c), (2, I 0), (14, sli oa n c), (15, I n), (16, I i)]) (fun i => H) (fun i => (0 ≤ i ∧ i ≤ n) ∧ ∀ p ∈ f.take i.toNat, p.ok) 0 ⟨⟨by omega, by omega⟩, fun p hp => by simp at hp⟩ ⟨rfl, rfl, rfl, rfl, rfl, True.intro⟩ sb ?_
    rintro i ⟨⟨hi0, hin⟩, hok⟩ IH
    change VRun _ _ _ _ _ [(0, sli oa n c), (2, I 0), (14, sli oa n c), (15, I n), (16, I i)] _ (H) _
    refine KK2 (QS (vnil (vseq ?_)))
    refine vcondd rfl (fun h17 => ?_) (fun h17 => ?_)
    · skip
      obtain ⟨z, hz⟩ := get_of_lt f (i := i.toNat) (by omega)
      refine vskip (vseq (vblock (KK2 (QQ (visg (enc := encP) rfl rfl (by omega) hz) rfl ?_))))
      refine QQ (vldS (enc := encP) rfl hz) rfl ?_
      refine AL fun b1 => ?_
      refine SN (KK3 ?_)
      refine QN ?_
      refine QQ (vcp rfl rfl rfl (c_region_CheckPoint z)) rfl ?_
      refine QG (vnil ?_)
      refine vcondd rfl (fun h22 => ?_) (fun h22 => ?_)
      · skip
        refine KK2 (QA (vnil ?_))
        refine vret (V1 (H) Tryz.func219 ?_)
        exact ⟨oI (chkF_no (fun h => (chkP_nz.1 h22) (h.2.1 z (List.mem_of_getElem? hz)))).symm, rfl⟩
      · skip
        refine vskip (vinblock (vregion (QQ (vadd rfl rfl (by unfold InR; omega)) rfl ?_)))
        refine QM (vnil ?_)
        exact vback (IH (i + 1) ⟨⟨by omega, by omega⟩, take_next hi0 hz hok (chkP_zero.1 (nn h22))⟩ (by show (_ : Int).toNat < (_ : Int).toNat; omega)) ⟨rfl, rfl, rfl, rfl, rfl, True.intro⟩ sb
    · skip
      have hokF := take_all hn h17 hok
      have hsmF := okL_sm hokF
      refine vexit (k' := _) rfl ?_
      refine vseq (KK2 (QM ?_))
      refine QQ (vlen rfl) rfl ?_
      refine QM (vnil (vblock ?_))
      refine vwhile (σ := Int) (fun i => (n - i).toNat) (fun i => [(0, sli oa n c), (2, I 0), (24, sli oa n c), (25, I n), (26, I i)]) (fun i => H) (fun i => (0 ≤ i ∧ i ≤ n) ∧ FRows f i) 0 ⟨⟨by omega, by omega⟩, fun i hi => absurd hi (by omega)⟩ ⟨rfl, rfl, rfl, rfl, rfl, True.intro⟩ sb ?_
      rintro i ⟨⟨hi0, hin⟩, hrows⟩ IH
      change VRun _ _ _ _ _ [(0, sli oa n c), (2, I 0), (24, sli oa n c), (25, I n), (26, I i)] _ (H) _
      refine KK2 (QS (vnil (vseq ?_)))
      refine vcondd rfl (fun h27 => ?_) (fun h27 => ?_)
      · skip
        obtain ⟨z, hz⟩ := get_of_lt f (i := i.toNat) (by omega)
        have hmb := mod_bd (i := i + 1) (n := n) (by omega)
        obtain ⟨zk, hzk⟩ := get_of_lt f (i := ((i + 1) % (n : Int)).toNat) (by omega)
        refine vskip (vseq (vblock (KK2 (QM ?_))))
        refine QQ (visg (enc := encP) rfl rfl (by omega) hz) rfl ?_
        refine QQ (vldS (enc := encP) rfl hz) rfl ?_
        refine AL fun b2 => ?_
        refine QA ?_
        refine SN (KK3 ?_)
        refine QM ?_
        refine QQ (vadd rfl rfl (by unfold InR; omega)) rfl ?_
        refine QM ?_
        refine QQ (vlen rfl) rfl ?_
        refine QQ (vremp rfl rfl (by omega) (by omega)) rfl ?_
        refine QA (KK3 ?_)
        refine QM ?_
        refine QQ (vlen rfl) rfl ?_
        refine QM (vnil (vblock ?_))
        refine vwhile (σ := Int) (fun j => (n - j).toNat) (fun j => [(0, sli oa n c), (2, I 0), (5, I i), (6, ptr b2), (7, I ((i + 1) % (n : Int))), (24, sli oa n c), (25, I n), (26, I i), (36, sli oa n c), (37, I n), (38, I j)]) (fun j => (b2, blk [I z.x, I z.y] 44) :: H) (fun j => (0 ≤ j ∧ j ≤ n) ∧ FRow f i.toNat j) 0 ⟨⟨by omega, by omega⟩, fun j hj => absurd hj (by omega)⟩ ⟨rfl, rfl, rfl, rfl, rfl, rfl, rfl, rfl, rfl, rfl, rfl, True.intro⟩ sb ?_
        rintro j ⟨⟨hj0, hjn⟩, hrow⟩ IH2
        change VRun _ _ _ _ _ [(0, sli oa n c), (2, I 0), (5, I i), (6, ptr b2), (7, I ((i + 1) % (n : Int))), (24, sli oa n c), (25, I n), (26, I i), (36, sli oa n c), (37, I n), (38, I j)] _ ((b2, blk [I z.x, I z.y] 44) :: H) _
        refine KK2 (QS (vnil (vseq ?_)))
        refine vcondd rfl (fun h39 => ?_) (fun h39 => ?_)
        · skip
          obtain ⟨zj, hzj⟩ := get_of_lt f (i := j.toNat) (by omega)
          refine vskip (vseq (vblock (KK2 (QM ?_))))
          refine QQ (visg (enc := encP) rfl rfl (by omega) hzj) rfl ?_
          refine QQ (vldS (enc := encP) rfl hzj) rfl ?_
          refine AL fun b3 => ?_
          refine QA ?_
          refine SN (vnil (vseq ?_))
          refine DR [(.q, 0), (.q, 1), (.q, 2), (.q, 3), (.q, 4), (.q, 5), (.q, 6), (.q, 7), (.q, 8), (.q, 9), (.q, 10), (.q, 11), (.q, 12), (.q, 13), (.q, 14), (.q, 15), (.q, 16), (.q, 17)] Tryz.mixed ?_
          refine DM ?_
          refine DM ?_
          refine DG ?_
          refine DM ?_
          refine vdsplitd (d := 46) rfl (fun h46 => ?_) (fun h46 => ?_)
          · skip
            refine WM ?_
            refine WM ?_
            refine WG ?_
            refine DT ?_
            refine DM ?_
            refine vdsplitd (d := 51) rfl (fun h51 => ?_) (fun h51 => ?_)
            · skip
              refine WN ?_
              refine WM ?_
              refine WM ?_
              refine WW (visg (enc := encP) rfl rfl hmb hzk) rfl ?_
              refine WW (vldS (enc := encP) rfl hzk) rfl ?_
              refine WN ?_
              refine WW (vcp rfl rfl rfl (c_left z zk zj (hsmF _ (List.mem_of_getElem? hz)) (hsmF _ (List.mem_of_getElem? hzk)) (hsmF _ (List.mem_of_getElem? hzj)))) rfl ?_
              refine WW (vleq rfl rfl) rfl ?_
              refine DT (vdend rfl ?_)
              refine vcondd rfl (fun h60 => ?_) (fun h60 => ?_)
              · skip
                refine KK2 (QA (vnil ?_))
                refine vret (V1 (H) Tryz.func219 ?_)
                exact ⟨oI (chkF_no (field_bad (i := i.toNat) (j := j.toNat) (by omega) (by omega) (by omega) (fun e => (show j ≠ ((i + 1) % (n : Int)) by omega) (by rw [← nxt_int hn hi0] at e; omega)) (by rw [← nxt_int hn hi0, atP_of hz, atP_of hzk, atP_of hzj]; exact h60))).symm, rfl⟩
              · skip
                refine vskip (vinblock (vregion (QQ (vadd rfl rfl (by unfold InR; omega)) rfl ?_)))
                refine QM (vnil ?_)
                exact vback (IH2 (j + 1) ⟨⟨by omega, by omega⟩, hrow.next hj0 (fun n1 n2 => by
                    first
                    | exact absurd (show j.toNat = i.toNat by omega) n1
                    | exact absurd (by rw [← nxt_int hn hi0]; exact congrArg Int.toNat (show j = ((i + 1) % (n : Int)) by omega)) n2
                    | (have hlt := Int.not_le.1 h60
                       rw [← atP_of hz, ← atP_of hzk, ← atP_of hzj, nxt_int hn hi0] at hlt; exact hlt))⟩ (by show (_ : Int).toNat < (_ : Int).toNat; omega)) ⟨rfl, rfl, rfl, rfl, rfl, rfl, rfl, rfl, rfl, rfl, rfl, True.intro⟩ sb
            · skip
              refine NP4 ?_
              refine NP4 ?_
              refine DU (vdend rfl ?_)
              refine vcondf rfl (vskip (vinblock (vregion (QQ (vadd rfl rfl (by unfold InR; omega)) rfl ?_))))
              refine QM (vnil ?_)
              exact vback (IH2 (j + 1) ⟨⟨by omega, by omega⟩, hrow.next hj0 (fun n1 n2 => by
                  first
                  | exact absurd (show j.toNat = i.toNat by omega) n1
                  | exact absurd (by rw [← nxt_int hn hi0]; exact congrArg Int.toNat (show j = ((i + 1) % (n : Int)) by omega)) n2
                  | (have hlt := Int.not_le.1 h60
                     rw [← atP_of hz, ← atP_of hzk, ← atP_of hzj, nxt_int hn hi0] at hlt; exact hlt))⟩ (by show (_ : Int).toNat < (_ : Int).toNat; omega)) ⟨rfl, rfl, rfl, rfl, rfl, rfl, rfl, rfl, rfl, rfl, rfl, True.intro⟩ sb
          · skip
            refine NP3 ?_
            refine DU ?_
            refine DM ?_
            refine NP4 ?_
            refine NP4 ?_
            refine DU (vdend rfl ?_)
            refine vcondf rfl (vskip (vinblock (vregion (QQ (vadd rfl rfl (by unfold InR; omega)) rfl ?_))))
            refine QM (vnil ?_)
            exact vback (IH2 (j + 1) ⟨⟨by omega, by omega⟩, hrow.next hj0 (fun n1 n2 => by
                first
                | exact absurd (show j.toNat = i.toNat by omega) n1
                | exact absurd (by rw [← nxt_int hn hi0]; exact congrArg Int.toNat (show j = ((i + 1) % (n : Int)) by omega)) n2
                | (have hlt := Int.not_le.1 h60
                   rw [← atP_of hz, ← atP_of hzk, ← atP_of hzj, nxt_int hn hi0] at hlt; exact hlt))⟩ (by show (_ : Int).toNat < (_ : Int).toNat; omega)) ⟨rfl, rfl, rfl, rfl, rfl, rfl, rfl, rfl, rfl, rfl, rfl, True.intro⟩ sb
        · skip
          refine vexit (k' := _) rfl ?_
          refine vinblock (vregion (QQ (vadd rfl rfl (by unfold InR; omega)) rfl ?_))
          refine QM (vnil ?_)
          exact vback (IH (i + 1) ⟨⟨by omega, by omega⟩, hrows.next hi0 (fun j hj hl h1 h2 => hrow j (by omega) hl h1 h2)⟩ (by show (_ : Int).toNat < (_ : Int).toNat; omega)) ⟨rfl, rfl, rfl, rfl, rfl, True.intro⟩ sb
      · skip
        refine vexit (k' := _) rfl ?_
        refine KK2 (QA (vnil ?_))
        refine vret (V1 (H) Tryz.func219 ?_)
        exact ⟨oI (chkF_ok (field_of (by omega) hokF hrows (by omega))).symm, rfl⟩
theorem fst2F_z {a b : Int} (h : ¬ fst2 a b ≠ 0) : a = 0 ∧ b = 0 := by unfold fst2 at h; split at h <;> omega
theorem fz1 {f : List Pt} {r : Rg} (h : ¬ fst2 (chkF f) (chkR r) ≠ 0) : FieldOk f := chkF_zero.1 (fst2F_z h).1
theorem fz2 {f : List Pt} {r : Rg} (h : ¬ fst2 (chkF f) (chkR r) ≠ 0) : r.ok := chkR_zero.1 (fst2F_z h).2
def ne (l : List Pt) : Bool := match l with | [] => false | _ :: _ => true
end Go.Proofs.YtoebpndlbldfcaaGreatDoor
namespace Go.Proofs.YtoebpndlbldfcaaGreatDoor
open Go
set_option maxRecDepth 100000
theorem tdiv_bd {a b : Int} (hb : 0 < b) (ha : -2199023255552 ≤ a ∧ a ≤ 2199023255552) : -2199023255553 ≤ a.tdiv b ∧ a.tdiv b ≤ 2199023255553 := by
  have h := down_eq (a := a) hb
  have h2 := ediv_bd hb (by omega) ha
  split at h <;> omega
theorem tdiv_bdn {a b : Int} (hb : b < 0) (ha : -2199023255552 ≤ a ∧ a ≤ 2199023255552) : -2199023255553 ≤ a.tdiv b ∧ a.tdiv b ≤ 2199023255553 := by
  have h := tdiv_bd (a := -a) (b := -b) (by omega) (by omega)
  rw [Int.neg_tdiv, Int.tdiv_neg, Int.neg_neg] at h; exact h
theorem c_down (a b : Int) (hb : 0 < b) (ha : -2199023255552 ≤ a ∧ a ≤ 2199023255552) : VPure Tryz.prog 228 [I a, I b] (I (a / b)) := by
 have hq := tdiv_bd hb ha
 intro H
 refine CV 16 Tryz.func228 ?_
 refine KK2 (QA (KK3 ?_))
 refine QM ?_
 refine QM ?_
 refine QQ (vquo rfl rfl (by omega) (by unfold InR; omega)) rfl ?_
 refine QA (vnil (vseq (KK2 ?_)))
 refine QM ?_
 refine QM ?_
 refine QQ (vrem rfl rfl (by omega)) rfl ?_
 refine QS (vnil ?_)
 refine vcondd rfl (fun h12 => ?_) (fun h12 => ?_)
 ·
  refine vregion (QM ?_)
  refine QQ (vsub rfl rfl (by unfold InR; omega)) rfl ?_
  refine QA (KK3 ?_)
  refine QM ?_
  refine QA (vnil ?_)
  refine vret (V1 (H) Tryz.func228 ?_)
  exact ⟨oI (by rw [← down_eq hb, if_pos h12]), rfl⟩
 ·
  refine vskip (KK2 (QM ?_))
  refine QA (vnil ?_)
  refine vret (V1 (H) Tryz.func228 ?_)
  exact ⟨oI (by rw [← down_eq hb, if_neg h12]), rfl⟩
theorem c_up (a b : Int) (hb : 0 < b) (ha : -2199023255552 ≤ a ∧ a ≤ 2199023255552) : VPure Tryz.prog 227 [I a, I b] (I (-((-a) / b))) := by
 have he := ediv_bd (n := -a) hb (m := 2199023255552) (by omega) (by omega)
 intro H
 refine CV 10 Tryz.func227 ?_
 refine KK2 (QA (KK3 ?_))
 refine QM ?_
 refine QQ (vneg rfl (by unfold InR; omega)) rfl ?_
 refine QM ?_
 refine QQ (vcp rfl rfl rfl (c_down _ _ (by omega) (by omega))) rfl ?_
 refine QQ (vneg rfl (by unfold InR; omega)) rfl ?_
 refine QA (vnil ?_)
 refine vret (V1 (H) Tryz.func227 ?_)
 exact ⟨rfl, rfl⟩
theorem cutN_bd {a b : Pt} {x : Int} (ha : a.ok) (hb : b.ok) (hx : -2097152 ≤ x ∧ x ≤ 2097152) : (-65536 ≤ cutK a b ∧ cutK a b ≤ 65536) ∧ ((-8589934592 ≤ cutK a b * a.y ∧ cutK a b * a.y ≤ 8589934592) ∧ (-274877906944 ≤ (b.y - a.y) * (x - a.x) ∧ (b.y - a.y) * (x - a.x) ≤ 274877906944)) ∧ -549755813888 ≤ cutN a b x ∧ cutN a b x ≤ 549755813888 := by
  unfold Pt.ok at *
  have hk : -65536 ≤ cutK a b ∧ cutK a b ≤ 65536 := by unfold cutK; omega
  have h1 := abs_mul_bd (b := a.y) (k := 131072) hk (by omega)
  have h2 := abs_mul_bd (a := b.y - a.y) (b := x - a.x) (m := 65536) (k := 4194304) (by omega) (by omega)
  refine ⟨hk, ⟨by omega, by omega⟩, ?_⟩
  unfold cutN; omega
theorem cut_bd {a b : Pt} {w : Rw} (ha : a.ok) (hb : b.ok) (hw : w.bd) : (cutW a b w).bd := by
  obtain ⟨hk, _, hn⟩ := cutN_bd ha hb hw.1
  unfold Rw.bd at *
  unfold cutW
  split
  · have := ediv_bd (n := -cutN a b w.x) (k := cutK a b) (m := 549755813888) (by omega) (by omega) (by omega)
    simp only; omega
  · split
    · have := ediv_bd (n := -cutN a b w.x) (k := -cutK a b) (m := 549755813888) (by omega) (by omega) (by omega)
      simp only; omega
    · split
      · simp only; omega
      · exact hw
theorem cut_p {a b : Pt} {w : Rw} (h : b.x - a.x > 0) : cutW a b w = ⟨w.x, max w.a (-((-((b.x - a.x) * a.y + (b.y - a.y) * (w.x - a.x))) / (b.x - a.x))), w.b⟩ := if_pos h
theorem cut_n {a b : Pt} {w : Rw} (h : ¬ b.x - a.x > 0) (h2 : b.x - a.x < 0) : cutW a b w = ⟨w.x, w.a, min w.b ((-((b.x - a.x) * a.y + (b.y - a.y) * (w.x - a.x))) / (-(b.x - a.x)))⟩ := by
  have h' : ¬ 0 < cutK a b := h
  have h2' : cutK a b < 0 := h2
  rw [cutW, if_neg h', if_pos h2']; rfl
theorem cut_s {a b : Pt} {w : Rw} (h : ¬ b.x - a.x > 0) (h2 : ¬ b.x - a.x < 0) (h3 : ¬ (b.x - a.x) * a.y + (b.y - a.y) * (w.x - a.x) > 0) : cutW a b w = w := by
  have h' : ¬ 0 < cutK a b := h
  have h2' : ¬ cutK a b < 0 := h2
  have h3' : ¬ 0 < cutN a b w.x := h3
  rw [cutW, if_neg h', if_neg h2', if_neg h3']
theorem hitE_nz {f : List Pt} {r : Rg} (h : fst2 (chkF f) (chkR r) ≠ 0) : hitE f r = (zP, fst2 (chkF f) (chkR r)) := by
  unfold fst2 at *
  by_cases hf : FieldOk f
  · rw [chkF_ok hf] at *; simp only [ne_eq, not_true_eq_false, if_false] at *
    rw [hitE, if_pos (fieldB_iff.2 hf), if_neg (chkR_nz.1 h), chkR_no (chkR_nz.1 h)]
  · rw [chkF_no hf, hitE, if_neg (fun e => hf (fieldB_iff.1 e))]; rfl
theorem hitE_0 {f : List Pt} {r : Rg} {p : Pt} (hf : FieldOk f) (hr : r.ok) (h : hitP f (rows r) = some p) : hitE f r = (p, 0) := by rw [hitE, if_pos (fieldB_iff.2 hf), if_pos hr, h]
theorem hitE_4 {f : List Pt} {r : Rg} (hf : FieldOk f) (hr : r.ok) (h : hitP f (rows r) = none) : hitE f r = (zP, 4) := by rw [hitE, if_pos (fieldB_iff.2 hf), if_pos hr, h]
theorem cuts_bd {f : List Pt} (hf : ∀ q ∈ f, q.ok) : ∀ (l : List (Pt × Pt)) (w : Rw), (∀ s ∈ l, s.1.ok ∧ s.2.ok) → w.bd → (cutsW l w).bd
  | [], _, _, h => h
  | s :: l, w, hl, h => cuts_bd hf l _ (fun t ht => hl t (by simp [ht])) (cut_bd (hl s (by simp)).1 (hl s (by simp)).2 h)
theorem sides_ok {f : List Pt} (hf : ∀ q ∈ f, q.ok) {s : Pt × Pt} (hs : s ∈ sidesL f) : s.1.ok ∧ s.2.ok := by
  unfold sidesL at hs
  obtain ⟨i, hi, rfl⟩ := List.mem_map.1 hs
  have hi := List.mem_range.1 hi
  have at_mem : ∀ j, j < f.length → atP f j ∈ f := fun j hj => by
    obtain ⟨z, hz⟩ := get_of_lt f hj
    rw [atP_of hz]; exact List.mem_of_getElem? hz
  exact ⟨hf _ (at_mem i hi), hf _ (at_mem _ (nxt_lt hi))⟩
end Go.Proofs.YtoebpndlbldfcaaGreatDoor
namespace Go.Proofs.YtoebpndlbldfcaaGreatDoor
open Go
set_option maxRecDepth 100000
attribute [local irreducible] tightP hullP rootP farP rows endsOf sqL sqP twoE pickL
theorem perm6 (z a b c d e g : Nat × Obj) (H : Heap) : List.Perm (z :: a :: b :: c :: d :: e :: g :: H) ((z :: H) ++ [a, b, c, d, e, g]) := (List.perm_append_comm (l₁ := [a, b, c, d, e, g]) (l₂ := H)).cons z
theorem perm6' (z a b c d e g : Nat × Obj) (H : Heap) : List.Perm ((z :: H) ++ [a, b, c, d, e, g]) (a :: b :: c :: d :: e :: g :: z :: H) := List.perm_append_comm (l₁ := z :: H) (l₂ := [a, b, c, d, e, g])
theorem all_no_snoc {f : List Pt} {pre : List Rw} {x : Rw} (h : ∀ u ∈ pre, hitW f u = false) (hx : hitW f x = false) : ∀ u ∈ pre ++ [x], hitW f u = false := by
  intro u hu
  rcases List.mem_append.1 hu with hu | hu
  · exact h u hu
  · rw [List.mem_singleton.1 hu]; exact hx
theorem rw_bd2 {r : Rg} (hr : r.ok) {w : Rw} (hw : w ∈ rows r) : w.bd := by
  have := rows_sm hr.sm hw; unfold Rw.bd; omega
theorem q_Hits (r : Rg) (f : List Pt) (oa : Option Addr) (n c : Nat) (hn : f.length = n) (hmax : n ≤ 9223372036854775807) (H : Heap) [SlO H oa 2 encP f] : VHas Tryz.prog 193 [sli oa n c, vR r] (tup [vP (hitE f r).1, I (hitE f r).2]) H H := by
 refine CV 87 Tryz.func193 ?_
 refine KK2 (BX fun b1 => ?_)
 refine BX fun b2 => ?_
 refine AL fun b3 => ?_
 refine AL fun b4 => (vnil (vscope (vseq (vseq ?_))))
 refine DR [(.q, 0), (.q, 1), (.q, 2), (.q, 3), (.m, 4), (.n, 5), (.q, 6)] Tryz.mixed ?_
 refine DL ?_
 refine DD (vcq rfl rfl rfl (q_CheckField f oa n c hn hmax _)) rfl ?_
 refine DN ?_
 refine DD (vcp rfl rfl rfl (c_region_Check r)) rfl ?_
 refine vdm (mone rfl) (vbsP rfl rfl rfl rfl rfl rfl) rfl rfl (fun b5 => ?_)
 refine vdn rfl (mone rfl) (vcq rfl rfl rfl ((h_first2 (chkF f) (chkR r) b5).fr1)) rfl rfl ?_
 refine DA (vdend rfl (KK2 ?_))
 refine QM ?_
 refine QG (vnil ?_)
 refine vcondd rfl (fun h19 => ?_) (fun h19 => ?_)
 ·
  refine KK2 (QB ?_)
  refine QM ?_
  refine SN ?_
  refine SU (vnil ?_)
  refine vret (vr2 (H' := H) Tryz.func193 rfl (.celln rfl rfl) (.cell1 rfl rfl) sb ?_)
  (rw [hitE_nz h19]; exact ⟨rfl, rfl⟩)
 ·
  refine vskip (vseq (vlabel (vseq (KK2 (QN ?_)))))
  refine QQ (vcp rfl rfl rfl (c_region_bounds _ _ _ _ _ _ _ _)) rfl ?_
  refine vone rfl (vxg (vcnew rfl rfl rfl (n_rows r)) rfl rfl ?_)
  rintro _ _ ⟨b6, rfl, rfl⟩
  refine vnil (vblock ?_)
  refine VRun.sub (H' := bR b6 r :: (b4, blk [I 0] 23) :: (b3, blk [I 0, I 0] 44) :: (b2, blk (clR r) 134) :: (b1, blk [sli oa n c] 132) :: H) sb ?_
  refine vrange (enc := (fun w => [vW w])) (xs := (rows r)) (caps := [ptr b6]) (Hi := [bR b6 r]) (Hc := ((b4, blk [I 0] 23) :: (b3, blk [I 0, I 0] 44) :: (b2, blk (clR r) 134) :: (b1, blk [sli oa n c] 132) :: H)) (ps := [25]) (fun pre H1 => H1 = (b4, blk [I 0] 23) :: (b3, blk [I 0, I 0] 44) :: (b2, blk (clR r) 134) :: (b1, blk [sli oa n c] 132) :: H ∧ ∀ u ∈ pre, hitW f u = false) (fun c0 H1 => c0 = .ret ∧ ∃ p : Pt, H1 = (b4, blk [I 0] 23) :: (b3, blk [I p.x, I p.y] 44) :: (b2, blk (clR r) 134) :: (b1, blk [sli oa n c] 132) :: H ∧ hitP f (rows r) = some p) rfl (it_rows r ((fz2 h19).sm.mono (by decide)) b6) (List.Perm.refl _) ⟨rfl, fun u hu => by cases hu⟩ (fun _ => rfl) rfl ?_ ?_ ?_
  ·
   intro lpa reca prea xa posta H1a hrsa hxsa hIa
   obtain ⟨rfl, hno⟩ := hIa
   have hxb := rw_bd2 (fz2 h19) (w := xa) (by rw [hxsa]; simp)
   refine vregion (AL fun b7 => ?_)
   refine SN (vnil ?_)
   refine vbegin hrsa ?_
   refine vblock (vseq (KK2 (QL ?_)))
   refine vone rfl (vxg (vcnew rfl rfl rfl (n_sides oa n c)) rfl rfl ?_)
   rintro _ _ ⟨b8, rfl, rfl⟩
   refine vnil (vblock ?_)
   refine vrangeN (enc := (fun (s : Pt × Pt) => [vP s.1, vP s.2])) (xs := (sidesL f)) (caps := [ptr b8]) (Hi := ((b8, blk [sli oa n c] 132) :: H)) (Hc := [(b7, blk [I (cutsW [] xa).x, I (cutsW [] xa).a, I (cutsW [] xa).b] 347), (lpa, Obj.loop (bsy reca)), (b4, blk [I 0] 23), (b3, blk [I 0, I 0] 44), (b2, blk (clR r) 134), (b1, blk [sli oa n c] 132)]) (ps := [28, 29]) (fun (pre : List (Pt × Pt)) H1 => H1 = [(b7, blk [I (cutsW pre xa).x, I (cutsW pre xa).a, I (cutsW pre xa).b] 347), (lpa, Obj.loop (bsy reca)), (b4, blk [I 0] 23), (b3, blk [I 0, I 0] 44), (b2, blk (clR r) 134), (b1, blk [sli oa n c] 132)]) (fun c0 H1 => c0 = .exit 1 ∧ ∃ pre : List (Pt × Pt), H1 = [(b7, blk [I (cutsW pre xa).x, I (cutsW pre xa).a, I (cutsW pre xa).b] 347), (lpa, Obj.loop (bsy reca)), (b4, blk [I 0] 23), (b3, blk [I 0, I 0] 44), (b2, blk (clR r) 134), (b1, blk [sli oa n c] 132)] ∧ hitW f xa = false) rfl (it_sides f oa n c hn hmax H b8) (perm6 _ _ _ _ _ _ _ _) rfl (fun _ => rfl) rfl ?_ ?_ ?_
   ·
    intro lpb recb preb xb postb H1b hrsb hxsb hIb
    subst hIb
    have hxm : xb ∈ sidesL f := by rw [hxsb]; simp
    have hsk := sides_ok (fz1 h19).2.1 hxm
    have hwb : (cutsW preb xa).bd := cuts_bd (fz1 h19).2.1 _ _ (fun s hs => sides_ok (fz1 h19).2.1 (by rw [hxsb]; simp [hs])) hxb
    have hbd := cutN_bd hsk.1 hsk.2 hwb.1
    obtain ⟨hk1, hk2⟩ := hsk
    unfold Pt.ok at hk1 hk2
    unfold Rw.bd at hwb
    unfold cutN cutK at hbd
    refine KK2 (AL fun b9 => ?_)
    refine SN (vnil (vregion ?_))
    refine AL fun b10 => ?_
    refine SN (vnil ?_)
    refine vbegin hrsb ?_
    refine vblock (KK2 (QF ?_))
    refine QL ?_
    refine QF ?_
    refine QL ?_
    refine QQ (vsub rfl rfl (by unfold InR; omega)) rfl ?_
    refine QA (KK3 ?_)
    refine QM ?_
    refine QF ?_
    refine QL ?_
    refine QQ (vmul rfl rfl (by unfold InR; omega)) rfl ?_
    refine QF ?_
    refine QL ?_
    refine QF ?_
    refine QL ?_
    refine QQ (vsub rfl rfl (by unfold InR; omega)) rfl ?_
    refine QF ?_
    refine QL ?_
    refine QF ?_
    refine QL ?_
    refine QQ (vsub rfl rfl (by unfold InR; omega)) rfl ?_
    refine QQ (vmul rfl rfl (by unfold InR; omega)) rfl ?_
    refine QQ (vadd rfl rfl (by unfold InR; omega)) rfl ?_
    refine QA (vnil (vblock (KK2 ?_)))
    refine QM ?_
    refine QQ (vgtr rfl rfl) rfl ?_
    refine QA (vnil ?_)
    refine vcondd rfl (fun h51 => ?_) (fun h51 => ?_)
    ·
     refine DR [(.q, 0), (.q, 1), (.q, 2), (.q, 3), (.q, 4), (.q, 5), (.q, 6), (.c, 7)] Tryz.mixed ?_
     refine DF ?_
     refine DL ?_
     refine DM ?_
     refine DM ?_
     refine DD (vcp rfl rfl rfl (c_up _ _ (by omega) (by omega))) rfl ?_
     refine DD (vmax2 rfl rfl) rfl ?_
     refine DF ?_
     refine vdcs (mone rfl) (vst1 rfl rfl rfl rfl) rfl ?_
     refine vdend rfl (vinblock (vinblock ?_))
     refine vroundI_end (H' := [(b7, _), (lpa, _), (b4, _), (b3, _), (b2, _), (b1, _)]) sb ?_
     (rw [cutsW_snoc, cut_p h51]; done)
    ·
     refine KK2 (QM ?_)
     refine QS ?_
     refine QA (vnil ?_)
     refine vcondd rfl (fun h61 => ?_) (fun h61 => ?_)
     ·
      refine DR [(.q, 0), (.q, 1), (.q, 2), (.q, 3), (.q, 4), (.q, 5), (.q, 6), (.q, 7), (.q, 8), (.c, 9)] Tryz.mixed ?_
      refine DF ?_
      refine DL ?_
      refine DM ?_
      refine DD (vneg rfl (by unfold InR; omega)) rfl ?_
      refine DM ?_
      refine DD (vneg rfl (by unfold InR; omega)) rfl ?_
      refine DD (vcp rfl rfl rfl (c_down _ _ (by omega) (by omega))) rfl ?_
      refine DD (vmin2 rfl rfl) rfl ?_
      refine DF ?_
      refine vdcs (mone rfl) (vst1 rfl rfl rfl rfl) rfl ?_
      refine vdend rfl (vinblock (vinblock ?_))
      refine vroundI_end (H' := [(b7, _), (lpa, _), (b4, _), (b3, _), (b2, _), (b1, _)]) sb ?_
      (rw [cutsW_snoc, cut_n h51 h61]; done)
     ·
      refine KK2 (QM ?_)
      refine QQ (vgtr rfl rfl) rfl ?_
      refine QA (vnil ?_)
      refine vcondd rfl (fun h73 => ?_) (fun h73 => ?_)
      ·
       refine vroundI_exit (H' := [(b7, _), (lpa, _), (b4, _), (b3, _), (b2, _), (b1, _)]) rfl sb ?_
       exact ⟨rfl, preb, rfl, decide_eq_false (by have := cuts_none hxsb (by unfold cutK; omega) (by rw [cutsW_x] at h73; exact h73); omega)⟩
      ·
       refine vskip (vinblock (vinblock ?_))
       refine vroundI_end (H' := [(b7, _), (lpa, _), (b4, _), (b3, _), (b2, _), (b1, _)]) sb ?_
       (rw [cutsW_snoc, cut_s h51 h61 h73])
   ·
    intro H1b hIb
    subst hIb
    refine VRun.perm (perm6' _ _ _ _ _ _ _ _) ?_
    refine vinblock (KK2 (QF ?_))
    refine QL ?_
    refine QF ?_
    refine QL ?_
    refine QQ (vleq rfl rfl) rfl (vnil ?_)
    refine vcondd rfl (fun h80 => ?_) (fun h80 => ?_)
    ·
     refine KK2 (QF ?_)
     refine QL ?_
     refine QF ?_
     refine QL ?_
     refine QB ?_
     refine SN ?_
     refine SU (vnil ?_)
     refine vroundI_ret (H' := (b4, _) :: (b3, _) :: (b2, _) :: (b1, _) :: H) sb ?_
     exact ⟨rfl, _, by rw [cutsW_x], hitP_some hxsa hno (decide_eq_true h80)⟩
    ·
     refine vskip (vinblock ?_)
     refine vroundI_end (H' := (b4, _) :: (b3, _) :: (b2, _) :: (b1, _) :: H) sb ?_
     exact ⟨rfl, all_no_snoc hno (decide_eq_false h80)⟩
   ·
    intro cb H1b hIb
    obtain ⟨rfl, preb, rfl, hskip⟩ := hIb
    refine VRun.perm (perm6' _ _ _ _ _ _ _ _) ?_
    refine vexit (k' := _) rfl ?_
    refine vroundI_end (H' := (b4, _) :: (b3, _) :: (b2, _) :: (b1, _) :: H) sb ?_
    exact ⟨rfl, all_no_snoc hno hskip⟩
  ·
   intro r1a H1a hIa
   obtain ⟨rfl, hno⟩ := hIa
   change VRun _ _ _ _ _ _ _ ((r1a, Obj.deferred (some [])) :: bR b6 r :: (b4, blk [I 0] 23) :: (b3, blk [I 0, I 0] 44) :: (b2, blk (clR r) 134) :: (b1, blk [sli oa n c] 132) :: H) _
   refine vinblock (KK2 (QB ?_))
   refine SN ?_
   refine SU (vnil ?_)
   refine vret (vret_mark (vr2 (H' := H) Tryz.func193 rfl (.celln rfl rfl) (.cell1 rfl rfl) sb ?_))
   (rw [hitE_4 (fz1 h19) (fz2 h19) (hitP_none hno)]; exact ⟨rfl, rfl⟩)
  ·
   intro r1a ca H1a hIa
   obtain ⟨rfl, ⟨px, py⟩, rfl, hhit⟩ := hIa
   change VRun _ _ _ _ _ _ _ ((r1a, Obj.deferred (some [])) :: bR b6 r :: (b4, blk [I 0] 23) :: (b3, blk [I px, I py] 44) :: (b2, blk (clR r) 134) :: (b1, blk [sli oa n c] 132) :: H) _
   refine vret (vret_mark (vr2 (H' := H) Tryz.func193 rfl (.celln rfl rfl) (.cell1 rfl rfl) sb ?_))
   (rw [hitE_0 (fz1 h19) (fz2 h19) hhit]; exact ⟨rfl, rfl⟩)
end Go.Proofs.YtoebpndlbldfcaaGreatDoor
namespace Go.Proofs.YtoebpndlbldfcaaGreatDoor
open Go
set_option maxRecDepth 100000
instance tFgBd1 : TFg Tryz.prog 56 1 1 := mkTFg (by kernel_rfl)
attribute [local irreducible] tightP hullP rootP farP rows endsOf
abbrev clSt4 (a b : Pt) : List Value := [I a.x, I a.y, I b.x, I b.y]
abbrev vSt4 (a b : Pt) : Value := .agg (clSt4 a b).toArray
abbrev clCh (h : CH) (c : Cz) (bm : Nat) : List Value := [.slice h.a1 c.lines.length h.c1, .slice h.a2 h.fs.length h.c2, .slice h.a3 c.buoys.length h.c3, I c.spread.x.lo, I c.spread.x.hi, I c.spread.y.lo, I c.spread.y.hi, I c.spread.s.lo, I c.spread.s.hi, I c.spread.d.lo, I c.spread.d.hi, I c.start.pt.x, I c.start.pt.y, I c.start.oc, I c.speed, I c.turn, .slice h.a8 h.os.length h.c8, .map (some bm)]
theorem in_sq {a : Int} (h : -131072 ≤ a ∧ a ≤ 131072) : 0 ≤ a * a ∧ a * a ≤ 17179869184 := by
  have := sq_abs (y := a) (h := 131072) h
  have := sq_nn a
  omega
theorem root_fact {q : Int} (h0 : 0 ≤ q) (h1 : q ≤ 1099511627776) : ∃ r, rootE q = (r, 0) ∧ 0 ≤ r ∧ r ≤ 1048576 ∧ 0 ≤ r * r ∧ r * r ≤ q ∧ rootUp q = if r * r < q then r + 1 else r := by
  have e : rootE q = (rootP q, 0) := by unfold rootE; rw [if_pos ⟨h0, h1⟩]
  have hr := rootP_is h0
  unfold IsRt at hr
  refine ⟨rootP q, e, hr.1, ?_, sq_nn _, hr.2.1, by unfold rootUp; rw [e]⟩
  rcases Int.lt_or_le 1048576 (rootP q) with h | h
  · have := Int.mul_le_mul (show (1048577 : Int) ≤ rootP q by omega) (show (1048577 : Int) ≤ rootP q by omega) (by omega) (by omega)
    omega
  · exact h
theorem tdiv_fact {a b : Int} (ha : 0 ≤ a) (hb : 0 < b) : 0 ≤ a.tdiv b ∧ a.tdiv b ≤ a := by
  rw [Int.tdiv_eq_ediv_of_nonneg ha]
  exact ⟨Int.ediv_nonneg ha (by omega), Int.ediv_le_self _ ha⟩
theorem stepsC_bd {c : Cz} {a b : Pt} (ha : a.ok) (hb : b.ok) (hs : 1 ≤ c.speed ∧ c.speed ≤ 1000) : 0 ≤ stepsC c a b ∧ stepsC c a b ≤ 1100000 := by
  unfold Pt.ok at ha hb
  have hx := in_sq (a := b.x - a.x) (by omega)
  have hy := in_sq (a := b.y - a.y) (by omega)
  obtain ⟨_, g1, g2, g3⟩ := rootUp_spec (q := d2 a b) (by unfold d2; omega) (by unfold d2; omega)
  unfold stepsC
  have := tdiv_fact (a := rootUp (d2 a b) + c.speed - 1) (b := c.speed) (by omega) (by omega)
  omega
theorem turnE_bd {a b : Int} (ha : 0 ≤ a ∧ a ≤ 7) (hb : 0 ≤ b ∧ b ≤ 7) : 0 ≤ turnE a b ∧ turnE a b ≤ 4 := by
  unfold turnE
  have e : (b - a + 8).tmod 8 = (b - a + 8) % 8 := Int.tmod_eq_emod_of_nonneg (by omega)
  rw [e]; omega
theorem c_windows (l : List Bd) (oa : Option Addr) (c : Nat) (H : Heap) [hsl : SlO H oa 2 encBd l] (hm : l.length ≤ 9223372036854775807) : VHas Tryz.prog 217 [.slice oa l.length c] (.bool (winB l)) (H) (H) := by
 refine CV 42 Tryz.func217 ?_
 refine KK2 (QA (vnil (vseq (KK2 ?_))))
 refine QM ?_
 refine QQ (vlen rfl) rfl ?_
 refine QM (vnil (vblock ?_))
 refine vwhile (σ := Nat) (fun i => l.length - i) (fun i => [(0, .slice oa l.length c), (5, .slice oa l.length c), (6, I l.length), (7, I (i : Int))]) (fun i => H) (fun i => i ≤ l.length ∧ winFrom (-1) l = winFrom (prevH l i) (l.drop i)) 0 ⟨Nat.zero_le _, rfl⟩ ⟨rfl, rfl, rfl, rfl, True.intro⟩ sb ?_
 rintro i ⟨hil, hwf⟩ IH
 change VRun _ _ _ _ _ [(0, .slice oa l.length c), (5, .slice oa l.length c), (6, I l.length), (7, I (i : Int))] _ (H) _
 refine KK2 (QS (vnil (vseq ?_)))
 refine vcondd rfl (fun h8 => ?_) (fun h8 => ?_)
 ·
  obtain ⟨z, hz⟩ := get_of_lt l (i := i) (by omega)
  refine vskip (vseq (vblock (KK2 (QM ?_))))
  refine QQ (visg (enc := encBd) rfl rfl (by omega) hz) rfl ?_
  refine QQ (vldS (enc := encBd) rfl hz) rfl ?_
  refine AL fun b1 => ?_
  refine QA ?_
  refine SN (vnil (vseq ?_))
  refine DR [(.q, 0), (.q, 1), (.q, 2), (.q, 3), (.q, 4), (.q, 5), (.q, 6), (.q, 7), (.q, 8), (.q, 9), (.q, 10), (.q, 11), (.q, 12), (.q, 13), (.q, 14), (.q, 15), (.q, 16), (.q, 17), (.q, 18), (.q, 19), (.q, 20), (.q, 21), (.q, 22), (.q, 23), (.q, 24), (.q, 25)] Tryz.mixed ?_
  refine DF ?_
  refine DL ?_
  refine DS ?_
  refine DM ?_
  refine vdsplitd (d := 15) rfl (fun h15 => ?_) (fun h15 => ?_)
  ·
   refine NP4 ?_
   refine NP2 ?_
   refine DT ?_
   refine DM ?_
   refine NP3 ?_
   refine vdnou rfl rfl rfl rfl rfl ?_
   refine vdnou rfl rfl rfl rfl rfl ?_
   refine vdnou rfl rfl rfl rfl rfl ?_
   refine vdnou rfl rfl rfl rfl rfl ?_
   refine vdnou rfl rfl rfl rfl rfl ?_
   refine vdnou rfl rfl rfl rfl rfl ?_
   refine vdnou rfl rfl rfl rfl rfl ?_
   refine vdnou rfl rfl rfl rfl rfl ?_
   refine vdnou rfl rfl rfl rfl rfl ?_
   refine NP ?_
   refine DT (vdend rfl ?_)
   refine vcondt rfl (KK2 (QA (vnil ?_)))
   refine vret (V1 (H) Tryz.func217 ?_)
   exact ⟨win_no hz hwf (by omega), rfl⟩
  ·
   refine WF ?_
   refine WL ?_
   refine WF ?_
   refine WL ?_
   refine WW (vcp rfl rfl rfl (c_course_within _ _ _)) rfl ?_
   refine WW (vnotd rfl) rfl ?_
   refine DU ?_
   refine DM ?_
   refine vdsplitd (d := 23) rfl (fun h23 => ?_) (fun h23 => ?_)
   ·
    refine NP3 ?_
    refine vdnou rfl rfl rfl rfl rfl ?_
    refine vdnou rfl rfl rfl rfl rfl ?_
    refine vdnou rfl rfl rfl rfl rfl ?_
    refine vdnou rfl rfl rfl rfl rfl ?_
    refine vdnou rfl rfl rfl rfl rfl ?_
    refine vdnou rfl rfl rfl rfl rfl ?_
    refine vdnou rfl rfl rfl rfl rfl ?_
    refine vdnou rfl rfl rfl rfl rfl ?_
    refine vdnou rfl rfl rfl rfl rfl ?_
    refine NP ?_
    refine DT (vdend rfl ?_)
    refine vcondt rfl (KK2 (QA (vnil ?_)))
    refine vret (V1 (H) Tryz.func217 ?_)
    exact ⟨win_no hz hwf (by omega), rfl⟩
   ·
    refine WM ?_
    refine WW (vgtr rfl rfl) rfl ?_
    refine WM ?_
    refine vdsplitd (d := 26) rfl (fun h26 => ?_) (fun h26 => ?_)
    ·
     obtain ⟨z2, hz2⟩ := get_of_lt l (i := ((i : Int) - 1).toNat) (by omega)
     have hp : prevH l i = z2.hi := by obtain ⟨j, rfl⟩ : ∃ j, i = j + 1 := ⟨i - 1, by omega⟩; exact prevH_of (by rw [show ((j + 1 : Nat) : Int) - 1 = (j : Int) by omega] at hz2; exact hz2)
     refine WF ?_
     refine WL ?_
     refine WM ?_
     refine WM ?_
     refine WW (vsub rfl rfl (by unfold InR; omega)) rfl ?_
     refine WW (visg (enc := encBd) rfl rfl (by omega) hz2) rfl ?_
     refine WW (vfaS (enc := encBd) rfl hz2) rfl ?_
     refine WW (vldSf (enc := encBd) rfl hz2 rfl) rfl ?_
     refine WW (vleq rfl rfl) rfl ?_
     refine WT ?_
     refine DU (vdend rfl ?_)
     refine vcondd rfl (fun h37 => ?_) (fun h37 => ?_)
     ·
      refine KK2 (QA (vnil ?_))
      refine vret (V1 (H) Tryz.func217 ?_)
      exact ⟨win_no hz hwf (by omega), rfl⟩
     ·
      refine vskip (vinblock (vregion (QQ (vadd rfl rfl (by unfold InR; omega)) rfl ?_)))
      refine QM (vnil ?_)
      exact vback (IH (i + 1) ⟨by omega, win_go hz hwf (by omega)⟩ (by show _ - (i + 1) < _ - i; omega)) ⟨rfl, rfl, rfl, rfl, True.intro⟩ sb
    ·
     have hp : prevH l i = -1 := by unfold prevH; rw [if_pos (by omega)]
     refine NP4 ?_
     refine NP4 ?_
     refine NP ?_
     refine WU ?_
     refine DU (vdend rfl ?_)
     refine vcondf rfl (vskip (vinblock (vregion (QQ (vadd rfl rfl (by unfold InR; omega)) rfl ?_))))
     refine QM (vnil ?_)
     exact vback (IH (i + 1) ⟨by omega, win_go hz hwf (by omega)⟩ (by show _ - (i + 1) < _ - i; omega)) ⟨rfl, rfl, rfl, rfl, True.intro⟩ sb
 ·
  refine vexit (k' := _) rfl ?_
  refine KK2 (QM ?_)
  refine QQ (vlen rfl) rfl ?_
  refine QQ (vleq rfl rfl) rfl ?_
  refine QA (vnil ?_)
  refine vret (V1 (H) Tryz.func217 ?_)
  exact ⟨oV (by unfold winB; rw [hwf, List.drop_eq_nil_of_le (by omega)]; simp only [winFrom, Bool.and_true]; congr 1; exact decide_eq_decide.2 (by omega)), rfl⟩
theorem g_IndexP (kf : FuncId) [TFn Tryz.prog kf] (caps : List Value) (p : Pt → Bool) (l : List Pt) (oa : Option Addr) (n c : Nat) (hn : l.length = n) (hmax : n ≤ 9223372036854775807) (H : Heap) [SlO H oa 2 encP l] (hg : ∀ z ∈ l, VHas Tryz.prog kf (vP z :: caps) (.bool (p z)) H H) : VCall Tryz.prog 239 [sli oa n c, .func (.func kf) #[] caps.toArray].toArray H (fun o H' => ∃ r, o = .val (I r) ∧ IdxR p l r ∧ H' = H) := by
 refine CV 19 Tryz.func239 ?_
 refine KK2 (QA (vnil (vseq (KK2 ?_))))
 refine QM ?_
 refine QQ (vlen rfl) rfl ?_
 refine QM (vnil (vblock ?_))
 refine vwhile (σ := Int) (fun i => (n - i).toNat) (fun i => [(0, sli oa n c), (1, .func (.func kf) #[] caps.toArray), (7, I n), (8, I i)]) (fun i => H) (fun i => (0 ≤ i ∧ i ≤ n) ∧ (l.take i.toNat).any p = false) 0 ⟨⟨by omega, by omega⟩, rfl⟩ ⟨rfl, rfl, rfl, rfl, True.intro⟩ sb ?_
 rintro i ⟨⟨hi0, hin⟩, hno⟩ IH
 change VRun _ _ _ _ _ [(0, sli oa n c), (1, .func (.func kf) #[] caps.toArray), (7, I n), (8, I i)] _ (H) _
 refine KK2 (QS (vnil (vseq ?_)))
 refine vcondd rfl (fun h9 => ?_) (fun h9 => ?_)
 ·
  obtain ⟨z, hz⟩ := get_of_lt l (i := i.toNat) (by omega)
  refine vskip (vseq (vblock (KK2 (QM ?_))))
  refine QA (KK3 ?_)
  refine QM ?_
  refine QM ?_
  refine QM ?_
  refine QQ (visg (enc := encP) rfl rfl (by omega) hz) rfl ?_
  refine QQ (vldS (enc := encP) rfl hz) rfl ?_
  refine QQ (vcq rfl rfl rfl (hg z (List.mem_of_getElem? hz))) rfl (vnil ?_)
  refine vcond rfl (fun h16 => ?_) (fun h16 => ?_)
  ·
   refine KK2 (QM ?_)
   refine QA (vnil ?_)
   refine vret (V1 (H) Tryz.func239 ?_)
   exact ⟨_, rfl, .inr ⟨hi0, z, hz, h16, hno⟩, rfl⟩
  ·
   refine vskip (vinblock (vregion (QQ (vadd rfl rfl (by unfold InR; omega)) rfl ?_)))
   refine QM (vnil ?_)
   exact vback (IH (i + 1) ⟨⟨by omega, by omega⟩, by rw [show (i + 1).toNat = i.toNat + 1 by omega, any_take_snocP hz, hno, h16]; rfl⟩ (by show (_ : Int).toNat < (_ : Int).toNat; omega)) ⟨rfl, rfl, rfl, rfl, True.intro⟩ sb
 ·
  refine vexit (k' := _) rfl ?_
  refine KK2 (QA (vnil ?_))
  refine vret (V1 (H) Tryz.func239 ?_)
  exact ⟨-1, rfl, .inl ⟨rfl, by rw [show i.toNat = l.length by omega, List.take_length] at hno; exact hno⟩, rfl⟩
theorem q_ContainsP (kf : FuncId) [TFn Tryz.prog kf] (caps : List Value) (p : Pt → Bool) (l : List Pt) (oa : Option Addr) (n c : Nat) (hn : l.length = n) (hmax : n ≤ 9223372036854775807) (H : Heap) [SlO H oa 2 encP l] (hg : ∀ z ∈ l, VHas Tryz.prog kf (vP z :: caps) (.bool (p z)) H H) : VHas Tryz.prog 220 [sli oa n c, .func (.func kf) #[] caps.toArray] (.bool (l.any p)) H H := by
 refine CV 9 Tryz.func220 ?_
 refine KK2 (QA (KK3 ?_))
 refine QM ?_
 refine QM ?_
 refine vone rfl (vxg (vcg (R := fun v H' => ∃ r, v = I r ∧ IdxR p l r ∧ H' = H) rfl rfl rfl (g_IndexP kf caps p l oa n c hn hmax _ hg) (fun _ _ ⟨r, h1, h2, h3⟩ => ⟨_, h1, r, rfl, h2, h3⟩)) rfl rfl ?_)
 rintro _ _ ⟨r, rfl, hr, rfl⟩
 refine QQ (vgeq rfl rfl) rfl ?_
 refine QA (vnil ?_)
 refine vret (V1 (_) Tryz.func220 ?_)
 exact ⟨oV (by congr 1; rw [Bool.eq_iff_iff, decide_eq_true_iff]; exact hr.any), rfl⟩
theorem g_IndexF (kf : FuncId) [TFn Tryz.prog kf] (caps : List Value) (p : (SlA Pt) → Bool) (l : List (SlA Pt)) (oa : Option Addr) (n c : Nat) (hn : l.length = n) (hmax : n ≤ 9223372036854775807) (H : Heap) [SlO H oa 1 encSl l] (hg : ∀ z ∈ l, VHas Tryz.prog kf (.slice z.oa z.l.length z.c :: caps) (.bool (p z)) H H) : VCall Tryz.prog 225 [sli oa n c, .func (.func kf) #[] caps.toArray].toArray H (fun o H' => ∃ r, o = .val (I r) ∧ IdxR p l r ∧ H' = H) := by
 refine CV 19 Tryz.func225 ?_
 refine KK2 (QA (vnil (vseq (KK2 ?_))))
 refine QM ?_
 refine QQ (vlen rfl) rfl ?_
 refine QM (vnil (vblock ?_))
 refine vwhile (σ := Int) (fun i => (n - i).toNat) (fun i => [(0, sli oa n c), (1, .func (.func kf) #[] caps.toArray), (7, I n), (8, I i)]) (fun i => H) (fun i => (0 ≤ i ∧ i ≤ n) ∧ (l.take i.toNat).any p = false) 0 ⟨⟨by omega, by omega⟩, rfl⟩ ⟨rfl, rfl, rfl, rfl, True.intro⟩ sb ?_
 rintro i ⟨⟨hi0, hin⟩, hno⟩ IH
 change VRun _ _ _ _ _ [(0, sli oa n c), (1, .func (.func kf) #[] caps.toArray), (7, I n), (8, I i)] _ (H) _
 refine KK2 (QS (vnil (vseq ?_)))
 refine vcondd rfl (fun h9 => ?_) (fun h9 => ?_)
 ·
  obtain ⟨z, hz⟩ := get_of_lt l (i := i.toNat) (by omega)
  refine vskip (vseq (vblock (KK2 (QM ?_))))
  refine QA (KK3 ?_)
  refine QM ?_
  refine QM ?_
  refine QM ?_
  refine QQ (visg (enc := encSl) rfl rfl (by omega) hz) rfl ?_
  refine QQ (vldS1 (enc := encSl) rfl hz rfl) rfl ?_
  refine QQ (vcq rfl rfl rfl (hg z (List.mem_of_getElem? hz))) rfl (vnil ?_)
  refine vcond rfl (fun h16 => ?_) (fun h16 => ?_)
  ·
   refine KK2 (QM ?_)
   refine QA (vnil ?_)
   refine vret (V1 (H) Tryz.func225 ?_)
   exact ⟨_, rfl, .inr ⟨hi0, z, hz, h16, hno⟩, rfl⟩
  ·
   refine vskip (vinblock (vregion (QQ (vadd rfl rfl (by unfold InR; omega)) rfl ?_)))
   refine QM (vnil ?_)
   exact vback (IH (i + 1) ⟨⟨by omega, by omega⟩, by rw [show (i + 1).toNat = i.toNat + 1 by omega, any_take_snocP hz, hno, h16]; rfl⟩ (by show (_ : Int).toNat < (_ : Int).toNat; omega)) ⟨rfl, rfl, rfl, rfl, True.intro⟩ sb
 ·
  refine vexit (k' := _) rfl ?_
  refine KK2 (QA (vnil ?_))
  refine vret (V1 (H) Tryz.func225 ?_)
  exact ⟨-1, rfl, .inl ⟨rfl, by rw [show i.toNat = l.length by omega, List.take_length] at hno; exact hno⟩, rfl⟩
theorem q_ContainsF (kf : FuncId) [TFn Tryz.prog kf] (caps : List Value) (p : (SlA Pt) → Bool) (l : List (SlA Pt)) (oa : Option Addr) (n c : Nat) (hn : l.length = n) (hmax : n ≤ 9223372036854775807) (H : Heap) [SlO H oa 1 encSl l] (hg : ∀ z ∈ l, VHas Tryz.prog kf (.slice z.oa z.l.length z.c :: caps) (.bool (p z)) H H) : VHas Tryz.prog 191 [sli oa n c, .func (.func kf) #[] caps.toArray] (.bool (l.any p)) H H := by
 refine CV 9 Tryz.func191 ?_
 refine KK2 (QA (KK3 ?_))
 refine QM ?_
 refine QM ?_
 refine vone rfl (vxg (vcg (R := fun v H' => ∃ r, v = I r ∧ IdxR p l r ∧ H' = H) rfl rfl rfl (g_IndexF kf caps p l oa n c hn hmax _ hg) (fun _ _ ⟨r, h1, h2, h3⟩ => ⟨_, h1, r, rfl, h2, h3⟩)) rfl rfl ?_)
 rintro _ _ ⟨r, rfl, hr, rfl⟩
 refine QQ (vgeq rfl rfl) rfl ?_
 refine QA (vnil ?_)
 refine vret (V1 (_) Tryz.func191 ?_)
 exact ⟨oV (by congr 1; rw [Bool.eq_iff_iff, decide_eq_true_iff]; exact hr.any), rfl⟩
theorem c_cruise1 (f : List Pt) (oa : Option Addr) (c : Nat) (H : Heap) [hsl : SlO H oa 2 encP f] (hm : f.length ≤ 9223372036854775807) : VHas Tryz.prog 218 [.slice oa f.length c] (.bool (!fieldB f)) (H) (H) := by
 refine CV 6 Tryz.func218 ?_
 refine KK2 (QA (KK3 ?_))
 refine QM ?_
 refine QQ (vcq rfl rfl rfl (q_CheckField f oa _ c rfl hm _)) rfl ?_
 refine QG ?_
 refine QA (vnil ?_)
 refine vret (V1 (H) Tryz.func218 ?_)
 exact ⟨oV (by congr 1; unfold chkF; cases fieldB f <;> rfl), rfl⟩
theorem c_cruise2 (p : Pt) : VPure Tryz.prog 221 [vP p] (.bool (!decide p.ok)) := by
 intro H
 refine CV 6 Tryz.func221 ?_
 refine KK2 (BX fun b1 => ?_)
 refine QA (KK3 ?_)
 refine QN ?_
 refine QQ (vcp rfl rfl rfl (c_region_CheckPoint ⟨_, _⟩)) rfl ?_
 refine QG ?_
 refine QA (vnil ?_)
 refine vret (V1 (H) Tryz.func221 ?_)
 exact ⟨oV (by congr 1; unfold chkP; by_cases h : p.ok <;> simp [h]), rfl⟩
theorem c_turned (a b : Int) (ha : 0 ≤ a ∧ a ≤ 7) (hb : 0 ≤ b ∧ b ≤ 7) : VPure Tryz.prog 222 [I a, I b] (I (turnE a b)) := by
 intro H
 refine CV 15 Tryz.func222 ?_
 refine KK2 (QA (KK3 ?_))
 refine QM ?_
 refine QM ?_
 refine QQ (vsub rfl rfl (by (try (have e : (b - a + 8).tmod 8 = (b - a + 8) % 8 := Int.tmod_eq_emod_of_nonneg (by omega))); unfold InR; omega)) rfl ?_
 refine QQ (vadd rfl rfl (by (try (have e : (b - a + 8).tmod 8 = (b - a + 8) % 8 := Int.tmod_eq_emod_of_nonneg (by omega))); unfold InR; omega)) rfl ?_
 refine QQ (vrem rfl rfl (by omega)) rfl ?_
 refine QA (KK3 ?_)
 refine QM ?_
 refine QM ?_
 refine QQ (vsub rfl rfl (by (try (have e : (b - a + 8).tmod 8 = (b - a + 8) % 8 := Int.tmod_eq_emod_of_nonneg (by omega))); unfold InR; omega)) rfl ?_
 refine QQ (vmin2 rfl rfl) rfl ?_
 refine QA (vnil ?_)
 refine vret (V1 (H) Tryz.func222 ?_)
 exact ⟨rfl, rfl⟩
theorem c_RootX {n r : Int} (h : rootE n = (r, 0)) : VPure Tryz.prog 33 [I n] (tup [I r, I 0]) := by
  have := c_Root n
  rw [h] at this; exact this
theorem c_csteps (h : CH) (c : Cz) (bm bc : Nat) (a b : Pt) (ha : a.ok) (hb : b.ok) (hc : 1 ≤ c.speed ∧ c.speed ≤ 1000) (H : Heap) [hat : HAt H bc (clCh h c bm) 173] : VHas Tryz.prog 155 [ptr bc, vSt4 a b] (I (stepsC c a b)) (H) (H) := by
 unfold Pt.ok at ha hb
 have hx := in_sq (a := b.x - a.x) (by omega)
 have hy := in_sq (a := b.y - a.y) (by omega)
 obtain ⟨r, hr, hr0, hr1, hr2, hr3, hru⟩ := root_fact (q := d2 a b) (by unfold d2; omega) (by unfold d2; omega)
 have hd : d2 a b = (b.x - a.x) * (b.x - a.x) + (b.y - a.y) * (b.y - a.y) := rfl
 rw [hd] at hr hr3 hru
 refine CV 61 Tryz.func155 ?_
 refine KK2 (BX fun b1 => ?_)
 refine QA (vnil (vseq ?_))
 refine DR [(.q, 0), (.q, 1), (.q, 2), (.q, 3), (.q, 4), (.q, 5), (.q, 6), (.q, 7), (.q, 8), (.q, 9), (.q, 10), (.q, 11), (.q, 12), (.q, 13), (.q, 14), (.q, 15)] Tryz.mixed ?_
 refine DF ?_
 refine DF ?_
 refine DL ?_
 refine DF ?_
 refine DF ?_
 refine DL ?_
 refine DD (vsub rfl rfl (by unfold InR; omega)) rfl ?_
 refine DF ?_
 refine DF ?_
 refine DL ?_
 refine DF ?_
 refine DF ?_
 refine DL ?_
 refine DD (vsub rfl rfl (by unfold InR; omega)) rfl ?_
 refine DA ?_
 refine DA (vdend rfl (KK2 ?_))
 refine QM ?_
 refine QM ?_
 refine QQ (vmul rfl rfl (by unfold InR; omega)) rfl ?_
 refine QM ?_
 refine QM ?_
 refine QQ (vmul rfl rfl (by unfold InR; omega)) rfl ?_
 refine QQ (vadd rfl rfl (by unfold InR; omega)) rfl ?_
 refine QQ (vcp rfl rfl rfl (c_RootX hr)) rfl ?_
 refine QM ?_
 refine QX ?_
 refine QX ?_
 refine QA ?_
 refine QA (vnil (vseq (KK2 ?_)))
 refine QM ?_
 refine QM ?_
 refine QQ (vmul rfl rfl (by unfold InR; omega)) rfl ?_
 refine QM ?_
 refine QM ?_
 refine QQ (vmul rfl rfl (by unfold InR; omega)) rfl ?_
 refine QM ?_
 refine QM ?_
 refine QQ (vmul rfl rfl (by unfold InR; omega)) rfl ?_
 refine QQ (vadd rfl rfl (by unfold InR; omega)) rfl ?_
 refine QS (vnil ?_)
 refine vcondd rfl (fun h44 => ?_) (fun h44 => ?_)
 ·
  refine vregion (QM ?_)
  refine QQ (vadd rfl rfl (by unfold InR; omega)) rfl ?_
  refine QA (vnil (vseq ?_))
  refine DR [(.q, 0), (.q, 1), (.q, 2), (.q, 3), (.q, 4), (.q, 5), (.q, 6), (.q, 7), (.q, 8), (.q, 9), (.q, 10), (.q, 11), (.q, 12), (.q, 13), (.q, 14)] Tryz.mixed ?_
  refine DM ?_
  refine DM ?_
  refine DC ?_
  refine DF ?_
  refine DF ?_
  refine DL ?_
  refine DD (vadd rfl rfl (by unfold InR; omega)) rfl ?_
  refine DD (vsub rfl rfl (by unfold InR; omega)) rfl ?_
  refine DM ?_
  refine DC ?_
  refine DF ?_
  refine DF ?_
  refine DL ?_
  refine DD (vquo rfl rfl (by omega) (by have := tdiv_fact (a := r + 1 + c.speed - 1) (b := c.speed) (by omega) (by omega); have := tdiv_fact (a := r + c.speed - 1) (b := c.speed) (by omega) (by omega); unfold InR; omega)) rfl ?_
  refine DA (vdend rfl ?_)
  refine vret (V1 (H) Tryz.func155 ?_)
  exact ⟨oI (by unfold stepsC; rw [hd, hru, if_pos h44]), rfl⟩
 ·
  refine vskip (vseq ?_)
  refine DR [(.q, 0), (.q, 1), (.q, 2), (.q, 3), (.q, 4), (.q, 5), (.q, 6), (.q, 7), (.q, 8), (.q, 9), (.q, 10), (.q, 11), (.q, 12), (.q, 13), (.q, 14)] Tryz.mixed ?_
  refine DM ?_
  refine DM ?_
  refine DC ?_
  refine DF ?_
  refine DF ?_
  refine DL ?_
  refine DD (vadd rfl rfl (by unfold InR; omega)) rfl ?_
  refine DD (vsub rfl rfl (by unfold InR; omega)) rfl ?_
  refine DM ?_
  refine DC ?_
  refine DF ?_
  refine DF ?_
  refine DL ?_
  refine DD (vquo rfl rfl (by omega) (by have := tdiv_fact (a := r + 1 + c.speed - 1) (b := c.speed) (by omega) (by omega); have := tdiv_fact (a := r + c.speed - 1) (b := c.speed) (by omega) (by omega); unfold InR; omega)) rfl ?_
  refine DA (vdend rfl ?_)
  refine vret (V1 (H) Tryz.func155 ?_)
  exact ⟨oI (by unfold stepsC; rw [hd, hru, if_neg h44]), rfl⟩
end Go.Proofs.YtoebpndlbldfcaaGreatDoor
namespace Go.Proofs.YtoebpndlbldfcaaGreatDoor
open Go
set_option maxRecDepth 100000
attribute [local irreducible] tightP hullP rootP farP rows endsOf
theorem pt_eq {p q : Pt} (h : [p.x, p.y] = [q.x, q.y]) : p = q := by
  obtain ⟨a, b⟩ := p
  obtain ⟨c, d⟩ := q
  simp at h
  rw [h.1, h.2]
noncomputable def chkCz (c : Cz) : Int := if okCzB c = true then 0 else 40
theorem cz_ok {c : Cz} (h1 : 1 ≤ c.lines.length ∧ c.lines.length ≤ 5 ∧ c.fields.length ≤ 4 ∧ c.buoys.length ≤ 4 ∧ c.opens.length = c.lines.length) (h2 : ∀ j : Nat, j < c.lines.length → ∀ z o, c.lines[j]? = some z → c.opens[j]? = some o → z.1.ok ∧ z.2.ok ∧ z.1 ≠ z.2 ∧ winB o = true) (h3 : c.fields.any (fun f => !fieldB f) = false) (h4 : c.buoys.any (fun p => !decide p.ok) = false)
    (h5 : (tightE c.spread).2 = 0) (h6 : c.spread.x.hi - c.spread.x.lo ≤ 256) (h7 : c.spread.y.hi - c.spread.y.lo ≤ 256) (h8 : okPs c.start) (h9 : 1 ≤ c.speed ∧ c.speed ≤ 1000) (h10 : 0 ≤ c.turn ∧ c.turn ≤ 1000) : okCz c := by
  obtain ⟨g1, g2, g3, g4, g5⟩ := h1
  refine ⟨⟨g1, g2⟩, g3, g4, g5, fun l hl => ?_, fun l hl => ?_, fun f hf => ?_, fun p hp => ?_, h5, h6, h7, h8, h9, h10⟩
  · obtain ⟨j, hj⟩ := List.getElem?_of_mem hl
    have hlt := (List.getElem?_eq_some_iff.1 hj).1
    obtain ⟨o, ho⟩ := get_of_lt c.opens (i := j) (by omega)
    have := h2 j hlt l o hj ho
    exact ⟨this.1, this.2.1, this.2.2.1⟩
  · obtain ⟨j, hj⟩ := List.getElem?_of_mem hl
    have hlt := (List.getElem?_eq_some_iff.1 hj).1
    obtain ⟨z, hz⟩ := get_of_lt c.lines (i := j) (by omega)
    exact (h2 j (by omega) z l hz hj).2.2.2
  · rw [List.any_eq_false] at h3
    have := h3 f hf
    simpa using this
  · rw [List.any_eq_false] at h4
    have := h4 p hp
    simpa using this
theorem any_map_l {α : Type} {l : List (SlA α)} {p : List α → Bool} : (l.any fun d => p d.l) = (l.map (·.l)).any p := by rw [List.any_map]; rfl
theorem c_cruise (h : CH) (c : Cz) (H : Heap) [hcz : CzO H h c] : VHas Tryz.prog 181 [vCz h c] (.bool (okCzB c)) H H := by
 haveI hfsl := hcz.fsl
 haveI hosl := hcz.osl
 have hbd := hcz.bd
 have hfl : h.fs.length = c.fields.length := by rw [← hcz.feq, List.length_map]
 have hol : h.os.length = c.opens.length := by rw [← hcz.oeq, List.length_map]
 refine CV 121 Tryz.func181 ?_
 refine KK2 (BX fun b1 => ?_)
 refine QA (vnil (vseq (KK2 ?_)))
 refine QF ?_
 refine QL ?_
 refine QQ (vlen rfl) rfl ?_
 refine QQ (vcp rfl rfl rfl (c_course_within _ _ _)) rfl ?_
 refine QQ (vnotd rfl) rfl ?_
 refine QM ?_
 refine vsplitd (d := 12) rfl (fun h12 => ?_) (fun h12 => ?_)
 ·
  refine NO4 ?_
  refine QT ?_
  refine QM ?_
  refine NO4 ?_
  refine QT ?_
  refine QM ?_
  refine NO4 ?_
  refine NO3 ?_
  refine QT (vnil ?_)
  refine vcondt rfl (KK2 (QA (vnil ?_)))
  refine vret (V1 (H) Tryz.func181 ?_)
  exact ⟨cz_no (fun hh => by obtain ⟨g1, g2, g3, g4, _⟩ := hh; omega), rfl⟩
 ·
  refine YF ?_
  refine YL ?_
  refine YY (vlen rfl) rfl ?_
  refine YY (vgtr rfl rfl) rfl ?_
  refine QU ?_
  refine QM ?_
  refine vsplitd (d := 18) rfl (fun h18 => ?_) (fun h18 => ?_)
  ·
   refine NO4 ?_
   refine QT ?_
   refine QM ?_
   refine NO4 ?_
   refine NO3 ?_
   refine QT (vnil ?_)
   refine vcondt rfl (KK2 (QA (vnil ?_)))
   refine vret (V1 (H) Tryz.func181 ?_)
   exact ⟨cz_no (fun hh => by obtain ⟨g1, g2, g3, g4, _⟩ := hh; omega), rfl⟩
  ·
   refine YF ?_
   refine YL ?_
   refine YY (vlen rfl) rfl ?_
   refine YY (vgtr rfl rfl) rfl ?_
   refine QU ?_
   refine QM ?_
   refine vsplitd (d := 24) rfl (fun h24 => ?_) (fun h24 => ?_)
   ·
    refine NO4 ?_
    refine NO3 ?_
    refine QT (vnil ?_)
    refine vcondt rfl (KK2 (QA (vnil ?_)))
    refine vret (V1 (H) Tryz.func181 ?_)
    exact ⟨cz_no (fun hh => by obtain ⟨g1, g2, g3, g4, _⟩ := hh; omega), rfl⟩
   ·
    refine YF ?_
    refine YL ?_
    refine YY (vlen rfl) rfl ?_
    refine YF ?_
    refine YL ?_
    refine YY (vlen rfl) rfl ?_
    refine YG ?_
    refine QU (vnil ?_)
    refine vcondd rfl (fun h32 => ?_) (fun h32 => ?_)
    ·
     refine KK2 (QA (vnil ?_))
     refine vret (V1 (H) Tryz.func181 ?_)
     exact ⟨cz_no (fun hh => by obtain ⟨g1, g2, g3, g4, _⟩ := hh; omega), rfl⟩
    ·
     refine vskip (vseq (KK2 (QF ?_)))
     refine QL ?_
     refine QQ (vlen rfl) rfl ?_
     refine QM (vnil (vblock ?_))
     refine vwhile (σ := Nat) (fun i => c.lines.length - i) (fun i => [(1, ptr b1), (34, .slice h.a1 c.lines.length h.c1), (35, I c.lines.length), (36, I (i : Int))]) (fun i => (b1, blk (clCz h c) 138) :: H) (fun i => i ≤ c.lines.length ∧ ∀ j : Nat, j < i → ∀ z o, c.lines[j]? = some z → c.opens[j]? = some o → z.1.ok ∧ z.2.ok ∧ z.1 ≠ z.2 ∧ winB o = true) 0 ⟨Nat.zero_le _, fun j hj => by omega⟩ ⟨rfl, rfl, rfl, rfl, True.intro⟩ sb ?_
     rintro i ⟨hil, hall⟩ IH
     change VRun _ _ _ _ _ [(1, ptr b1), (34, .slice h.a1 c.lines.length h.c1), (35, I c.lines.length), (36, I (i : Int))] _ ((b1, blk (clCz h c) 138) :: H) _
     refine KK2 (QS (vnil (vseq ?_)))
     refine vcondd rfl (fun h37 => ?_) (fun h37 => ?_)
     ·
      obtain ⟨z, hz⟩ := get_of_lt c.lines (i := i) (by omega)
      obtain ⟨d, hd⟩ := get_of_lt h.os (i := i) (by omega)
      have hdm : c.opens[i]? = some d.l := by rw [← hcz.oeq, List.getElem?_map, hd]; rfl
      haveI hdo := (hcz.ose d (List.mem_of_getElem? hd)).1
      have hdl := (hcz.ose d (List.mem_of_getElem? hd)).2
      refine vskip (vseq (vblock (KK2 (QM ?_))))
      refine QQ (visg (enc := encLg) rfl rfl (by omega) hz) rfl ?_
      refine QQ (vldS (enc := encLg) rfl hz) rfl ?_
      refine AL fun b2 => ?_
      refine QA ?_
      refine SN (KK3 ?_)
      refine QF ?_
      refine QN ?_
      refine QQ (vcp rfl rfl rfl (c_region_CheckPoint ⟨_, _⟩)) rfl ?_
      refine QG ?_
      refine QM ?_
      refine vsplitd (d := 45) rfl (fun h45 => ?_) (fun h45 => ?_)
      ·
       refine NO4 ?_
       refine QT ?_
       refine QM ?_
       refine NO4 ?_
       refine NO ?_
       refine QT ?_
       refine QM ?_
       refine NO4 ?_
       refine NO3 ?_
       refine QT (vnil ?_)
       refine vcondt rfl (KK2 (QA (vnil ?_)))
       refine vret (V1 (H) Tryz.func181 ?_)
       exact ⟨cz_no (fun hh => h45 (chkP_zero.2 (hh.2.2.2.2.1 z (List.mem_of_getElem? hz)).1)), rfl⟩
      ·
       refine YF ?_
       refine YN ?_
       refine YY (vcp rfl rfl rfl (c_region_CheckPoint ⟨_, _⟩)) rfl ?_
       refine YG ?_
       refine QU ?_
       refine QM ?_
       refine vsplitd (d := 51) rfl (fun h51 => ?_) (fun h51 => ?_)
       ·
        refine NO4 ?_
        refine NO ?_
        refine QT ?_
        refine QM ?_
        refine NO4 ?_
        refine NO3 ?_
        refine QT (vnil ?_)
        refine vcondt rfl (KK2 (QA (vnil ?_)))
        refine vret (V1 (H) Tryz.func181 ?_)
        exact ⟨cz_no (fun hh => h51 (chkP_zero.2 (hh.2.2.2.2.1 z (List.mem_of_getElem? hz)).2.1)), rfl⟩
       ·
        refine YF ?_
        refine YN ?_
        refine YF ?_
        refine YN ?_
        refine YY (veqs rfl rfl rfl rfl rfl rfl) rfl ?_
        refine QU ?_
        refine QM ?_
        refine vsplitd (d := 58) rfl (fun h58 => ?_) (fun h58 => ?_)
        ·
         refine NO4 ?_
         refine NO3 ?_
         refine QT (vnil ?_)
         refine vcondt rfl (KK2 (QA (vnil ?_)))
         refine vret (V1 (H) Tryz.func181 ?_)
         exact ⟨cz_no (fun hh => (hh.2.2.2.2.1 z (List.mem_of_getElem? hz)).2.2 (pt_eq h58)), rfl⟩
        ·
         refine YF ?_
         refine YL ?_
         refine YM ?_
         refine YY (visg (enc := encSl) rfl rfl (by omega) hd) rfl ?_
         refine YY (vldS1 (enc := encSl) rfl hd rfl) rfl ?_
         refine YY (vcq rfl rfl rfl (c_windows d.l d.oa d.c _ hdl)) rfl ?_
         refine YY (vnot rfl) rfl ?_
         refine QU (vnil ?_)
         refine vcond rfl (fun h66 => ?_) (fun h66 => ?_)
         ·
          refine KK2 (QA (vnil ?_))
          refine vret (V1 (H) Tryz.func181 ?_)
          exact ⟨cz_no (fun hh => by have := hh.2.2.2.2.2.1 d.l (List.mem_of_getElem? hdm); rw [this] at h66; cases h66), rfl⟩
         ·
          refine vskip (vinblock (vregion (QQ (vadd rfl rfl (by unfold InR; omega)) rfl ?_)))
          refine QM (vnil ?_)
          exact vback (IH (i + 1) ⟨by omega, fun j hj z' o' h1 h2 => by by_cases e : j = i; subst e; rw [hz] at h1; rw [hdm] at h2; cases h1; cases h2; exact ⟨chkP_zero.1 (Classical.not_not.1 h45), chkP_zero.1 (Classical.not_not.1 h51), fun e => h58 (by rw [e]), nt h66⟩; exact hall j (by omega) z' o' h1 h2⟩ (by show _ - (i + 1) < _ - i; omega)) ⟨rfl, rfl, rfl, rfl, True.intro⟩ sb
     ·
      refine vexit (k' := _) rfl ?_
      refine vseq (KK2 (QF ?_))
      refine QL ?_
      refine QQ (vcq rfl rfl rfl (q_ContainsF 218 [] (fun f => !fieldB f.l) h.fs _ _ _ rfl (by omega) _ (fun f hf => (haveI := (hcz.fse f hf).1.sub (fun e he => List.mem_cons_of_mem (b1, blk (clCz h c) 138) he); c_cruise1 f.l f.oa f.c _ (hcz.fse f hf).2)))) rfl ?_
      refine QM ?_
      refine vsplit (d := 71) rfl (fun h71 => ?_) (fun h71 => ?_)
      ·
       refine NO3 ?_
       refine QT (vnil ?_)
       refine vcondt rfl (KK2 (QA (vnil ?_)))
       refine vret (V1 (H) Tryz.func181 ?_)
       exact ⟨cz_no (fun hh => by rw [any_map_l (p := fun f => !fieldB f), hcz.feq] at h71; obtain ⟨f, hf, e⟩ := List.any_eq_true.1 h71; rw [hh.2.2.2.2.2.2.1 f hf] at e; cases e), rfl⟩
      ·
       refine YF ?_
       refine YL ?_
       refine YY (vcq rfl rfl rfl (q_ContainsP 221 [] (fun p => !decide p.ok) c.buoys _ _ _ rfl (by omega) _ (fun p _ => (c_cruise2 p).has _))) rfl ?_
       refine QU (vnil ?_)
       refine vcond rfl (fun h75 => ?_) (fun h75 => ?_)
       ·
        refine KK2 (QA (vnil ?_))
        refine vret (V1 (H) Tryz.func181 ?_)
        exact ⟨cz_no (fun hh => by obtain ⟨p, hp, e⟩ := List.any_eq_true.1 h75; rw [decide_eq_true (hh.2.2.2.2.2.2.2.1 p hp)] at e; cases e), rfl⟩
       ·
        refine vskip (vseq (KK2 (QF ?_)))
        refine QN ?_
        refine QQ (vcp rfl rfl rfl (c_Tight _)) rfl ?_
        refine QM ?_
        refine QX ?_
        refine QX ?_
        refine AL fun b3 => ?_
        refine SN ?_
        refine QA (KK3 ?_)
        refine QM ?_
        refine QG ?_
        refine QM ?_
        refine vsplitd (d := 84) rfl (fun h84 => ?_) (fun h84 => ?_)
        ·
         refine NO4 ?_
         refine NO4 ?_
         refine NO2 ?_
         refine QT ?_
         refine QM ?_
         refine NO4 ?_
         refine NO4 ?_
         refine NO2 ?_
         refine QT (vnil ?_)
         refine vcondt rfl (KK2 (QA (vnil ?_)))
         refine vret (V1 (H) Tryz.func181 ?_)
         exact ⟨cz_no (fun hh => h84 hh.2.2.2.2.2.2.2.2.1), rfl⟩
        ·
         refine YF ?_
         refine YF ?_
         refine YF ?_
         refine YL ?_
         refine YF ?_
         refine YF ?_
         refine YF ?_
         refine YL ?_
         refine YY (vsub rfl rfl (by have := small_bd (Classical.not_not.1 h84); unfold Rg.sm Bd.sm at this; unfold InR; omega)) rfl ?_
         refine YY (vgtr rfl rfl) rfl ?_
         refine QU ?_
         refine QM ?_
         refine vsplitd (d := 96) rfl (fun h96 => ?_) (fun h96 => ?_)
         ·
          refine NO4 ?_
          refine NO4 ?_
          refine NO2 ?_
          refine QT (vnil ?_)
          refine vcondt rfl (KK2 (QA (vnil ?_)))
          refine vret (V1 (H) Tryz.func181 ?_)
          exact ⟨cz_no (fun hh => by have := hh.2.2.2.2.2.2.2.2.2.1; omega), rfl⟩
         ·
          refine YF ?_
          refine YF ?_
          refine YF ?_
          refine YL ?_
          refine YF ?_
          refine YF ?_
          refine YF ?_
          refine YL ?_
          refine YY (vsub rfl rfl (by have := small_bd (Classical.not_not.1 h84); unfold Rg.sm Bd.sm at this; unfold InR; omega)) rfl ?_
          refine YY (vgtr rfl rfl) rfl ?_
          refine QU (vnil ?_)
          refine vcondd rfl (fun h107 => ?_) (fun h107 => ?_)
          ·
           refine KK2 (QA (vnil ?_))
           refine vret (V1 (H) Tryz.func181 ?_)
           exact ⟨cz_no (fun hh => by obtain ⟨g1, g2, g3, g4, _⟩ := hh; omega), rfl⟩
          ·
           refine vskip (KK2 (QF ?_))
           refine QN ?_
           refine QQ (vcp rfl rfl rfl (c_psvalid _)) rfl ?_
           refine QM ?_
           refine vsplitd (d := 111) rfl (fun h111 => ?_) (fun h111 => ?_)
           ·
            refine YF ?_
            refine YL ?_
            refine YY (vcp rfl rfl rfl (c_course_within _ _ _)) rfl ?_
            refine QT ?_
            refine QM ?_
            refine vsplitd (d := 116) rfl (fun h116 => ?_) (fun h116 => ?_)
            ·
             refine YF ?_
             refine YL ?_
             refine YY (vcp rfl rfl rfl (c_course_within _ _ _)) rfl ?_
             refine QT ?_
             refine QA (vnil ?_)
             refine vret (V1 (H) Tryz.func181 ?_)
             (rw [any_map_l (p := fun f => !fieldB f), hcz.feq] at h71; exact ⟨cz_is ⟨fun e => cz_ok (by omega) (fun j hj => hall j (by omega)) h71 h75 (Classical.not_not.1 h84) (by omega) (by omega) h111 h116 (of_decide_eq_true e), fun hh => decide_eq_true hh.2.2.2.2.2.2.2.2.2.2.2.2.2⟩, rfl⟩)
            ·
             refine NO3 ?_
             refine QU ?_
             refine QA (vnil ?_)
             refine vret (V1 (H) Tryz.func181 ?_)
             exact ⟨cz_no (fun hh => h116 hh.2.2.2.2.2.2.2.2.2.2.2.2.1), rfl⟩
           ·
            refine NO3 ?_
            refine QU ?_
            refine QM ?_
            refine NO3 ?_
            refine QU ?_
            refine QA (vnil ?_)
            refine vret (V1 (H) Tryz.func181 ?_)
            exact ⟨cz_no (fun hh => h111 hh.2.2.2.2.2.2.2.2.2.2.2.1), rfl⟩
end Go.Proofs.YtoebpndlbldfcaaGreatDoor
namespace Go.Proofs.YtoebpndlbldfcaaGreatDoor
open Go
set_option maxRecDepth 100000
attribute [local irreducible] tightP hullP rootP farP rows endsOf
structure DelI (p : Sg → Bool) (l : List Sg) (n cap : Nat) (i j : Int) (l' : List Sg) (cur : List Value) : Prop where
  bd : 0 ≤ i ∧ i < j ∧ j ≤ n
  len : l'.length = n
  cl : cur.length = cap * 5
  tk : cur.take (n * 5) = l'.flatMap clSg
  kept : l'.take i.toNat = (l.take j.toNat).filter fun x => !p x
  rest : l'.drop j.toNat = l.drop j.toNat
section
variable {p : Sg → Bool} {l l' : List Sg} {n cap : Nat} {i j : Int} {cur : List Value} {z : Sg}
theorem filter_none (h : l.any p = false) : l.filter (fun x => !p x) = l := by
  rw [List.filter_eq_self]
  intro x hx
  cases hp : p x with
  | false => rfl
  | true => rw [List.any_eq_true.2 ⟨x, hx, hp⟩] at h; cases h
theorem DelI.start {r : Int} (hn : l.length = n) (hc : cur.length = cap * 5) (ht : cur.take (n * 5) = l.flatMap clSg) (h0 : 0 ≤ r) (hz : l[r.toNat]? = some z) (hp : p z = true) (hno : (l.take r.toNat).any p = false) : DelI p l n cap r (r + 1) l cur := by
  have hlt := (List.getElem?_eq_some_iff.1 hz).1
  refine ⟨by omega, hn, hc, ht, ?_, rfl⟩
  rw [show (r + 1).toNat = r.toNat + 1 by omega, take_succ_of hz, List.filter_append, filter_none hno]
  simp [hp]
theorem DelI.get (h : DelI p l n cap i j l' cur) (hj : j < n) : ∃ z, l'[j.toNat]? = some z ∧ l[j.toNat]? = some z := by
  have hb := h.bd
  have hl := h.len
  obtain ⟨z, hz⟩ := get_of_lt l' (i := j.toNat) (by omega)
  refine ⟨z, hz, ?_⟩
  have h1 : (l'.drop j.toNat)[0]? = some z := by rw [List.getElem?_drop]; exact hz
  rw [h.rest, List.getElem?_drop] at h1
  exact h1
theorem DelI.skip (h : DelI p l n cap i j l' cur) (hj : j < n) (hz : l[j.toNat]? = some z) (hp : p z = true) : DelI p l n cap i (j + 1) l' cur := by
  have hb := h.bd
  refine ⟨by omega, h.len, h.cl, h.tk, ?_, ?_⟩
  · rw [h.kept, show (j + 1).toNat = j.toNat + 1 by omega, take_succ_of hz, List.filter_append]; simp [hp]
  · rw [show (j + 1).toNat = j.toNat + 1 by omega, ← List.drop_drop, h.rest, List.drop_drop]
theorem DelI.keep {cur' : List Value} (h : DelI p l n cap i j l' cur) (hj : j < n) (hz : l[j.toNat]? = some z) (hp : p z = false) (hl : cur'.length = cur.length) (ht : cur'.take (n * 5) = (l'.set i.toNat z).flatMap clSg) : DelI p l n cap (i + 1) (j + 1) (l'.set i.toNat z) cur' := by
  have hb := h.bd
  have hln := h.len
  refine ⟨by omega, by rw [List.length_set]; exact h.len, by rw [hl]; exact h.cl, ht, ?_, ?_⟩
  · rw [show (j + 1).toNat = j.toNat + 1 by omega, take_succ_of hz, List.filter_append, ← h.kept, show (i + 1).toNat = i.toNat + 1 by omega]
    rw [take_succ_of (l := l'.set i.toNat z) (z := z) (by rw [List.getElem?_set_self (by omega)])]
    rw [List.take_set_of_le (Nat.le_refl _)]
    simp [hp]
  · rw [List.drop_set_of_lt (by omega), show (j + 1).toNat = j.toNat + 1 by omega, ← List.drop_drop, h.rest, List.drop_drop]
theorem DelI.fin {cur' : List Value} {g : Nat} (h : DelI p l n cap i j l' cur) (hj : ¬ j < n) (hln : l.length = n) (hnc : n ≤ cap) (hcm : cap ≤ maxLen) (hl : cur'.length = cur.length) (ht : cur'.take (i.toNat * 5) = cur.take (i.toNat * 5)) :
    i.toNat = (l.filter fun x => !p x).length ∧ SlO [(g, blk cur' 301)] (some ⟨g, 0, Option.none⟩) 5 clSg (l.filter fun x => !p x) := by
  have hb := h.bd
  have hl2 := h.len
  have hk : l'.take i.toNat = l.filter fun x => !p x := by
    rw [h.kept, show j.toNat = l.length by omega, List.take_length]
  have hlen : i.toNat = (l.filter fun x => !p x).length := by rw [← hk, List.length_take]; omega
  have hown : OwnS 301 5 (.slice (some ⟨g, 0, Option.none⟩) i.toNat cap) i.toNat ((l.filter fun x => !p x).flatMap clSg) [(g, blk cur' 301)] := by
    refine .inr ⟨g, cap, cur', rfl, rfl, by omega, hcm, by rw [hl]; exact h.cl, ?_⟩
    rw [ht, ← hk, ← flat_take clSg_len, ← h.tk, List.take_take, Nat.min_eq_left (Nat.mul_le_mul_right _ (by omega))]
  exact ⟨hlen, hown.slo clSg_len (by decide) rfl hlen.symm⟩
end
end Go.Proofs.YtoebpndlbldfcaaGreatDoor
namespace Go.Proofs.YtoebpndlbldfcaaGreatDoor
open Go
set_option maxRecDepth 100000
attribute [local irreducible] tightP hullP rootP farP rows endsOf
end Go.Proofs.YtoebpndlbldfcaaGreatDoor
namespace Go.Proofs.YtoebpndlbldfcaaGreatDoor
open Go
set_option maxRecDepth 100000
attribute [local irreducible] tightP hullP rootP farP rows endsOf
section
open Classical in
theorem perm_of {α : Type} {A B : List α} (h : ∀ a, A.count a = B.count a) : A.Perm B := List.perm_iff_count.2 h
end
section
variable {P : Program} {N : Nat} {E : Env} {D : List Deferred} {H : Heap} {κ ν : Type} [DecidableEq κ] {ek : κ → Value} {ev' : ν → Value} {zv : Value}
variable {d : Nat} {x y : Operand} {T ty : TypeId} {pos : String} {af : Array Edge} {g : Option (Nat × Bool)}
end
end Go.Proofs.YtoebpndlbldfcaaGreatDoor
namespace Go.Proofs.YtoebpndlbldfcaaGreatDoor
open Go
set_option maxRecDepth 100000
attribute [local irreducible] tightP hullP rootP farP rows endsOf
structure Pc where
  t : Int
  md : Int
  qu : Int
  deriving DecidableEq
abbrev clPc (p : Pc) : List Value := [I p.t, I p.md, I p.qu]
abbrev evPc (p : Pc) : Value := .agg (clPc p).toArray
theorem Tryz.undMP : Tryz.prog.underlying 114 = some (.map 119 3) := by kernel_rfl
theorem Tryz.undP : Tryz.prog.underlying 119 = some (.struct #[⟨"step", 3, 0, false, "", "paravane/watch", 0⟩, ⟨"state", 117, 1, true, "", "paravane/watch", 8⟩]) := by kernel_rfl
theorem Tryz.undSt : Tryz.prog.underlying 117 = some (.struct #[⟨"mode", 3, 0, false, "", "paravane/watch", 0⟩, ⟨"quiet", 3, 1, false, "", "paravane/watch", 8⟩]) := by kernel_rfl
theorem Tryz.undI : Tryz.prog.underlying 3 = some (.int .i64) := by kernel_rfl
theorem pc_eq (a b : Pc) (w : World) : (Op.equal 119 (evPc a) (evPc b)).run Tryz.prog w = .ok (decide (a = b)) w := by
  have h := (inferInstance : TEq Tryz.prog 119 3).eq [a.t, a.md, a.qu] [b.t, b.md, b.qu] w rfl rfl
  have e : decide ([a.t, a.md, a.qu] = [b.t, b.md, b.qu]) = decide (a = b) := by
    obtain ⟨a1, a2, a3⟩ := a
    obtain ⟨b1, b2, b3⟩ := b
    simp
  rw [← e]
  exact h
theorem pc_bits (a : Pc) : Instr.sameBits 10000 (evPc a) (evPc a) = true := by simp [Instr.sameBits]
theorem key_i (em : Bool) (n : Nat) (i : Int) (w : World) : (Instr.checkKey em (n + 1) 3 (I i)).run Tryz.prog w = .ok () w := by
  simp [Instr.checkKey, run_underlying Tryz.undI, Result.andThen]
theorem pc_key (em : Bool) (a : Pc) (w : World) : (Instr.checkKey em 10000 119 (evPc a)).run Tryz.prog w = .ok () w := by
  have h1 : ∀ w, (isAgg 3).run Tryz.prog w = .ok false w := (inferInstance : TSc Tryz.prog 3).agg
  have h2 : ∀ w, (isAgg 117).run Tryz.prog w = .ok true w := (inferInstance : TAg Tryz.prog 117 2).agg
  have h3 : ∀ w, (sizeOf 117).run Tryz.prog w = .ok 2 w := (inferInstance : TAg Tryz.prog 117 2).size
  have k1 : ∀ n w, (Instr.checkKey em (n + 2) 117 (.agg #[I a.md, I a.qu])).run Tryz.prog w = .ok () w := by
    intro n w
    rw [Instr.checkKey]
    simp [run_underlying Tryz.undSt, Result.andThen, part, h1, key_i]
  have k2 : ∀ n w, (Instr.checkKey em (n + 3) 119 (evPc a)).run Tryz.prog w = .ok () w := by
    intro n w
    rw [Instr.checkKey]
    simp [run_underlying Tryz.undP, Result.andThen, part, h1, h2, h3, key_i, k1]
  exact k2 9997 w
instance tMk114 : TMk Tryz.prog 114 evPc (.int .i64 0) := mkTMkP Tryz.undMP Tryz.undP (by kernel_rfl) (fun a b => rfl) pc_key pc_eq pc_bits
abbrev evI (v : Int) : Value := I v
abbrev EnP := Ent Pc Int
abbrev mPc (l : List EnP) (c : Nat) : Obj := mapO evPc evI l c
theorem VCall.atO {P : Program} {gf : FuncId} {al : Array Value} {Q : Out → Obj → Prop} {H R : Heap} {b : Nat} {o : Obj} {F : Obj → Heap} [hr : HOR H b o R F] (h : VCall P gf al ((b, o) :: R) (fun out H' => ∃ o', H' = (b, o') :: R ∧ Q out o')) : VCall P gf al H (fun out H' => ∃ o', H' = F o' ∧ Q out o') := by
  intro w cs hE
  obtain ⟨out, w', m', H', ⟨o', h2, h3⟩, hFr, hs⟩ := h w cs (hE.perm hr.pm)
  subst h2
  exact ⟨out, w', m', F o', ⟨o', rfl, h3⟩, hFr.perm hr.pm.symm (hr.pf o').symm, hs⟩
structure BsO (H : Heap) (L : LH) (g : Lg) (bl bk bt bg bm : Nat) : Prop where
  i1 : HAt H bl (clLg L g) 111
  i2 : HAt H bk [.map (some bm)] 114
  i3 : HAt H bt [.func (.func 61) #[] #[ptr bl, ptr bk, ptr bg]] 115
  i4 : HAt H bg [.func (.func 57) #[] #[ptr bl, ptr bt]] 123
  lg : LgO H L g
theorem BsO.cons {x : Nat × Obj} {H : Heap} {L : LH} {g : Lg} {bl bk bt bg bm : Nat} (h : BsO H L g bl bk bt bg bm) : BsO (x :: H) L g bl bk bt bg bm :=
  ⟨@HAt.tail _ _ _ _ _ h.i1, @HAt.tail _ _ _ _ _ h.i2, @HAt.tail _ _ _ _ _ h.i3, @HAt.tail _ _ _ _ _ h.i4, @LgO.tail _ _ _ _ h.lg⟩
def MK (g : Lg) (l : List EnP) : Prop := ∀ p v, mget p l = some v → 0 ≤ p.t → p.t ≤ g.s.ship.length → v = mostF g (g.s.ship.length - p.t.toNat) p.t ⟨p.md, p.qu⟩
theorem MK.nil {g : Lg} : MK g [] := fun p v h => by rw [mget_nil] at h; cases h
theorem MK.put {g : Lg} {l : List EnP} {c : Nat} {t : Int} {x : Sta} {k : Nat} {v : Int} (h : MK g l) (ht : 0 ≤ t) (hk : t + k = g.s.ship.length) (hv : v = mostF g k t x) : MK g (mput (⟨t, x.md, x.qu⟩ : Pc) v c l) := fun p u hp h0 h1 => by
  rw [mget_mput] at hp
  split at hp
  · rename_i e
    subst e
    cases hp
    rw [hv]
    simp only
    rw [show g.s.ship.length - t.toNat = k by omega]
  · exact h p u hp h0 h1
theorem MK.get {g : Lg} {l : List EnP} {t : Int} {x : Sta} {k : Nat} {v : Int} (h : MK g l) (hp : mget (⟨t, x.md, x.qu⟩ : Pc) l = some v) (ht : 0 ≤ t) (hk : t + k = g.s.ship.length) : v = mostF g k t x := by
  have := h _ _ hp ht (by simp only; omega)
  rw [this]
  simp only
  rw [show g.s.ship.length - t.toNat = k by omega]
def fmF (g : Lg) (n : Nat) (t : Int) (x : Sta) (j : Nat) : Int := (List.range j).foldl (fun a (m : Nat) => max a (gainF g n t x m)) 0
theorem fmF_succ (g : Lg) (n : Nat) (t : Int) (x : Sta) (j : Nat) : fmF g n t x (j + 1) = max (fmF g n t x j) (gainF g n t x j) := by unfold fmF; rw [List.range_succ, List.foldl_append]; rfl
theorem fmF_all (g : Lg) (n : Nat) (t : Int) (x : Sta) : mostF g (n + 1) t x = fmF g n t x (g.w.soft.toNat + 2) := by
  rw [mostF_succ]; unfold fmF modesL; rw [List.foldl_map]
theorem gain_br {g : Lg} {n : Nat} {t : Int} {x : Sta} {m : Int} (h : brokenP g t x m ≠ 0) : gainF g n t x m = -1 := by unfold gainF; rw [if_pos h]
theorem gain_f {g : Lg} {n : Nat} {t : Int} {x : Sta} {m : Int} (h : ¬ brokenP g t x m ≠ 0) (h2 : m = g.w.soft + 1) : gainF g n t x m = mostF g n (t + 1) (afterP g t x m) + 1 := by unfold gainF; rw [if_neg h, if_pos h2]
theorem gain_n {g : Lg} {n : Nat} {t : Int} {x : Sta} {m : Int} (h : ¬ brokenP g t x m ≠ 0) (h2 : ¬ m = g.w.soft + 1) : gainF g n t x m = mostF g n (t + 1) (afterP g t x m) := by unfold gainF; rw [if_neg h, if_neg h2, Int.add_zero]
theorem most_bd (g : Lg) (n : Nat) (t : Int) (x : Sta) : 0 ≤ mostF g n t x ∧ mostF g n t x ≤ n := ⟨mostF_nn g n t x, mostF_le g n t x⟩
def MostC (g : Lg) (k : Nat) : Prop := ∀ (H : Heap) (L : LH) (bl bk bt bg bm : Nat) (t : Int) (x : Sta) (l : List EnP) (c : Nat), BsO H L g bl bk bt bg bm → 0 ≤ t → t + k = g.s.ship.length → okSt x → MK g l →
  VCall Tryz.prog 61 [.agg [I t, I x.md, I x.qu].toArray, ptr bl, ptr bk, ptr bg].toArray ((bm, mPc l c) :: H) (fun o H' => ∃ o', H' = (bm, o') :: H ∧ o = .val (I (mostF g k t x)) ∧ ∃ l' c', o' = mPc l' c' ∧ MK g l')
def GainC (g : Lg) (k : Nat) : Prop := ∀ (H : Heap) (L : LH) (bl bk bt bg bm : Nat) (t : Int) (x : Sta) (m : Int) (l : List EnP) (c : Nat), BsO H L g bl bk bt bg bm → 0 ≤ t → t + k + 1 = g.s.ship.length → okSt x → MK g l →
  VCall Tryz.prog 57 [.agg [I t, I x.md, I x.qu].toArray, I m, ptr bl, ptr bt].toArray ((bm, mPc l c) :: H) (fun o H' => ∃ o', H' = (bm, o') :: H ∧ o = .val (I (gainF g k t x m)) ∧ ∃ l' c', o' = mPc l' c' ∧ MK g l')
theorem gain_C (g : Lg) (k : Nat) (hM : MostC g k) : GainC g k := by
 intro H L bl bk bt bg bm t x m l c hB ht0 htk hx hmk
 haveI := hB.i1
 haveI := hB.i2
 haveI := hB.i3
 haveI := hB.i4
 haveI hlg := hB.lg
 have hw0 := hlg.w
 obtain ⟨hlen, hokw, hcap⟩ := hlg.facts
 unfold okW at hokw
 refine CV 36 Tryz.func57 ?_
 refine KK2 (BX fun b1 => ?_)
 refine QA (vnil (vseq (KK2 ?_)))
 refine QN ?_
 refine QF ?_
 refine QL ?_
 refine QF ?_
 refine QN ?_
 refine QM ?_
 refine QQ (vcq rfl rfl rfl (c_broken L g _ t (by omega) x m)) rfl ?_
 refine QG (vnil ?_)
 refine vcondd rfl (fun h15 => ?_) (fun h15 => ?_)
 ·
  refine KK2 (QA (vnil ?_))
  refine vret (V1 ((bm, mPc l c) :: H) Tryz.func57 ?_)
  (rw [gain_br h15]; exact ⟨_, rfl, rfl, l, c, rfl, hmk⟩)
 ·
  refine vskip (vseq ?_)
  refine DR [(.q, 0), (.q, 1), (.q, 2), (.q, 3), (.q, 4), (.q, 5), (.q, 6), (.q, 7), (.q, 8), (.q, 9), (.q, 10), (.q, 11), (.w, 12), (.q, 13)] Tryz.mixed ?_
  refine DL ?_
  refine DF ?_
  refine DL ?_
  refine DD (vadd rfl rfl (by unfold InR; omega)) rfl ?_
  refine DN ?_
  refine DF ?_
  refine DL ?_
  refine DF ?_
  refine DN ?_
  refine DM ?_
  refine DD (vcq rfl rfl rfl (c_after L g _ t (by omega) x hx m)) rfl ?_
  refine DB ?_
  refine vdw rfl (mone rfl) (vcg (R := fun v H' => v = I (mostF g k (t + 1) (afterP g t x m)) ∧ ∃ l' c', H' = (b1, blk [I t, I x.md, I x.qu] 119) :: (bm, mPc l' c') :: H ∧ MK g l') rfl rfl rfl (VCall.atO (hM ((b1, blk [I t, I x.md, I x.qu] 119) :: H) L bl bk bt bg bm (t + 1) (afterP g t x m) l c hB.cons (by omega) (by omega) (after_okSt hw0 _ _ _) hmk)) (fun o H' ⟨o', h1, h2, l', c', h3, h4⟩ => ⟨_, h2, rfl, l', c', by rw [h1, h3], h4⟩)) rfl rfl ?_
  rintro _ _ ⟨rfl, l1, c1, rfl, hmk1⟩
  have hbd := most_bd g k (t + 1) (afterP g t x m)
  refine DA (vdend rfl (vseq (KK2 ?_)))
  refine QM ?_
  refine QN ?_
  refine QQ (vcp rfl rfl rfl (c_full L g hw0)) rfl ?_
  refine QE (vnil ?_)
  refine vcondd rfl (fun h32 => ?_) (fun h32 => ?_)
  ·
   refine vregion (QM ?_)
   refine QQ (vadd rfl rfl (by unfold InR; omega)) rfl ?_
   refine QA (KK3 ?_)
   refine QM ?_
   refine QA (vnil ?_)
   refine vret (V1 ((bm, mPc l1 c1) :: H) Tryz.func57 ?_)
   (rw [gain_f h15 h32]; exact ⟨_, rfl, rfl, l1, c1, rfl, hmk1⟩)
  ·
   refine vskip (KK2 (QM ?_))
   refine QA (vnil ?_)
   refine vret (V1 ((bm, mPc l1 c1) :: H) Tryz.func57 ?_)
   (rw [gain_n h15 h32]; exact ⟨_, rfl, rfl, l1, c1, rfl, hmk1⟩)
theorem most_C (g : Lg) (k : Nat) (hG : ∀ k', k = k' + 1 → GainC g k') : MostC g k := by
 intro H L bl bk bt bg bm t x l c hB ht0 htk hx hmk
 haveI := hB.i1
 haveI := hB.i2
 haveI := hB.i3
 haveI := hB.i4
 haveI hlg := hB.lg
 have hw0 := hlg.w
 obtain ⟨hlen, hokw, hcap⟩ := hlg.facts
 unfold okW at hokw
 refine CV 41 Tryz.func61 ?_
 refine KK2 (BX fun b1 => ?_)
 refine QA (vnil (vseq (vseq ?_)))
 refine DR [(.q, 0), (.q, 1), (.q, 2), (.q, 3), (.q, 4), (.q, 5)] Tryz.mixed ?_
 refine DF ?_
 refine DL ?_
 refine DF ?_
 refine DN ?_
 refine DD (vcp rfl rfl rfl (c_steps L.sh g.s)) rfl ?_
 refine DE (vdend rfl ?_)
 refine vcondd rfl (fun h15 => ?_) (fun h15 => ?_)
 ·
  obtain rfl : k = 0 := by omega
  refine KK2 (QA (vnil ?_))
  refine vret (V1 ((bm, _) :: H) Tryz.func61 ?_)
  exact ⟨_, rfl, rfl, l, c, rfl, hmk⟩
 ·
  obtain ⟨k, rfl⟩ : ∃ k', k = k' + 1 := ⟨k - 1, by omega⟩
  refine vskip (vseq (KK2 (QL ?_)))
  refine QN ?_
  refine QQ (vlook (ek := evPc) (ev' := evI) (a := ⟨t, x.md, x.qu⟩) rfl rfl) rfl ?_
  cases hk : mget (⟨t, x.md, x.qu⟩ : Pc) l
  ·
   refine QM ?_
   refine QX ?_
   refine QX ?_
   refine QA ?_
   refine QA (KK3 ?_)
   refine QM (vnil ?_)
   refine vcondf rfl (vskip (KK2 (QA (vnil (vseq (KK2 ?_))))))
   refine QN ?_
   refine QQ (vcp rfl rfl rfl (c_full L g hw0)) rfl ?_
   refine QQ (vadd rfl rfl (by unfold InR; omega)) rfl ?_
   refine QM (vnil (vblock ?_))
   refine vwhile (σ := Nat × List EnP × Nat) (fun ⟨j, l', c'⟩ => g.w.soft.toNat + 2 - j) (fun ⟨j, l', c'⟩ => [(1, ptr bl), (2, ptr bk), (3, ptr bg), (4, ptr b1), (8, I (fmF g k t x j)), (26, I (g.w.soft + 1 + 1)), (27, I (j : Int))]) (fun ⟨j, l', c'⟩ => (b1, blk [I t, I x.md, I x.qu] 119) :: (bm, mPc l' c') :: H) (fun ⟨j, l', c'⟩ => j ≤ g.w.soft.toNat + 2 ∧ MK g l') (0, l, c) ⟨Nat.zero_le _, hmk⟩ ⟨rfl, rfl, rfl, rfl, rfl, rfl, rfl, True.intro⟩ sb ?_
   rintro ⟨j, l', c'⟩ ⟨hj, hmk'⟩ IH
   change VRun _ _ _ _ _ [(1, ptr bl), (2, ptr bk), (3, ptr bg), (4, ptr b1), (8, I (fmF g k t x j)), (26, I (g.w.soft + 1 + 1)), (27, I (j : Int))] _ ((b1, blk [I t, I x.md, I x.qu] 119) :: (bm, mPc l' c') :: H) _
   refine KK2 (QS (vnil (vseq ?_)))
   refine vcondd rfl (fun h28 => ?_) (fun h28 => ?_)
   ·
    refine vskip (vseq (vblock (KK2 (QM ?_))))
    refine QA (vnil (vregion ?_))
    refine QM ?_
    refine QL ?_
    refine QN ?_
    refine QM ?_
    refine vone rfl (vxg (vcg (R := fun v H' => v = I (gainF g k t x j) ∧ ∃ l' c', H' = (b1, blk [I t, I x.md, I x.qu] 119) :: (bm, mPc l' c') :: H ∧ MK g l') rfl rfl rfl (VCall.atO (hG k rfl ((b1, blk [I t, I x.md, I x.qu] 119) :: H) L bl bk bt bg bm t x j l' c' hB.cons ht0 (by omega) hx hmk')) (fun o H' ⟨o', h1, h2, l', c', h3, h4⟩ => ⟨_, h2, rfl, l', c', by rw [h1, h3], h4⟩)) rfl rfl ?_)
    rintro _ _ ⟨rfl, l1, c1, rfl, hmk1⟩
    refine QQ (vmax2 rfl rfl) rfl ?_
    refine QA (vnil (vinblock (vregion ?_)))
    refine QQ (vadd rfl rfl (by unfold InR; omega)) rfl ?_
    refine QM (vnil ?_)
    exact vback (IH (j + 1, l1, c1) ⟨by omega, hmk1⟩ (by show _ - (j + 1) < _ - j; omega)) (by rw [← fmF_succ]; exact ⟨rfl, rfl, rfl, rfl, rfl, rfl, rfl, True.intro⟩) sb
   ·
    refine vexit (k' := _) rfl ?_
    refine KK2 (QL ?_)
    refine QN ?_
    refine QM ?_
    refine vone rfl (vxs (vmup (ek := evPc) (ev' := evI) (a := ⟨t, x.md, x.qu⟩) (v := fmF g k t x j) rfl rfl rfl) rfl ?_)
    refine KK3 (QM ?_)
    refine QA (vnil ?_)
    refine vret (V1 ((bm, _) :: H) Tryz.func61 ?_)
    (have hje : fmF g k t x j = mostF g (k + 1) t x := (by rw [fmF_all, show j = g.w.soft.toNat + 2 by omega]); rw [← hje]; exact ⟨_, rfl, rfl, _, _, rfl, hmk'.put ht0 htk hje⟩)
  ·
   rename_i v
   refine QM ?_
   refine QX ?_
   refine QX ?_
   refine QA ?_
   refine QA (KK3 ?_)
   refine QM (vnil ?_)
   refine vcondt rfl (KK2 (QM ?_))
   refine QA (vnil ?_)
   refine vret (V1 ((bm, _) :: H) Tryz.func61 ?_)
   (rw [← hmk.get hk ht0 htk]; exact ⟨_, rfl, rfl, l, c, rfl, hmk⟩)
theorem most_all (g : Lg) : ∀ k, MostC g k
  | 0 => most_C g 0 (fun k' h => by cases h)
  | k + 1 => most_C g (k + 1) (fun k' h => by cases h; exact gain_C g k (most_all g k))
theorem gain_all (g : Lg) (k : Nat) : GainC g k := gain_C g k (most_all g k)
end Go.Proofs.YtoebpndlbldfcaaGreatDoor
namespace Go.Proofs.YtoebpndlbldfcaaGreatDoor
open Go
set_option maxRecDepth 100000
attribute [local irreducible] tightP hullP rootP farP rows endsOf
abbrev evSt (p : Pt × Pt) : Value := vSt4 p.1 p.2
theorem Tryz.undMS : Tryz.prog.underlying 171 = some (.map 262 4) := by kernel_rfl
theorem Tryz.undS4 : Tryz.prog.underlying 262 = some (.struct #[⟨"from", 44, 0, false, "", "paravane/course", 0⟩, ⟨"to", 44, 2, false, "", "paravane/course", 16⟩]) := by kernel_rfl
theorem Tryz.undPt : Tryz.prog.underlying 44 = some (.struct #[⟨"X", 3, 0, false, "", "", 0⟩, ⟨"Y", 3, 1, false, "", "", 8⟩]) := by kernel_rfl
theorem st4_eq (a b : Pt × Pt) (w : World) : (Op.equal 262 (evSt a) (evSt b)).run Tryz.prog w = .ok (decide (a = b)) w := by
  have h := (inferInstance : TEq Tryz.prog 262 4).eq [a.1.x, a.1.y, a.2.x, a.2.y] [b.1.x, b.1.y, b.2.x, b.2.y] w rfl rfl
  have e : decide ([a.1.x, a.1.y, a.2.x, a.2.y] = [b.1.x, b.1.y, b.2.x, b.2.y]) = decide (a = b) := by
    obtain ⟨⟨a1, a2⟩, ⟨a3, a4⟩⟩ := a
    obtain ⟨⟨b1, b2⟩, ⟨b3, b4⟩⟩ := b
    simp [and_assoc]
  rw [← e]
  exact h
theorem st4_bits (a : Pt × Pt) : Instr.sameBits 10000 (evSt a) (evSt a) = true := by simp [Instr.sameBits]
theorem st4_key (em : Bool) (a : Pt × Pt) (w : World) : (Instr.checkKey em 10000 262 (evSt a)).run Tryz.prog w = .ok () w := by
  have h1 : ∀ w, (isAgg 3).run Tryz.prog w = .ok false w := (inferInstance : TSc Tryz.prog 3).agg
  have h2 : ∀ w, (isAgg 44).run Tryz.prog w = .ok true w := (inferInstance : TAg Tryz.prog 44 2).agg
  have h3 : ∀ w, (sizeOf 44).run Tryz.prog w = .ok 2 w := (inferInstance : TAg Tryz.prog 44 2).size
  have k1 : ∀ n x y w, (Instr.checkKey em (n + 2) 44 (.agg #[I x, I y])).run Tryz.prog w = .ok () w := by
    intro n x y w
    rw [Instr.checkKey]
    simp [run_underlying Tryz.undPt, Result.andThen, part, h1, key_i]
  have k2 : ∀ n w, (Instr.checkKey em (n + 3) 262 (evSt a)).run Tryz.prog w = .ok () w := by
    intro n w
    rw [Instr.checkKey]
    simp [run_underlying Tryz.undS4, Result.andThen, part, h2, h3, k1]
  exact k2 9997 w
instance tMk171 : TMk Tryz.prog 171 evSt (.bool false) := mkTMkP Tryz.undMS Tryz.undS4 (by kernel_rfl) (fun a b => rfl) st4_key st4_eq st4_bits
abbrev EnS := Ent (Pt × Pt) Bool
abbrev mSt (l : List EnS) (c : Nat) : Obj := mapO evSt Value.bool l c
def KnS (c : Cz) (l : List EnS) : Prop := ∀ k v, mget k l = some v → v = clearB c k.1 k.2
theorem KnS.nil {c : Cz} : KnS c [] := fun k v h => by rw [mget_nil] at h; cases h
theorem KnS.put {c : Cz} {l : List EnS} {n : Nat} {a b : Pt} {v : Bool} (h : KnS c l) (hv : v = clearB c a b) : KnS c (mput (a, b) v n l) := fun k u hk => by
  rw [mget_mput] at hk
  split at hk
  · rename_i e; subst e; cases hk; exact hv
  · exact h k u hk
theorem chkCz_t {c : Cz} (h : okCz c) : chkCz c = 0 := by unfold chkCz; rw [okCzB_t h]; rfl
theorem c_CheckCruise (h : CH) (c : Cz) (H : Heap) [hcz : CzO H h c] : VHas Tryz.prog 145 [vCz h c] (I (chkCz c)) (H) (H) := by
 refine CV 6 Tryz.func145 ?_
 refine KK2 (BX fun b1 => ?_)
 refine QA (vnil (vseq (KK2 ?_)))
 refine QN ?_
 refine QQ (vcq rfl rfl rfl (c_cruise h c _)) rfl ?_
 refine QQ (vnot rfl) rfl (vnil ?_)
 refine vcond rfl (fun h5 => ?_) (fun h5 => ?_)
 ·
  refine KK2 (QA (vnil ?_))
  refine vret (V1 (H) Tryz.func145 ?_)
  exact ⟨oI (by unfold chkCz; rw [nf h5]; rfl), rfl⟩
 ·
  refine vskip (KK2 (QA (vnil ?_)))
  refine vret (V1 (H) Tryz.func145 ?_)
  exact ⟨oI (by unfold chkCz; rw [nt h5]; rfl), rfl⟩
theorem d_chartOk (h : CH) (c : Cz) (H : Heap) [hcz : CzO H h c] (hok : okCz c) : VCall Tryz.prog 109 [vCz h c].toArray H (fun o H' => ∃ bc bm, o = .val (tup [ptr bc, I 0]) ∧ H' = (bc, blk (clCh h c bm) 173) :: (bm, mSt [] 0) :: H) := by
 refine CV 14 Tryz.func109 ?_
 refine KK2 (BX fun b1 => ?_)
 refine QA ?_
 refine QA (vnil (vseq (KK2 ?_)))
 refine QN ?_
 refine QQ (vcq rfl rfl rfl (c_CheckCruise h c _)) rfl ?_
 refine QA (KK3 ?_)
 refine QM ?_
 refine QG ?_
 refine vknow (d := 8) (b' := false) rfl (decide_eq_false (fun e => e (chkCz_t hok))) ?_
 refine vnil (vcondf rfl (vskip (KK2 (QN ?_))))
 refine vone rfl (vxg (vmm (ek := evSt) (ev' := Value.bool) rfl) rfl rfl ?_)
 rintro _ _ ⟨bm, rfl, rfl⟩
 refine QB ?_
 refine BX fun b2 => ?_
 refine QA ?_
 refine QA (vnil ?_)
 refine vret (vr2 (H' := (b2, _) :: (bm, _) :: H) Tryz.func109 rfl (.tmp rfl) (.tmp rfl) sb2 ?_)
 exact ⟨b2, bm, rfl, rfl⟩
theorem c_clear1 (f : List Pt) (oa : Option Addr) (n : Nat) (r : Rg) (bx : Nat) (H : Heap) [hsl : SlO H oa 2 encP f] [hat : HAt H bx (clR r) 134] (hm : f.length ≤ 9223372036854775807) : VHas Tryz.prog 192 [.slice oa f.length n, ptr bx] (.bool (decide ((hitE f r).2 = 0))) (H) (H) := by
 refine CV 14 Tryz.func192 ?_
 refine KK2 (QA (KK3 ?_))
 refine QM ?_
 refine QN ?_
 refine QQ (vcq rfl rfl rfl (q_Hits r f oa _ n rfl hm _)) rfl ?_
 refine QM ?_
 refine QX ?_
 refine QX ?_
 refine AL fun b1 => ?_
 refine SN ?_
 refine QA (KK3 ?_)
 refine QM ?_
 refine QE ?_
 refine QA (vnil ?_)
 refine vret (V1 (H) Tryz.func192 ?_)
 exact ⟨rfl, rfl⟩
theorem clear_t {h : CH} {c : Cz} {a b : Pt} (hf : h.fs.map (·.l) = c.fields) (hs : (sweptE c.spread a b).2 = 0) : (!(h.fs.any fun f => decide ((hitE f.l (sweptE c.spread a b).1).2 = 0))) = clearB c a b := by
  unfold clearB
  rw [decide_eq_true hs, Bool.true_and, ← hf, ← any_map_l (p := fun f => decide ((hitE f (sweptE c.spread a b).1).2 = 0))]
theorem clear_f {c : Cz} {a b : Pt} (hs : ¬ (sweptE c.spread a b).2 = 0) : false = clearB c a b := by
  unfold clearB
  rw [decide_eq_false hs]; rfl
theorem d_clear (h : CH) (c : Cz) (bm bc : Nat) (H : Heap) [hcz : CzO H h c] [hat : HAt H bc (clCh h c bm) 173] (a b : Pt) (l : List EnS) (n : Nat) (hl : KnS c l) : VCall Tryz.prog 154 [ptr bc, vSt4 a b].toArray ((bm, mSt l n) :: H) (fun o H' => ∃ o', H' = (bm, o') :: H ∧ o = .val (.bool (clearB c a b)) ∧ ∃ l' n', o' = mSt l' n' ∧ KnS c l') := by
 haveI hfsl := hcz.fsl
 have hbd := hcz.bd
 refine CV 52 Tryz.func154 ?_
 refine KK2 (BX fun b1 => ?_)
 refine QA (vnil (vseq ?_))
 refine DR [(.q, 0), (.q, 1), (.q, 2), (.q, 3), (.q, 4), (.q, 5), (.q, 6), (.q, 7), (.q, 8), (.q, 9), (.q, 10)] Tryz.mixed ?_
 refine DM ?_
 refine DC ?_
 refine DF ?_
 refine DL ?_
 refine DN ?_
 refine DD (vlook (ek := evSt) (ev' := Value.bool) (a := (a, b)) rfl rfl) rfl ?_
 cases hk : mget (a, b) l
 ·
  refine DM ?_
  refine DX ?_
  refine DX ?_
  refine DA ?_
  refine DA (vdend rfl (vseq (KK2 ?_)))
  refine QM ?_
  refine QQ (vnot rfl) rfl (vnil ?_)
  refine vcondt rfl (vseq ?_)
  refine vdraw [(.q, 0), (.q, 1), (.q, 2), (.q, 3), (.q, 4), (.q, 5), (.q, 6), (.q, 7), (.q, 8), (.q, 9), (.q, 10), (.q, 11), (.q, 12), (.a (blk [.int .i64 0, .int .i64 0, .int .i64 0, .int .i64 0, .int .i64 0, .int .i64 0, .int .i64 0, .int .i64 0] (134)), 13), (.s, 14), (.q, 15)] Tryz.mixed (by kernel_rfl) ⟨⟨_, _, _, _, _, rfl, _, inferInstance, rfl⟩, True.intro⟩ ?_
  refine DM ?_
  refine DC ?_
  refine DF ?_
  refine DF ?_
  refine DN ?_
  refine DF ?_
  refine DN ?_
  refine DF ?_
  refine DN ?_
  refine DD (vcp rfl rfl rfl (c_Swept c.spread a b)) rfl ?_
  refine DM ?_
  refine DX ?_
  refine DX ?_
  refine vda rfl rfl (fun b2 => ?_)
  refine vds (mone rfl) (vstn rfl rfl rfl rfl rfl) rfl ?_
  refine DA (vdend rfl (KK2 ?_))
  refine QM ?_
  refine QE ?_
  refine QM ?_
  refine vsplitd (d := 35) rfl (fun h35 => ?_) (fun h35 => ?_)
  ·
   refine YM ?_
   refine YC ?_
   refine YF ?_
   refine YF ?_
   refine YL ?_
   refine YY (vmf rfl) rfl ?_
   refine YY (vcq rfl rfl rfl (q_ContainsF 192 [ptr b2] (fun f => decide ((hitE f.l (sweptE c.spread a b).1).2 = 0)) h.fs _ _ _ rfl (by omega) _ (fun f hf => @c_clear1 f.l f.oa f.c (sweptE c.spread a b).1 b2 _ ((hcz.fse f hf).1.sub (fun e he => List.mem_cons_of_mem _ (List.mem_cons_of_mem _ (List.mem_cons_of_mem _ he)))) inferInstance (hcz.fse f hf).2))) rfl ?_
   refine YY (vnot rfl) rfl ?_
   refine QT ?_
   refine QA (vnil ?_)
   refine DR [(.q, 0), (.q, 1), (.q, 2), (.q, 3), (.q, 4), (.q, 5), (.c, 6)] Tryz.mixed ?_
   refine DM ?_
   refine DC ?_
   refine DF ?_
   refine DL ?_
   refine DN ?_
   refine DM ?_
   refine vdcs (mone rfl) (vmup (ek := evSt) (ev' := Value.bool) (a := (a, b)) (v := _) rfl rfl rfl) rfl ?_
   refine vdend rfl (KK2 (QM ?_))
   refine QA (vnil ?_)
   refine vret (V1 ((bm, _) :: H) Tryz.func154 ?_)
   exact ⟨_, rfl, oV (by rw [clear_t hcz.feq h35]), _, _, rfl, hl.put (clear_t hcz.feq h35)⟩
  ·
   refine NO4 ?_
   refine NO4 ?_
   refine QU ?_
   refine QA (vnil ?_)
   refine DR [(.q, 0), (.q, 1), (.q, 2), (.q, 3), (.q, 4), (.q, 5), (.c, 6)] Tryz.mixed ?_
   refine DM ?_
   refine DC ?_
   refine DF ?_
   refine DL ?_
   refine DN ?_
   refine DM ?_
   refine vdcs (mone rfl) (vmup (ek := evSt) (ev' := Value.bool) (a := (a, b)) (v := _) rfl rfl rfl) rfl ?_
   refine vdend rfl (KK2 (QM ?_))
   refine QA (vnil ?_)
   refine vret (V1 ((bm, _) :: H) Tryz.func154 ?_)
   exact ⟨_, rfl, oV (by rw [clear_f h35]), _, _, rfl, hl.put (clear_f h35)⟩
 ·
  rename_i v
  refine DM ?_
  refine DX ?_
  refine DX ?_
  refine DA ?_
  refine DA (vdend rfl (vseq (KK2 ?_)))
  refine QM ?_
  refine QQ (vnot rfl) rfl (vnil ?_)
  refine vcondf rfl (vskip (KK2 (QM ?_)))
  refine QA (vnil ?_)
  refine vret (V1 ((bm, _) :: H) Tryz.func154 ?_)
  (rw [← hl _ _ hk]; exact ⟨_, rfl, rfl, l, n, rfl, hl⟩)
end Go.Proofs.YtoebpndlbldfcaaGreatDoor
namespace Go.Proofs.YtoebpndlbldfcaaGreatDoor
open Go
set_option maxRecDepth 100000
attribute [local irreducible] tightP hullP rootP farP rows endsOf
def ptAt (l : List Pt) (i : Nat) : Pt := (l[i]?).getD ⟨0, 0⟩
theorem ptAt_of {l : List Pt} {i : Nat} {p : Pt} (h : l[i]? = some p) : ptAt l i = p := by unfold ptAt; rw [h]; rfl
theorem cost_no {c : Cz} {to o n : Int} {l : List Pt} {i : Nat} {p q : Pt} (hq : l[i]? = some q) (hn : p = q ∨ clearB c p q = false) : costL c to p (l.drop i) o n = none := by
  rw [drop_of hq]; simp only [costL]; rw [if_pos hn]
theorem cost_go {c : Cz} {to o n : Int} {l : List Pt} {i : Nat} {p q : Pt} (hq : l[i]? = some q) (hp : p ≠ q) (hc : clearB c p q = true) : costL c to p (l.drop i) o n = costL c to q (l.drop (i + 1)) (octV (subP p q)) (n + (stepsC c p q + c.turn * turnE o (octV (subP p q)))) := by
  rw [drop_of hq]; simp only [costL]; rw [if_neg (by rintro (e | e); exact hp e; rw [hc] at e; cases e)]
theorem cost_end {c : Cz} {to o n : Int} {l : List Pt} {i : Nat} {p : Pt} (hi : l.length ≤ i) : costL c to p (l.drop i) o n = some (n + c.turn * turnE o to) := by
  rw [List.drop_eq_nil_of_le hi]; rfl
theorem turn_mul {t k : Int} (ht : 0 ≤ t ∧ t ≤ 1000) (hk : 0 ≤ k ∧ k ≤ 4) : 0 ≤ t * k ∧ t * k ≤ 4000 := by
  have := mul_bd (a := t) (b := k) (m := 1000) ht (by omega)
  have := Int.mul_nonneg ht.1 hk.1
  have := Int.mul_le_mul ht.2 hk.2 hk.1 (by omega)
  omega
theorem costP_of {c : Cz} {l : List Pt} {o to : Int} (h : 0 < l.length) : costP c l o to = costL c to (ptAt l 0) (l.drop 1) o 0 := by
  cases l with
  | nil => simp at h
  | cons p r => rfl
theorem cost_bd {c : Cz} (hs : 1 ≤ c.speed ∧ c.speed ≤ 1000) (ht : 0 ≤ c.turn ∧ c.turn ≤ 1000) {to : Int} (hto : 0 ≤ to ∧ to ≤ 7) : ∀ (l : List Pt) (p : Pt) (o n m : Int), p.ok → (∀ q ∈ l, q.ok) → (0 ≤ o ∧ o ≤ 7) → 0 ≤ n → costL c to p l o n = some m → 0 ≤ m ∧ m ≤ n + 4000 + 1104000 * l.length
  | [], p, o, n, m, hp, hl, ho, hn, h => by
    simp only [costL, Option.some.injEq] at h
    have := turn_mul ht (turnE_bd ho hto)
    simp only [List.length_nil]; omega
  | q :: r, p, o, n, m, hp, hl, ho, hn, h => by
    simp only [costL] at h
    split at h
    · cases h
    · have hq := hl q (by simp)
      have h1 := stepsC_bd (c := c) hp hq hs
      have h2 := turn_mul ht (turnE_bd ho (octV_bd (subP p q)))
      have ih := cost_bd hs ht hto r q _ _ m hq (fun z hz => hl z (by simp [hz])) (octV_bd _) (by omega) h
      simp only [List.length_cons]; omega
theorem d_cost (h : CH) (c : Cz) (bm bc : Nat) (H : Heap) [hcz : CzO H h c] [hat : HAt H bc (clCh h c bm) 173] (pl : List Pt) (oa : Option Addr) (cp : Nat) [hsp : SlO H oa 2 encP pl] (o0 to : Int) (l : List EnS) (n : Nat) (hl : KnS c l) (hok : okCz c) (hpl : ∀ p ∈ pl, p.ok) (hlen : 0 < pl.length ∧ pl.length ≤ 8) (ho0 : 0 ≤ o0 ∧ o0 ≤ 7) (hto : 0 ≤ to ∧ to ≤ 7) : VCall Tryz.prog 185 [ptr bc, .slice oa pl.length cp, I o0, I to].toArray ((bm, mSt l n) :: H) (fun o H' => ∃ o', H' = (bm, o') :: H ∧ o = .val (tup [I ((costP c pl o0 to).getD 0), .bool (costP c pl o0 to).isSome]) ∧ ∃ l' n', o' = mSt l' n' ∧ KnS c l') := by
 obtain ⟨_, _, _, _, _, _, _, _, _, _, _, _, hsp1, htu⟩ := hok
 refine CV 84 Tryz.func185 ?_
 refine KK2 (QA ?_)
 refine QA (KK3 ?_)
 refine QA (vnil (vseq (KK2 ?_)))
 refine QA (vnil (vblock ?_))
 refine vwhile (σ := Nat × Int × Int × List EnS × Nat) (fun ⟨i, o, s, l', n'⟩ => pl.length - i) (fun ⟨i, o, s, l', n'⟩ => [(0, ptr bc), (1, .slice oa pl.length cp), (2, I o), (3, I to), (10, I s), (11, I (i : Int))]) (fun ⟨i, o, s, l', n'⟩ => (bm, mSt l' n') :: H) (fun ⟨i, o, s, l', n'⟩ => 1 ≤ i ∧ i ≤ pl.length ∧ (0 ≤ o ∧ o ≤ 7) ∧ (0 ≤ s ∧ s ≤ 1104000 * (i - 1)) ∧ KnS c l' ∧ costP c pl o0 to = costL c to (ptAt pl (i - 1)) (pl.drop i) o s) (1, o0, 0, l, n) ⟨Nat.le_refl _, by omega, ho0, ⟨Int.le_refl _, by simp⟩, hl, costP_of hlen.1⟩ ⟨rfl, rfl, rfl, rfl, rfl, rfl, True.intro⟩ sb ?_
 rintro ⟨i, o, s, l', n'⟩ ⟨hi1, hil, ho, hs, hk, hco⟩ IH
 change VRun _ _ _ _ _ [(0, ptr bc), (1, .slice oa pl.length cp), (2, I o), (3, I to), (10, I s), (11, I (i : Int))] _ ((bm, mSt l' n') :: H) _
 refine vseq (KK2 (QM ?_))
 refine QM ?_
 refine QQ (vlen rfl) rfl ?_
 refine QS (vnil ?_)
 refine vcondd rfl (fun h17 => ?_) (fun h17 => ?_)
 ·
  obtain ⟨p, hz1⟩ := get_of_lt pl (i := ((i : Int) - 1).toNat) (by omega)
  obtain ⟨q, hz2⟩ := get_of_lt pl (i := i) (by omega)
  have hpk := hpl p (List.mem_of_getElem? hz1)
  have hqk := hpl q (List.mem_of_getElem? hz2)
  have hpa : ptAt pl (i - 1) = p := ptAt_of (by rw [show ((i : Int) - 1).toNat = i - 1 by omega] at hz1; exact hz1)
  have hst := stepsC_bd (c := c) hpk hqk hsp1
  have htm := turn_mul htu (turnE_bd ho (octV_bd (subP p q)))
  have hpo := hpk
  have hqo := hqk
  unfold Pt.ok at hpo hqo
  refine vskip (vseq (vblock (vseq ?_)))
  refine vdraw [(.q, 0), (.q, 1), (.q, 2), (.q, 3), (.q, 4), (.q, 5), (.q, 6), (.q, 7), (.q, 8), (.q, 9), (.a (blk [.int .i64 0, .int .i64 0, .int .i64 0, .int .i64 0] (262)), 10), (.s, 11)] Tryz.mixed (by kernel_rfl) ⟨⟨_, _, _, _, _, rfl, _, inferInstance, rfl⟩, True.intro⟩ ?_
  refine DM ?_
  refine DM ?_
  refine DD (vsub rfl rfl (by unfold InR; omega)) rfl ?_
  refine DD (visg (enc := encP) rfl rfl (by omega) hz1) rfl ?_
  refine DD (vldS (enc := encP) rfl hz1) rfl ?_
  refine DM ?_
  refine DM ?_
  refine DD (visg (enc := encP) rfl rfl (by omega) hz2) rfl ?_
  refine DD (vldS (enc := encP) rfl hz2) rfl ?_
  refine DB ?_
  refine vda rfl rfl (fun b1 => ?_)
  refine vds (mone rfl) (vstn rfl rfl rfl rfl rfl) rfl ?_
  refine vdend rfl (vseq (KK2 (QF ?_)))
  refine QN ?_
  refine QF ?_
  refine QN ?_
  refine QQ (veqs rfl rfl rfl rfl rfl rfl) rfl ?_
  refine QM ?_
  refine vsplitd (d := 35) rfl (fun h35 => ?_) (fun h35 => ?_)
  ·
   refine NO4 ?_
   refine QT (vnil ?_)
   refine vcondt rfl (KK2 (QA ?_))
   refine QA (vnil ?_)
   refine vret (vr2 (H' := (bm, _) :: H) Tryz.func185 rfl (.tmp rfl) (.tmp rfl) sb2 ?_)
   (have e : costP c pl o0 to = none := (by rw [hco, hpa]; exact cost_no hz2 (.inl (pt_eq h35))); rw [e]; exact ⟨_, rfl, rfl, _, _, rfl, hk⟩)
  ·
   refine YM ?_
   refine YN ?_
   refine vyes rfl rfl rfl (vxg (vcg (R := fun v H' => v = .bool (clearB c p q) ∧ ∃ l2 n2, H' = (b1, blk (clSt4 p q) 262) :: (bm, mSt l2 n2) :: H ∧ KnS c l2) rfl rfl rfl (VCall.atO (H := (b1, blk (clSt4 p q) 262) :: (bm, mSt l' n') :: H) (d_clear h c bm bc ((b1, blk (clSt4 p q) 262) :: H) p q l' n' hk)) (fun o H' ⟨o', h1, h2, l2, n2, h3, h4⟩ => ⟨_, h2, rfl, l2, n2, by rw [h1, h3], h4⟩)) rfl rfl ?_)
   rintro _ _ ⟨rfl, l2, n2, rfl, hk2⟩
   refine YY (vnot rfl) rfl ?_
   refine QU (vnil ?_)
   refine vcond rfl (fun h40 => ?_) (fun h40 => ?_)
   ·
    refine KK2 (QA ?_)
    refine QA (vnil ?_)
    refine vret (vr2 (H' := (bm, _) :: H) Tryz.func185 rfl (.tmp rfl) (.tmp rfl) sb2 ?_)
    (have e : costP c pl o0 to = none := (by rw [hco, hpa]; exact cost_no hz2 (.inr (nf h40))); rw [e]; exact ⟨_, rfl, rfl, _, _, rfl, hk2⟩)
   ·
    refine vskip (KK2 (QF ?_))
    refine QF ?_
    refine QL ?_
    refine QF ?_
    refine QF ?_
    refine QL ?_
    refine QQ (vsub rfl rfl (by unfold InR; omega)) rfl ?_
    refine QF ?_
    refine QF ?_
    refine QL ?_
    refine QF ?_
    refine QF ?_
    refine QL ?_
    refine QQ (vsub rfl rfl (by unfold InR; omega)) rfl ?_
    refine QB ?_
    refine QQ (vcp rfl rfl rfl (c_Octant (subP p q))) rfl ?_
    refine QA (vnil (vseq ?_))
    refine DR [(.q, 0), (.q, 1), (.q, 2), (.q, 3), (.q, 4), (.q, 5), (.q, 6), (.q, 7), (.q, 8), (.q, 9), (.q, 10), (.q, 11), (.q, 12), (.q, 13), (.q, 14), (.q, 15)] Tryz.mixed ?_
    refine DM ?_
    refine DM ?_
    refine DN ?_
    refine DD (vcq rfl rfl rfl (c_csteps h c bm bc p q hpk hqk hsp1 _)) rfl ?_
    refine DM ?_
    refine DC ?_
    refine DF ?_
    refine DF ?_
    refine DL ?_
    refine DM ?_
    refine DM ?_
    refine DD (vcp rfl rfl rfl (c_turned _ _ ho (octV_bd _))) rfl ?_
    refine DD (vmul rfl rfl (by unfold InR; omega)) rfl ?_
    refine DD (vadd rfl rfl (by unfold InR; omega)) rfl ?_
    refine DD (vadd rfl rfl (by unfold InR; omega)) rfl ?_
    refine DA (vdend rfl (vregion ?_))
    refine QM ?_
    refine QA (vnil (vinblock (vregion ?_)))
    refine QM ?_
    refine QQ (vadd rfl rfl (by unfold InR; omega)) rfl ?_
    refine QA (vnil ?_)
    exact vback (IH (i + 1, octV (subP p q), s + (stepsC c p q + c.turn * turnE o (octV (subP p q))), l2, n2) ⟨by omega, by omega, octV_bd _, ⟨by omega, by push_cast; omega⟩, hk2, by rw [hco, hpa, cost_go hz2 (fun e => h35 (by rw [e])) (nt h40), Nat.add_sub_cancel, ptAt_of hz2]⟩ (by show _ - (i + 1) < _ - i; omega)) ⟨rfl, rfl, rfl, rfl, rfl, rfl, True.intro⟩ sb2
 ·
  refine vexit (k' := _) rfl ?_
  refine vseq ?_
  have htm := turn_mul htu (turnE_bd ho hto)
  refine DR [(.q, 0), (.q, 1), (.q, 2), (.q, 3), (.q, 4), (.q, 5), (.q, 6), (.q, 7), (.q, 8), (.q, 9), (.q, 10), (.q, 11), (.q, 12)] Tryz.mixed ?_
  refine DM ?_
  refine DM ?_
  refine DC ?_
  refine DF ?_
  refine DF ?_
  refine DL ?_
  refine DM ?_
  refine DM ?_
  refine DD (vcp rfl rfl rfl (c_turned _ _ ho hto)) rfl ?_
  refine DD (vmul rfl rfl (by unfold InR; omega)) rfl ?_
  refine DD (vadd rfl rfl (by unfold InR; omega)) rfl ?_
  refine DA ?_
  refine DA (vdend rfl ?_)
  refine vret (vr2 (H' := (bm, _) :: H) Tryz.func185 rfl (.tmp rfl) (.tmp rfl) sb2 ?_)
  (have e : costP c pl o0 to = some (s + c.turn * turnE o to) := (by rw [hco]; exact cost_end (by omega)); rw [e]; exact ⟨_, rfl, rfl, _, _, rfl, hk⟩)
end Go.Proofs.YtoebpndlbldfcaaGreatDoor
namespace Go.Proofs.YtoebpndlbldfcaaGreatDoor
open Go
set_option maxRecDepth 100000
attribute [local irreducible] tightP hullP rootP farP rows endsOf
abbrev vPass (x : List Pt × Int) (oa : Option Addr) (c : Nat) : Value := .agg #[.slice oa x.1.length c, I x.2]
theorem cmp_go {l m : List Pt} {i : Nat} {p q : Pt} (hp : l[i]? = some p) (hq : m[i]? = some q) (h : beforeP p q = 0) : cmpP (l.drop i) (m.drop i) = cmpP (l.drop (i + 1)) (m.drop (i + 1)) := by
  rw [drop_of hp, drop_of hq]; simp only [cmpP]; rw [if_neg (fun e => e h)]
theorem cmp_no {l m : List Pt} {i : Nat} {p q : Pt} (hp : l[i]? = some p) (hq : m[i]? = some q) (h : beforeP p q ≠ 0) : cmpP (l.drop i) (m.drop i) = beforeP p q := by
  rw [drop_of hp, drop_of hq]; simp only [cmpP]; rw [if_pos h]
theorem cmp_1 {l m : List Pt} {i : Nat} {p : Pt} (hp : l[i]? = some p) (h : m.length ≤ i) : cmpP (l.drop i) (m.drop i) = 1 := by
  rw [drop_of hp, List.drop_eq_nil_of_le h]; rfl
theorem cmp_m {l m : List Pt} {i : Nat} (hl : l.length ≤ i) (h : i < m.length) : cmpP (l.drop i) (m.drop i) = -1 := by
  obtain ⟨q, hq⟩ := get_of_lt m (i := i) h
  rw [drop_of hq, List.drop_eq_nil_of_le hl]; rfl
theorem cmp_0 {l m : List Pt} {i : Nat} (hl : l.length ≤ i) (h : m.length ≤ i) : cmpP (l.drop i) (m.drop i) = 0 := by
  rw [List.drop_eq_nil_of_le hl, List.drop_eq_nil_of_le h]; rfl
theorem c_before (a b : Pt) (ha : a.ok) (hb : b.ok) : VPure Tryz.prog 189 [vP a, vP b] (I (beforeP a b)) := by
 unfold Pt.ok at ha hb
 intro H
 refine CV 20 Tryz.func189 ?_
 refine KK2 (BX fun b1 => ?_)
 refine BX fun b2 => ?_
 refine QA (vnil (vseq (KK2 ?_)))
 refine QF ?_
 refine QL ?_
 refine QF ?_
 refine QL ?_
 refine QG (vnil ?_)
 refine vcondd rfl (fun h9 => ?_) (fun h9 => ?_)
 ·
  refine KK2 (QF ?_)
  refine QL ?_
  refine QF ?_
  refine QL ?_
  refine QQ (vsub rfl rfl (by unfold InR; omega)) rfl ?_
  refine QA (vnil ?_)
  refine vret (V1 (H) Tryz.func189 ?_)
  exact ⟨oI (by unfold beforeP; rw [if_pos h9]), rfl⟩
 ·
  refine vskip (KK2 (QF ?_))
  refine QL ?_
  refine QF ?_
  refine QL ?_
  refine QQ (vsub rfl rfl (by unfold InR; omega)) rfl ?_
  refine QA (vnil ?_)
  refine vret (V1 (H) Tryz.func189 ?_)
  exact ⟨oI (by unfold beforeP; rw [if_neg h9]), rfl⟩
theorem q_CompareP (l m : List Pt) (oa ob : Option Addr) (c d : Nat) (H : Heap) [hsl : SlO H oa 2 encP l] [hsm : SlO H ob 2 encP m] (hl : ∀ p ∈ l, p.ok) (hm : ∀ p ∈ m, p.ok) (hbl : l.length ≤ 9223372036854775807) (hbm : m.length ≤ 9223372036854775807) : VHas Tryz.prog 188 [.slice oa l.length c, .slice ob m.length d, .func (.func 189) #[] #[]] (I (cmpP l m)) H H := by
 refine CV 39 Tryz.func188 ?_
 refine KK2 (QA (vnil (vseq (KK2 ?_))))
 refine QM ?_
 refine QQ (vlen rfl) rfl ?_
 refine QM (vnil (vblock ?_))
 refine vwhile (σ := Nat) (fun i => l.length - i) (fun i => [(1, .slice ob m.length d), (2, .func (.func 189) #[] #[]), (0, .slice oa l.length c), (11, .slice oa l.length c), (12, I l.length), (13, I (i : Int))]) (fun i => H) (fun i => i ≤ l.length ∧ cmpP l m = cmpP (l.drop i) (m.drop i)) 0 ⟨Nat.zero_le _, rfl⟩ ⟨rfl, rfl, rfl, rfl, rfl, rfl, True.intro⟩ sb ?_
 rintro i ⟨hil, hco⟩ IH
 change VRun _ _ _ _ _ [(1, .slice ob m.length d), (2, .func (.func 189) #[] #[]), (0, .slice oa l.length c), (11, .slice oa l.length c), (12, I l.length), (13, I (i : Int))] _ (H) _
 refine KK2 (QS (vnil (vseq ?_)))
 refine vcondd rfl (fun h14 => ?_) (fun h14 => ?_)
 ·
  obtain ⟨p, hz⟩ := get_of_lt l (i := i) (by omega)
  have hpk := hl p (List.mem_of_getElem? hz)
  refine vskip (vseq (vblock (KK2 (QM ?_))))
  refine QQ (visg (enc := encP) rfl rfl (by omega) hz) rfl ?_
  refine QQ (vldS (enc := encP) rfl hz) rfl ?_
  refine AL fun b1 => ?_
  refine QA ?_
  refine SN (vnil (vseq (KK2 ?_)))
  refine QM ?_
  refine QM ?_
  refine QQ (vlen rfl) rfl ?_
  refine QQ (vgeq rfl rfl) rfl (vnil ?_)
  refine vcondd rfl (fun h21 => ?_) (fun h21 => ?_)
  ·
   refine KK2 (QA (vnil ?_))
   refine vret (V1 (H) Tryz.func188 ?_)
   exact ⟨oI (by rw [hco, cmp_1 hz (by omega)]), rfl⟩
  ·
   obtain ⟨q, hz2⟩ := get_of_lt m (i := i) (by omega)
   have hqk := hm q (List.mem_of_getElem? hz2)
   refine vskip (KK2 (QM ?_))
   refine QM ?_
   refine QQ (visg (enc := encP) rfl rfl (by omega) hz2) rfl ?_
   refine QQ (vldS (enc := encP) rfl hz2) rfl ?_
   refine AL fun b2 => ?_
   refine SN (KK3 ?_)
   refine QM ?_
   refine QN ?_
   refine QN ?_
   refine QQ (vcq rfl rfl rfl ((c_before p q hpk hqk).has _)) rfl ?_
   refine QA (KK3 ?_)
   refine QM ?_
   refine QG (vnil ?_)
   refine vcondd rfl (fun h31 => ?_) (fun h31 => ?_)
   ·
    refine KK2 (QM ?_)
    refine QA (vnil ?_)
    refine vret (V1 (H) Tryz.func188 ?_)
    exact ⟨oI (by rw [hco, cmp_no hz hz2 (by omega)]), rfl⟩
   ·
    refine vskip (vinblock (vregion (QQ (vadd rfl rfl (by unfold InR; omega)) rfl ?_)))
    refine QM (vnil ?_)
    exact vback (IH (i + 1) ⟨by omega, by rw [hco]; exact cmp_go hz hz2 (by omega)⟩ (by show _ - (i + 1) < _ - i; omega)) ⟨rfl, rfl, rfl, rfl, rfl, rfl, True.intro⟩ sb
 ·
  refine vexit (k' := _) rfl ?_
  refine vseq (KK2 (QM ?_))
  refine QQ (vlen rfl) rfl ?_
  refine QM ?_
  refine QQ (vlen rfl) rfl ?_
  refine QS (vnil ?_)
  refine vcondd rfl (fun h38 => ?_) (fun h38 => ?_)
  ·
   refine KK2 (QA (vnil ?_))
   refine vret (V1 (H) Tryz.func188 ?_)
   exact ⟨oI (by rw [hco, cmp_m (by omega) (by omega)]), rfl⟩
  ·
   refine vskip (KK2 (QA (vnil ?_)))
   refine vret (V1 (H) Tryz.func188 ?_)
   exact ⟨oI (by rw [hco, cmp_0 (by omega) (by omega)]), rfl⟩
theorem q_less (x y : List Pt × Int) (oa ob : Option Addr) (c d : Nat) (H : Heap) [hsl : SlO H oa 2 encP x.1] [hsm : SlO H ob 2 encP y.1] (hl : ∀ p ∈ x.1, p.ok) (hm : ∀ p ∈ y.1, p.ok) (hbl : x.1.length ≤ 9223372036854775807) (hbm : y.1.length ≤ 9223372036854775807) : VHas Tryz.prog 153 [vPass x oa c, vPass y ob d] (.bool (lessP x y)) (H) (H) := by
 refine CV 37 Tryz.func153 ?_
 refine KK2 (BX fun b1 => ?_)
 refine BX fun b2 => ?_
 refine QA (vnil (vseq (vblock (KK2 ?_))))
 refine QF ?_
 refine QL ?_
 refine QF ?_
 refine QL ?_
 refine QG ?_
 refine QA (vnil ?_)
 refine vcondd rfl (fun h5 => ?_) (fun h5 => ?_)
 ·
  refine KK2 (QF ?_)
  refine QL ?_
  refine QF ?_
  refine QL ?_
  refine QS ?_
  refine QA (vnil ?_)
  refine vret (V1 (H) Tryz.func153 ?_)
  exact ⟨oV (by unfold lessP; rw [if_pos h5]), rfl⟩
 ·
  refine KK2 (QF ?_)
  refine QL ?_
  refine QQ (vlen rfl) rfl ?_
  refine QF ?_
  refine QL ?_
  refine QQ (vlen rfl) rfl ?_
  refine QG ?_
  refine QA (vnil ?_)
  refine vcondd rfl (fun h16 => ?_) (fun h16 => ?_)
  ·
   refine KK2 (QF ?_)
   refine QL ?_
   refine QQ (vlen rfl) rfl ?_
   refine QF ?_
   refine QL ?_
   refine QQ (vlen rfl) rfl ?_
   refine QS ?_
   refine QA (vnil ?_)
   refine vret (V1 (H) Tryz.func153 ?_)
   exact ⟨oV (by unfold lessP; rw [if_neg h5, if_pos (by omega)]; congr 1; exact decide_eq_decide.2 (by omega)), rfl⟩
  ·
   refine vskip (vinblock (KK2 (QF ?_)))
   refine QL ?_
   refine QF ?_
   refine QL ?_
   refine QQ (vcq rfl rfl rfl (q_CompareP x.1 y.1 oa ob c d _ hl hm hbl hbm)) rfl ?_
   refine QS ?_
   refine QA (vnil ?_)
   refine vret (V1 (H) Tryz.func153 ?_)
   exact ⟨oV (by unfold lessP; rw [if_neg h5, if_neg (by omega)]), rfl⟩
end Go.Proofs.YtoebpndlbldfcaaGreatDoor
namespace Go.Proofs.YtoebpndlbldfcaaGreatDoor
open Go
set_option maxRecDepth 100000
attribute [local irreducible] tightP hullP rootP farP rows endsOf
def XPass (x : List Pt × Int) (vs : List Value) (Hx : Heap) : Prop := ∃ oa c, vs = [vPass x oa c] ∧ SlO Hx oa 2 encP x.1
def BestI (pre : List (List Pt × Int)) (oa : Option Addr) (n c : Nat) (m : Int) (is : Bool) (B : Heap) : Prop := (firstL lessP none pre = none ∧ oa = none ∧ n = 0 ∧ c = 0 ∧ m = 0 ∧ is = false) ∨ ∃ x, firstL lessP none pre = some x ∧ n = x.1.length ∧ m = x.2 ∧ is = true ∧ SlO B oa 2 encP x.1
theorem BestI.nil {B : Heap} : BestI [] none 0 0 0 false B := .inl ⟨rfl, rfl, rfl, rfl, rfl, rfl⟩
theorem BestI.fst {pre : List (List Pt × Int)} {x : List Pt × Int} {oa : Option Addr} {c : Nat} {B : Heap} (h : firstL lessP none pre = none) (hs : SlO B oa 2 encP x.1) : BestI (pre ++ [x]) oa x.1.length c x.2 true B := .inr ⟨x, by rw [firstL_snoc, h]; rfl, rfl, rfl, rfl, hs⟩
theorem BestI.new {pre : List (List Pt × Int)} {x y : List Pt × Int} {oa : Option Addr} {c : Nat} {B : Heap} (h : firstL lessP none pre = some y) (hl : lessP x y = true) (hs : SlO B oa 2 encP x.1) : BestI (pre ++ [x]) oa x.1.length c x.2 true B := .inr ⟨x, by rw [firstL_snoc, h]; simp only [firstL]; rw [if_pos hl], rfl, rfl, rfl, hs⟩
theorem BestI.old {pre : List (List Pt × Int)} {x y : List Pt × Int} {oa : Option Addr} {c : Nat} {B : Heap} (h : firstL lessP none pre = some y) (hl : lessP x y = false) (hs : SlO B oa 2 encP y.1) : BestI (pre ++ [x]) oa y.1.length c y.2 true B := .inr ⟨y, by rw [firstL_snoc, h]; simp only [firstL]; rw [hl]; rfl, rfl, rfl, rfl, hs⟩
theorem okPass_of {xs pre post : List (List Pt × Int)} {x : List Pt × Int} {Ok : List Pt × Int → Prop} (h : ∀ x ∈ xs, Ok x) (e : xs = pre ++ x :: post) : Ok x ∧ ∀ y, firstL lessP none pre = some y → Ok y := by
  subst e
  refine ⟨h x (by simp), fun y hy => ?_⟩
  rcases firstL_mem hy with hh | hh
  · cases hh
  · exact h y (List.mem_append_left _ hh)
section
open Classical in
theorem pmA (X L B : Heap) : (X ++ (L ++ B)).Perm (L ++ (X ++ B)) := perm_of fun a => by simp only [List.count_append]; omega
end
theorem d_first {xs : List (List Pt × Int)} {kit : FuncId} [TFn Tryz.prog kit] {caps : List Value} {Hi : Heap} {R : Heap → Prop} (hit : VItK Tryz.prog kit caps XPass xs Hi R) (hok : ∀ x ∈ xs, (∀ p ∈ x.1, p.ok) ∧ x.1.length ≤ 9223372036854775807) : VCall Tryz.prog 151 [.func (.func kit) #[] caps.toArray, .func (.func 153) #[] #[]].toArray Hi (fun o H' => ∃ oa n c m is B Hi', H' = Hi' ++ B ∧ o = .val (tup [.agg #[.slice oa n c, I m], .bool is]) ∧ BestI xs oa n c m is B ∧ R Hi') := by
 refine CV 20 Tryz.func151 ?_
 refine KK2 (BX fun b1 => ?_)
 refine AL fun b2 => ?_
 refine AL fun b3 => (vnil (vseq (KK2 ?_)))
 refine QM (vnil (vblock ?_))
 refine vrangeK (X := XPass) (xs := xs) (caps := caps) (Hi := Hi) (R := R) (Hc := ((b3, blk [.bool false] 4) :: (b2, blk [.slice Option.none 0 0, I 0] 223) :: (b1, blk [.func (.func 153) #[] #[]] 268) :: [])) (ps := [8]) (fun pre H1 => ∃ oa n c m is B, BestI pre oa n c m is B ∧ H1 = (b3, blk [.bool is] 4) :: (b2, blk [.slice oa n c, I m] 223) :: (b1, blk [.func (.func 153) #[] #[]] 268) :: B) (fun _ _ => False) rfl (hit) (List.perm_append_comm (l₁ := [(b3, blk [.bool false] 4), (b2, blk [.slice Option.none 0 0, I 0] 223), (b1, blk [.func (.func 153) #[] #[]] 268)]) (l₂ := Hi)) ⟨_, _, _, _, _, [], BestI.nil, rfl⟩ (fun x vs Hx ⟨oa, c, h, _⟩ => by rw [h]; rfl) rfl ?_ ?_ ?_
 ·
  intro lp rec pre x post vs Hx H1 hrs hxs hX hI
  obtain ⟨oa1, c1, rfl, hs1⟩ := hX
  obtain ⟨oa, n, c, m, is, B, hB, rfl⟩ := hI
  obtain ⟨⟨hok1, hlen1⟩, hok2⟩ := okPass_of hok hxs
  refine VRun.perm (H' := (lp, Obj.loop rec) :: (b3, blk [.bool is] 4) :: (b2, blk [.slice oa n c, I m] 223) :: (b1, blk [.func (.func 153) #[] #[]] 268) :: (Hx ++ B)) ((pmA Hx [(b3, blk [.bool is] 4), (b2, blk [.slice oa n c, I m] 223), (b1, blk [.func (.func 153) #[] #[]] 268)] B).cons _) ?_
  refine vregion (AL fun b4 => ?_)
  rcases hB with ⟨hf, rfl, rfl, rfl, rfl, rfl⟩ | ⟨x0, hf, rfl, rfl, rfl, hs0⟩
  ·
   refine SN (vnil ?_)
   refine vbegin hrs ?_
   refine vblock (KK2 (QL ?_))
   refine QQ (vnot rfl) rfl ?_
   refine QM ?_
   refine NO4 ?_
   refine QT (vnil ?_)
   refine vcondt rfl (vregion (QN ?_))
   refine SN ?_
   refine SU (vnil (vinblock ?_))
   refine VRun.sub (H' := (lp, Obj.loop (bsy rec)) :: (b3, blk [.bool true] 4) :: (b2, blk [.slice oa1 x.1.length c1, I x.2] 223) :: (b1, blk [.func (.func 153) #[] #[]] 268) :: (Hx ++ B)) sb ?_
   refine vroundI_end (.refl _) ?_
   exact ⟨_, _, _, _, _, _, BestI.fst hf inferInstance, rfl⟩
  ·
   obtain ⟨hok3, hlen3⟩ := hok2 _ hf
   refine SN (vnil ?_)
   refine vbegin hrs ?_
   refine vblock (KK2 (QL ?_))
   refine QQ (vnot rfl) rfl ?_
   refine QM ?_
   refine YL ?_
   refine YN ?_
   refine YN ?_
   refine YY (vcq rfl rfl rfl (q_less x x0 oa1 oa c1 c _ hok1 hok3 hlen1 hlen3)) rfl ?_
   refine QU (vnil ?_)
   refine vcond rfl (fun h16 => ?_) (fun h16 => ?_)
   ·
    refine vregion (QN ?_)
    refine SN ?_
    refine SU (vnil (vinblock ?_))
    refine VRun.sub (H' := (lp, Obj.loop (bsy rec)) :: (b3, blk [.bool true] 4) :: (b2, blk [.slice oa1 x.1.length c1, I x.2] 223) :: (b1, blk [.func (.func 153) #[] #[]] 268) :: (Hx ++ B)) sb ?_
    refine vroundI_end (.refl _) ?_
    exact ⟨_, _, _, _, _, _, BestI.new hf h16 inferInstance, rfl⟩
   ·
    refine vskip (vinblock ?_)
    refine VRun.sub (H' := (lp, Obj.loop (bsy rec)) :: (b3, blk [.bool true] 4) :: (b2, blk [.slice oa x0.1.length c, I x0.2] 223) :: (b1, blk [.func (.func 153) #[] #[]] 268) :: (Hx ++ B)) sb ?_
    refine vroundI_end (.refl _) ?_
    exact ⟨_, _, _, _, _, _, BestI.old hf h16 inferInstance, rfl⟩
 ·
  intro r1 Hi1 H1 hR hI
  obtain ⟨oa, n, c, m, is, B, hB, rfl⟩ := hI
  refine VRun.perm (H' := (r1, .deferred (some [])) :: (b3, blk [.bool is] 4) :: (b2, blk [.slice oa n c, I m] 223) :: (b1, blk [.func (.func 153) #[] #[]] 268) :: (Hi1 ++ B)) ((pmA Hi1 [(b3, blk [.bool is] 4), (b2, blk [.slice oa n c, I m] 223), (b1, blk [.func (.func 153) #[] #[]] 268)] B).cons _) ?_
  refine vinblock (vseq ?_)
  refine DR [(.q, 0), (.q, 1), (.q, 2), (.q, 3)] Tryz.mixed ?_
  refine DN ?_
  refine DL ?_
  refine vdqn (mone rfl) (vstns rfl rfl rfl rfl rfl) rfl ?_
  refine vdqn (mone rfl) (vst1s rfl rfl rfl rfl) rfl ?_
  refine vdend rfl ?_
  refine vret (vret_mark (vr2 (H' := Hi1 ++ B) Tryz.func151 rfl (.celln rfl rfl) (.cell1 rfl rfl) sb ?_))
  exact ⟨oa, n, c, m, is, B, Hi1, rfl, rfl, hB, hR⟩
 ·
  intro r1 c Hi1 H1 hR hI
  exact hI.elim
end Go.Proofs.YtoebpndlbldfcaaGreatDoor
namespace Go.Proofs.YtoebpndlbldfcaaGreatDoor
open Go
set_option maxRecDepth 100000
attribute [local irreducible] tightP hullP rootP farP rows endsOf
theorem encP_len (x : Pt) : (encP x).length = 2 := rfl
instance tApPt : TAp Tryz.prog 132 44 2 16 := mkTAp (z := .agg [I 0, I 0].toArray) (by kernel_rfl) (by kernel_rfl) rfl
def passF (c : Cz) (a b : Ps) (l : List Pt) : Option (List Pt × Int) := (costP c l a.oc b.oc).map fun n => (l, n)
theorem pass_no {c : Cz} {a b : Ps} {l : List Pt} (h : costP c l a.oc b.oc = none) : passF c a b l = none := by unfold passF; rw [h]; rfl
theorem pass_yes {c : Cz} {a b : Ps} {l : List Pt} {v : Int} (h : costP c l a.oc b.oc = some v) : passF c a b l = some (l, v) := by unfold passF; rw [h]; rfl
theorem VY.conv {P : Program} {y : Value} {args : List Value} {H : Heap} {R R' : Bool → Heap → Prop} (h : VY P y args H R) (hr : ∀ b H', R b H' → ∃ H2, H'.Perm H2 ∧ R' b H2) : VY P y args H R' :=
  fun w hE => let ⟨n, h1, h2⟩ := h w hE; ⟨n, h1, h2.mono fun v w2 ⟨H2, b, hF, hv, hR⟩ => let ⟨H3, hp, hR'⟩ := hr _ _ hR; ⟨H3, b, hF.perm (.refl _) hp, hv, hR'⟩⟩
section
open Classical in
theorem pmB (B C M G : Heap) : ((B ++ C) ++ (M ++ G)).Perm ((B ++ []) ++ (M ++ (G ++ C))) := perm_of fun a => by simp only [List.count_append, List.count_nil]; omega
open Classical in
theorem pmC (A M G : Heap) : (A ++ (M ++ G)).Perm (M ++ (G ++ A)) := perm_of fun a => by simp only [List.count_append]; omega
end
theorem VY.yld {P : Program} {y : Value} {vs : List Value} {B C G : Heap} {m : Nat × Obj} {R : Bool → Heap → Prop} (h : VY P y vs (B ++ C) R) : VY P y vs ((B ++ []) ++ (m :: (G ++ C))) (fun b H' => ∃ C', H' = m :: (G ++ C') ∧ R b C') :=
  ((h.frame (B := m :: G)).perm (pmB B C [m] G)).conv fun b H' ⟨A', e, hR⟩ => ⟨m :: (G ++ A'), by rw [e]; exact pmC A' [m] G, A', rfl, hR⟩
def Yld {α : Type} (P : Program) (Y : Value) (X : α → List Value → Heap → Prop) (xs : List α) (J : List α → Heap → Prop) (Jx : Heap → Prop) : Prop :=
  ∀ pre x post, xs = pre ++ x :: post → ∀ vs Hx H1, X x vs Hx → J pre H1 → VY P Y vs (Hx ++ H1) (fun b H2 => if b = true then J (pre ++ [x]) H2 else Jx H2)
instance HAt.appL {A B : Heap} {b : Nat} {cs : List Value} {T : TypeId} [h : HAt A b cs T] : HAt (A ++ B) b cs T := ⟨List.mem_append_left _ h.mem⟩
theorem d_CloneP (l : List Pt) (oa : Option Addr) (n c : Nat) (hn : l.length = n) (hmax : n ≤ 100000) (H : Heap) [hsl : SlO H oa 2 encP l] : VCall Tryz.prog 186 [sli oa n c].toArray H (fun o H' => ∃ v, o = .val v ∧ ∃ B, H' = B ++ H ∧ ∃ oa' c', v = .slice oa' n c' ∧ OwnS 44 2 (.slice oa' n c') n (l.flatMap encP) B) := by
 refine CV 8 Tryz.func186 ?_
 refine KK2 (QA (vnil (vseq (KK2 ?_))))
 refine QM ?_
 refine QQ (veqsn rfl rfl) rfl (vnil ?_)
 refine vcond rfl (fun h4 => ?_) (fun h4 => ?_)
 ·
  refine KK2 (QA (vnil ?_))
  refine vret (V1 (H) Tryz.func186 ?_)
  (obtain rfl : oa = Option.none := (by cases oa with | none => rfl | some a => cases h4); have hl0 : l = [] := (by cases hl : l with | nil => rfl | cons z r => (subst hl; obtain ⟨_, a, _, h, _⟩ := hsl.el 0 z rfl; cases h)); subst hl0; subst hn; exact ⟨_, rfl, [], rfl, Option.none, 0, rfl, OwnS.nil⟩)
 ·
  refine vskip (KK2 ?_)
  refine vone rfl (vxg vbs0 rfl rfl ?_)
  rintro _ _ ⟨b1, rfl, rfl⟩
  refine QM ?_
  refine vone rfl (vxg (vappL (F := fun C => C ++ H) (H0 := H) (B := [(b1, blk [] 44)]) (xs := []) (enc := encP) (l := l) (fun C => .refl _) rfl rfl OwnS.empty inferInstance hn encP_len (by decide) (one1 (fun _ => rfl) l) (by simp only [maxLen]; omega) (by omega)) rfl rfl ?_)
  rintro _ _ ⟨B', hown, rfl⟩
  rw [Nat.zero_add, List.nil_append] at hown
  obtain ⟨oa', c', rfl, hle⟩ := hown.shape
  refine QA (vnil ?_)
  refine vret (V1 (B' ++ H) Tryz.func186 ?_)
  exact ⟨_, rfl, B', rfl, oa', c', rfl, hown⟩
theorem d_offer (h : CH) (c : Cz) (a b : Ps) (bm bc kc ka kb ky : Nat) (Y : Value) {xs : List (List Pt × Int)} {J : List (List Pt × Int) → Heap → Prop} {Jx : Heap → Prop} (hy : Yld Tryz.prog Y XPass xs J Jx) (hok : okCz c) (hpa : okPs a) (hpb : okPs b) (G : Heap) [hcz : CzO G h c] [hat0 : HAt G bc (clCh h c bm) 173] [hat1 : HAt G kc [ptr bc] 165] [hat2 : HAt G ka (clPs a) 181] [hat3 : HAt G kb (clPs b) 181] [hat4 : HAt G ky [Y] 269] (l : List Pt) (oa : Option Addr) (cp : Nat) [hsl : SlO G oa 2 encP l] (hl : ∀ p ∈ l, p.ok) (nn : Nat) (hnn : l.length = nn) (hlen : 0 < l.length ∧ l.length ≤ 8) (ml : List EnS) (n : Nat) (hk : KnS c ml) (Hc : Heap) (pre post : List (List Pt × Int)) (hxs : xs = pre ++ ((passF c a b l).toList ++ post)) (hJ : J pre Hc) : VCall Tryz.prog 184 [.slice oa nn cp, ptr kc, ptr ka, ptr kb, ptr ky].toArray ((bm, mSt ml n) :: (G ++ Hc)) (fun o H' => ∃ ok ml' n' Hc', H' = (bm, mSt ml' n') :: (G ++ Hc') ∧ KnS c ml' ∧ o = .val (.bool ok) ∧ if ok = true then J (pre ++ (passF c a b l).toList) Hc' else Jx Hc') := by
 subst hnn
 refine CV 29 Tryz.func184 ?_
 refine KK2 (QA (KK3 ?_))
 refine QL ?_
 refine QM ?_
 refine QF ?_
 refine QL ?_
 refine QF ?_
 refine QL ?_
 refine vone rfl (vxg (vcg (R := fun v H' => ∃ l2 n2, v = tup [I ((costP c l a.oc b.oc).getD 0), .bool (costP c l a.oc b.oc).isSome] ∧ H' = (bm, mSt l2 n2) :: (G ++ Hc) ∧ KnS c l2) rfl rfl rfl (d_cost h c bm bc (G ++ Hc) l oa cp a.oc b.oc ml n hk hok hl hlen hpa.2 hpb.2) (fun o H' ⟨o', h1, h2, l2, n2, h3, h4⟩ => ⟨_, h2, l2, n2, rfl, by rw [h1, h3], h4⟩)) rfl rfl ?_)
 rintro _ _ ⟨l2, n2, rfl, rfl, hk2⟩
 cases hcst : costP c l a.oc b.oc
 ·
  refine QM ?_
  refine QX ?_
  refine QX ?_
  refine QA ?_
  refine QA (vnil (vseq ?_))
  refine DR [(.q, 0), (.q, 1), (.q, 2), (.q, 3), (.q, 4), (.q, 5), (.q, 6), (.q, 7), (.q, 8), (.q, 9), (.q, 10)] Tryz.mixed ?_
  refine DM ?_
  refine DD (vnot rfl) rfl ?_
  refine DM ?_
  refine NP4 ?_
  refine NP2 ?_
  refine DT ?_
  refine DA (vdend rfl ?_)
  refine vret (V1 ((bm, mSt l2 n2) :: (G ++ Hc)) Tryz.func184 ?_)
  exact ⟨true, l2, n2, Hc, rfl, hk2, rfl, by rw [pass_no hcst, if_pos rfl]; simpa using hJ⟩
 ·
  rename_i v
  have hxs' : xs = pre ++ (l, v) :: post := by rw [hxs, pass_yes hcst]; rfl
  refine QM ?_
  refine QX ?_
  refine QX ?_
  refine QA ?_
  refine QA (vnil (vseq ?_))
  refine DR [(.q, 0), (.q, 1), (.q, 2), (.q, 3), (.q, 4), (.q, 6), (.g, 5), (.q, 7), (.w, 8), (.q, 9), (.q, 10)] Tryz.mixed ?_
  refine DM ?_
  refine DD (vnot rfl) rfl ?_
  refine DM ?_
  refine WL ?_
  refine WM ?_
  refine WM ?_
  refine vdgl rfl (myes rfl rfl rfl) (vcg rfl rfl rfl (d_CloneP l oa _ cp rfl (by omega) _) (fun o H' h => h)) rfl rfl ?_
  rintro _ B ⟨oa2, c2, rfl, hown⟩
  refine WB ?_
  refine vdw (appHO_of _ _) (myes rfl rfl rfl) (vcy rfl rfl (VY.yld (hy pre (l, v) post hxs' _ B Hc ⟨oa2, c2, rfl, hown.slo (fun _ => rfl) (by omega) rfl rfl⟩ hJ))) rfl rfl ?_
  rintro _ _ ⟨bb, rfl, Hc', rfl, hJ'⟩
  rcases bb with _ | _
  ·
   refine DU ?_
   refine DA (vdend rfl ?_)
   refine vret (V1 ((bm, mSt l2 n2) :: (G ++ Hc')) Tryz.func184 ?_)
   exact ⟨_, l2, n2, Hc', rfl, hk2, rfl, by rw [pass_yes hcst]; exact hJ'⟩
  ·
   refine DU ?_
   refine DA (vdend rfl ?_)
   refine vret (V1 ((bm, mSt l2 n2) :: (G ++ Hc')) Tryz.func184 ?_)
   exact ⟨_, l2, n2, Hc', rfl, hk2, rfl, by rw [pass_yes hcst]; exact hJ'⟩
end Go.Proofs.YtoebpndlbldfcaaGreatDoor
