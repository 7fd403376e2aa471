/-
  The walk of works. The walk of works. The walk of WatchGuards.
-/
import Derived.Test.YtaplkoimhecacaaDoorTb17
namespace Go.Proofs.YtaplkoimhecacaaDoor
open Go
set_option maxRecDepth 100000

attribute [local irreducible] tightP hullP rootP farP rows endsOf
theorem d_scene8 (H : Heap) : VCall Tryd.prog 30 [I 8].toArray H (fun o H' => ∃ v, o = .val v ∧ ∃ B, H' = B ++ H ∧ ∃ h, v = vSc h (scP 8) ∧ ScO B h (scP 8)) := by
  refine (d_scene 8 (by omega) H).mono fun o H' ⟨bs, o1, k1, o2, k2, o3, k3, o4, k4, B, h1, h2, h3, h4, h5, h6, h7, h8⟩ => ⟨_, h1, (bs, blk [I 0, .string annB, I 0, I 6, I 10] 49) :: B, h2, _, rfl, ?_⟩
  have h3 : SlO B o1 8 clR (scP 8).ship := h3
  have h4 : SlO B o2 8 clR (scP 8).src := h4
  have h5 : SlO B o3 1 encB (scP 8).eyes := h5
  have h6 : SlO B o4 1 encB (scP 8).ears := h6
  refine ⟨inferInstance, inferInstance, inferInstance, inferInstance, SlO.flat clSg_len rfl, ⟨h7, h8⟩, fun x hx => ?_, by decide⟩
  rw [List.mem_singleton.1 hx]; decide
section
variable (h : SH) (H : Heap) [hsc : ScO H h (scP 8)] [hgl : Glob H]
theorem w_Sighted : VHas Tryd.prog 27 [vSc h (scP 8), I 0] (tup [vR ⟨⟨5, 10⟩, ⟨0, 7⟩, ⟨6, 14⟩, ⟨0, 10⟩⟩, I 0]) H H := by
  have := c_Sighted h (scP 8) H 0
  rw [ev_sighted] at this; exact this
theorem w_Track : VCall Tryd.prog 26 [vWn numW, vSc h (scP 8), .string annB].toArray H (fun o H' => ∃ v, o = .val v ∧ ∃ B, H' = B ++ H ∧ ∃ oa c oc cc, v = tup [.slice oa 8 c, .slice oc 8 cc, I 0] ∧ SlO B oa 1 encB [true, true, true, true, false, false, false, false] ∧ SlO B oc 8 clR (whL numW (scP 8) annB 8)) := by
  refine (d_Track numW h (scP 8) H annB).mono fun o H' ⟨v, h1, B, h2, oa, c, oc, cc, h3, h4, h5⟩ => ⟨v, h1, B, h2, oa, c, oc, cc, ?_, ?_, ?_⟩
  · rw [h3, ev_track]; simp only [knL_len, whL_len]
  · rw [ev_track] at h4; rw [← ev_kn]; exact h4
  · rw [ev_track] at h5; exact h5
theorem w_Danger : VCall Tryd.prog 19 [vWn numW, vSc h (scP 8)].toArray H (fun o H' => ∃ v, o = .val v ∧ ∃ B, H' = B ++ H ∧ ∃ oa c, v = tup [.slice oa 8 c, I 0] ∧ SlO B oa 1 encB [false, true, true, true, false, false, false, false]) := by
  refine (d_Danger numW h (scP 8) H).mono fun o H' ⟨v, h1, B, h2, oa, c, h3, h4, h5⟩ => ⟨v, h1, B, h2, oa, c, ?_, ?_⟩
  · rw [h3, ev_danger]; rfl
  · rw [ev_danger] at h5; exact h5
theorem w_Starts : VCall Tryd.prog 20 [vWn numW, vSc h (scP 8)].toArray H (fun o H' => ∃ v, o = .val v ∧ ∃ B, H' = B ++ H ∧ ∃ oa c, v = tup [.slice oa 8 c, I 0] ∧ SlO B oa 1 encB [false, false, false, false, false, true, true, true]) := by
  refine (d_Starts numW h (scP 8) H).mono fun o H' ⟨v, h1, B, h2, oa, c, h3, h5⟩ => ⟨v, h1, B, h2, oa, c, ?_, ?_⟩
  · rw [h3, ev_starts]; rfl
  · rw [ev_starts] at h5; exact h5
theorem w_Best : VCall Tryd.prog 23 [vWn numW, vSc h (scP 8)].toArray H (fun o H' => ∃ v, o = .val v ∧ ∃ B, H' = B ++ H ∧ ∃ oa c, v = tup [.slice oa 8 c, I 1, I 0] ∧ SlO B oa 1 encI [0, 0, 0, 0, 0, 1, 2, 3]) := by
  refine (d_Best numW h (scP 8) H).mono fun o H' ⟨v, h1, B, h2, oa, c, h3, h5⟩ => ⟨v, h1, B, h2, oa, c, ?_, ?_⟩
  · rw [h3, ev_best]; rfl
  · rw [ev_best] at h5; exact h5
theorem w_Judge (oa : Option Addr) (c : Nat) [hms : SlO H oa 1 encI [0, 0, 0, 0, 1, 2, 3, 3]] : VHas Tryd.prog 18 [vWn numW, vSc h (scP 8), .slice oa 8 c] (tup [I 4, I 3, I 0]) H H := by
  have := c_Judge numW h (scP 8) H [0, 0, 0, 0, 1, 2, 3, 3] oa c (by decide)
  rw [ev_judge] at this; exact this
end
theorem w_Guard : VPure Tryd.prog 15 [vWn numW, I 20, I 1] (tup [I 4, I 0]) := by
  have := c_Guard numW 20 1
  rw [ev_guard] at this; exact this
theorem w_Keeper (H : Heap) : VCall Tryd.prog 42 [vWn numW].toArray H (fun o H' => ∃ v, o = .val v ∧ ∃ B, H' = B ++ H ∧ ∃ b, v = tup [ptr b, I 0]) := by
  refine (d_NewKeeper numW H).mono fun o H' hh => ?_
  rcases hh with ⟨_, b, h1, h2⟩ | ⟨h1, _⟩
  · exact ⟨_, h1, [_], h2, b, rfl⟩
  · exact absurd okW_num h1

end Go.Proofs.YtaplkoimhecacaaDoor
namespace Go.Proofs.YtaplkoimhecacaaDoor
open Go
set_option maxRecDepth 100000
attribute [local irreducible] tightP hullP rootP farP rows endsOf
theorem w_AlikeB {H : Heap} {b T : Nat} {cs : List Value} (l : List Bool) (oa : Option Addr) (n c : Nat) [ht : HAt H b cs T] [SlO H oa 1 encB l] (hcs : cs = l.flatMap encB) (hn : l.length = n) (hm : n ≤ 1000) : VHas Tryd.prog 33 [sli oa n c, sli (some ⟨b, 0, Option.none⟩) n n] (.bool true) H H := by
  haveI : SlO H (some ⟨b, 0, Option.none⟩) 1 encB l := SlO.flat encB_len hcs
  have := c_AlikeB l l oa (some ⟨b, 0, Option.none⟩) n n c n hn hn (by omega) H
  rw [decide_eq_true rfl] at this; exact this
theorem w_AlikeI {H : Heap} {b T : Nat} {cs : List Value} (l : List Int) (oa : Option Addr) (n c : Nat) [ht : HAt H b cs T] [SlO H oa 1 encI l] (hcs : cs = l.flatMap encI) (hn : l.length = n) (hm : n ≤ 1000) : VHas Tryd.prog 45 [sli oa n c, sli (some ⟨b, 0, Option.none⟩) n n] (.bool true) H H := by
  haveI : SlO H (some ⟨b, 0, Option.none⟩) 1 encI l := SlO.flat encI_len hcs
  have := c_AlikeI l l oa (some ⟨b, 0, Option.none⟩) n n c n hn hn (by omega) H
  rw [decide_eq_true rfl] at this; exact this

section
variable {P : Program} {N : Nat} {E : Env} {D : List Deferred} {H : Heap} {d : Nat} {x y : Operand} {T ty : TypeId} {pos : String} {af : Array Edge} {g : Option (Nat × Bool)}
theorem vnep {a : Addr} {T' e : TypeId} (hT : P.underlying T = some (.pointer e)) (hx : ev E x = some (.pointer (some a))) (hy : ev E y = some (.pointer Option.none)) :
    OQ P N E D H ⟨some d, .binOp .neq T x y T', ty, pos, af, g⟩ (.bool true) :=
  ov (by simp) (fun t w hA _ => by
    have h1 : ∀ n, (Op.equalIn (n + 1) T (.pointer (some a)) (.pointer Option.none)).run P w = .ok false w := fun n => by simp [Op.equalIn, run_underlying hT]
    have h2 : (Op.equal T (.pointer (some a)) (.pointer Option.none)).run P w = .ok false w := h1 9999
    simp [execOp, ev_eval hA hx, ev_eval hA hy, eqGuard, binOp, h2, Result.andThen])
end


theorem w_Judge2 {b T : Nat} {cs : List Value} (h : SH) (H : Heap) [hsc : ScO H h (scP 8)] [hgl : Glob H] [ht : HAt H b cs T] (hcs : cs = ([0, 0, 0, 0, 1, 2, 3, 3] : List Int).flatMap encI) : VHas Tryd.prog 18 [vWn numW, vSc h (scP 8), .slice (some ⟨b, 0, Option.none⟩) 8 8] (tup [I 4, I 3, I 0]) H H := by
  haveI : SlO H (some ⟨b, 0, Option.none⟩) 1 encI [0, 0, 0, 0, 1, 2, 3, 3] := SlO.flat encI_len hcs
  exact w_Judge h H _ _

/-- paravane/paravanelaw06.works -/
theorem c_works (H : Heap) [hgl : Glob H] : VHas Tryd.prog 17 [] (.bool true) (H) (H) := by
 refine vcall_of_vrun Tryd.func17 rfl (N := 172) rfl rfl ?_
 refine vseq ?_
 refine vregion ?_
 refine vone rfl (vxq (vas rfl) rfl rfl ?_)
 refine vnil ?_
 refine vseq ?_
 refine vregion ?_
 refine vone rfl (vxq (vcp rfl rfl rfl (c_numbersOf )) rfl rfl ?_)
 refine vone rfl (vxg (vcg rfl rfl rfl (d_scene8 _) (fun o H' h => h)) rfl rfl ?_)
 rintro _ _ ⟨B, rfl, ⟨h, rfl, hsc⟩⟩
 refine vone rfl (vxa valloc rfl rfl (fun b1 => ?_))
 refine vone rfl (vxa valloc rfl rfl (fun b2 => ?_))
 refine vone rfl (vxs (vstn rfl rfl rfl rfl rfl) rfl ?_)
 refine vone rfl (vxs (vstn rfl rfl rfl rfl rfl) rfl ?_)
 refine vnil ?_
 refine vseq ?_
 refine vregion ?_
 refine vone rfl (vxq (vldn rfl rfl) rfl rfl ?_)
 refine vone rfl (vxq (vcq rfl rfl rfl (w_Sighted h _)) rfl rfl ?_)
 refine vone rfl (vxq (vmv rfl) rfl rfl ?_)
 refine vone rfl (vxq (vex rfl rfl) rfl rfl ?_)
 refine vone rfl (vxq (vex rfl rfl) rfl rfl ?_)
 refine vone rfl (vxa valloc rfl rfl (fun b3 => ?_))
 refine vone rfl (vxs (vstn rfl rfl rfl rfl rfl) rfl ?_)
 refine vone rfl (vxq (vas rfl) rfl rfl ?_)
 refine vnil ?_
 refine vseq ?_
 refine vregion ?_
 refine vone rfl (vxq (vldn rfl rfl) rfl rfl ?_)
 refine vone rfl (vxq (vldn rfl rfl) rfl rfl ?_)
 refine vone rfl (vxg (vcg rfl rfl rfl (w_Track h _) (fun o H' h => h)) rfl rfl ?_)
 rintro _ _ ⟨BT, rfl, ⟨oa1, c1, oc1, cc1, rfl, hk1, hk2⟩⟩
 refine vone rfl (vxq (vmv rfl) rfl rfl ?_)
 refine vone rfl (vxq (vex rfl rfl) rfl rfl ?_)
 refine vone rfl (vxq (vex rfl rfl) rfl rfl ?_)
 refine vone rfl (vxq (vex rfl rfl) rfl rfl ?_)
 refine vone rfl (vxq (vas rfl) rfl rfl ?_)
 refine vone rfl (vxq (vas rfl) rfl rfl ?_)
 refine vone rfl (vxq (vas rfl) rfl rfl ?_)
 refine vnil ?_
 refine vseq ?_
 refine vregion ?_
 refine vone rfl (vxq (vldn rfl rfl) rfl rfl ?_)
 refine vone rfl (vxq (vldn rfl rfl) rfl rfl ?_)
 refine vone rfl (vxg (vcg rfl rfl rfl (w_Danger h _) (fun o H' h => h)) rfl rfl ?_)
 rintro _ _ ⟨BD, rfl, ⟨oa2, c2, rfl, hk3⟩⟩
 refine vone rfl (vxq (vmv rfl) rfl rfl ?_)
 refine vone rfl (vxq (vex rfl rfl) rfl rfl ?_)
 refine vone rfl (vxq (vex rfl rfl) rfl rfl ?_)
 refine vone rfl (vxq (vas rfl) rfl rfl ?_)
 refine vone rfl (vxq (vas rfl) rfl rfl ?_)
 refine vnil ?_
 refine vseq ?_
 refine vregion ?_
 refine vone rfl (vxq (vldn rfl rfl) rfl rfl ?_)
 refine vone rfl (vxq (vldn rfl rfl) rfl rfl ?_)
 refine vone rfl (vxg (vcg rfl rfl rfl (w_Starts h _) (fun o H' h => h)) rfl rfl ?_)
 rintro _ _ ⟨BS, rfl, ⟨oa3, c3, rfl, hk4⟩⟩
 refine vone rfl (vxq (vmv rfl) rfl rfl ?_)
 refine vone rfl (vxq (vex rfl rfl) rfl rfl ?_)
 refine vone rfl (vxq (vex rfl rfl) rfl rfl ?_)
 refine vone rfl (vxq (vas rfl) rfl rfl ?_)
 refine vone rfl (vxq (vas rfl) rfl rfl ?_)
 refine vnil ?_
 refine vseq ?_
 refine vseq ?_
 refine vdraw0 [(.q, 0), (.q, 1), (.q, 2), (.q, 3), (.q, 4), (.q, 5), (.q, 6), (.q, 7), (.q, 8), (.q, 9), (.q, 10), (.q, 11), (.q, 12), (.q, 13), (.q, 14), (.q, 15), (.q, 16), (.q, 17), (.q, 18), (.q, 19), (.q, 20), (.q, 21), (.q, 22), (.q, 23), (.q, 24), (.q, 25), (.q, 26), (.q, 27), (.q, 28), (.q, 29), (.q, 30), (.q, 31), (.q, 32), (.q, 33), (.q, 34), (.q, 35), (.q, 36), (.q, 37), (.q, 38), (.q, 39), (.q, 40), (.q, 41), (.q, 42), (.q, 43), (.q, 44), (.q, 45), (.q, 46), (.q, 47), (.q, 48), (.q, 49), (.q, 50), (.q, 51), (.q, 52), (.q, 53)] Tryd.mixed (by kernel_rfl) (by kernel_rfl) ?_
 refine vdq (mone rfl) (vmv rfl) rfl rfl ?_
 refine vdq (mone rfl) (vneq rfl rfl) rfl rfl ?_
 refine vdknow (d := 45) (b' := false) rfl (by decide) ?_
 refine vdq (mone rfl) (vmv rfl) rfl rfl ?_
 refine vdq (myes rfl rfl rfl) (vmv rfl) rfl rfl ?_
 refine vdq (myes rfl rfl rfl) (vneq rfl rfl) rfl rfl ?_
 refine vdknow (d := 48) (b' := false) rfl (by decide) ?_
 refine vdq (mone rfl) (vpkf rfl rfl) rfl rfl ?_
 refine vdq (mone rfl) (vmv rfl) rfl rfl ?_
 refine vdq (myes rfl rfl rfl) (vmv rfl) rfl rfl ?_
 refine vdq (myes rfl rfl rfl) (vneq rfl rfl) rfl rfl ?_
 refine vdknow (d := 52) (b' := false) rfl (by decide) ?_
 refine vdq (mone rfl) (vpkf rfl rfl) rfl rfl ?_
 refine vdq (mone rfl) (vmv rfl) rfl rfl ?_
 refine vdq (myes rfl rfl rfl) (vmv rfl) rfl rfl ?_
 refine vdq (myes rfl rfl rfl) (vneq rfl rfl) rfl rfl ?_
 refine vdknow (d := 56) (b' := false) rfl (by decide) ?_
 refine vdq (mone rfl) (vpkf rfl rfl) rfl rfl ?_
 refine vdq (mone rfl) (vmv rfl) rfl rfl ?_
 refine vdq (myes rfl rfl rfl) (vldn rfl rfl) rfl rfl ?_
 refine vdq (myes rfl rfl rfl) (vcp rfl rfl rfl (c_bounds _ _ _ _ _ _ _ _)) rfl rfl ?_
 refine vdq (myes rfl rfl rfl) (vnes rfl rfl rfl rfl rfl rfl) rfl rfl ?_
 refine vdknow (d := 61) (b' := false) rfl (by decide) ?_
 refine vdq (mone rfl) (vpkf rfl rfl) rfl rfl ?_
 refine vdq (mone rfl) (vmv rfl) rfl rfl ?_
 refine vdq (myes rfl rfl rfl) (vmv rfl) rfl rfl ?_
 refine vdq (myes rfl rfl rfl) (vlen rfl) rfl rfl ?_
 refine vdq (myes rfl rfl rfl) (vneq rfl rfl) rfl rfl ?_
 refine vdknow (d := 66) (b' := false) rfl (by decide) ?_
 refine vdq (mone rfl) (vpkf rfl rfl) rfl rfl ?_
 refine vdq (mone rfl) (vmv rfl) rfl rfl ?_
 refine vdq (myes rfl rfl rfl) (vmv rfl) rfl rfl ?_
 refine vdq (myes rfl rfl rfl) (vlen rfl) rfl rfl ?_
 refine vdq (myes rfl rfl rfl) (vneq rfl rfl) rfl rfl ?_
 refine vdknow (d := 71) (b' := false) rfl (by decide) ?_
 refine vdq (mone rfl) (vpkf rfl rfl) rfl rfl ?_
 refine vdq (mone rfl) (vmv rfl) rfl rfl ?_
 refine vdq (myes rfl rfl rfl) (vmv rfl) rfl rfl ?_
 refine vdq (myes rfl rfl rfl) (visg (enc := encB) (xs := [true, true, true, true, false, false, false, false]) rfl rfl (by omega) (z := true) rfl) rfl rfl ?_
 refine vdq (myes rfl rfl rfl) (vldS1 (enc := encB) (xs := [true, true, true, true, false, false, false, false]) rfl (z := true) rfl rfl) rfl rfl ?_
 refine vdq (myes rfl rfl rfl) (vnot rfl) rfl rfl ?_
 refine vdknow (d := 77) (b' := false) rfl rfl ?_
 refine vdq (mone rfl) (vpkf rfl rfl) rfl rfl ?_
 refine vdq (mone rfl) (vmv rfl) rfl rfl ?_
 refine vdq (myes rfl rfl rfl) (vmv rfl) rfl rfl ?_
 refine vdq (myes rfl rfl rfl) (visg (enc := encB) (xs := [true, true, true, true, false, false, false, false]) rfl rfl (by omega) (z := false) rfl) rfl rfl ?_
 refine vdq (myes rfl rfl rfl) (vldS1 (enc := encB) (xs := [true, true, true, true, false, false, false, false]) rfl (z := false) rfl rfl) rfl rfl ?_
 refine vdknow (d := 82) (b' := false) rfl rfl ?_
 refine vdq (mone rfl) (vpkf rfl rfl) rfl rfl ?_
 refine vdq (mone rfl) (vmv rfl) rfl rfl ?_
 refine vdq (myes rfl rfl rfl) (vmv rfl) rfl rfl ?_
 refine vdq (myes rfl rfl rfl) (visg (enc := clR) rfl rfl (by omega) ev_wh0) rfl rfl ?_
 refine vdq (myes rfl rfl rfl) (vldS (enc := clR) rfl ev_wh0) rfl rfl ?_
 refine vdq (myes rfl rfl rfl) (vldn rfl rfl) rfl rfl ?_
 refine vdq (myes rfl rfl rfl) (vnes rfl rfl rfl rfl rfl rfl) rfl rfl ?_
 refine vdknow (d := 89) (b' := false) rfl (by decide) ?_
 refine vdq (mone rfl) (vpkf rfl rfl) rfl rfl ?_
 refine vdq (mone rfl) (vmv rfl) rfl rfl ?_
 refine vdq (myes rfl rfl rfl) (vmv rfl) rfl rfl ?_
 refine vdq (myes rfl rfl rfl) (visg (enc := clR) rfl rfl (by omega) ev_wh1) rfl rfl ?_
 refine vdq (myes rfl rfl rfl) (vldS (enc := clR) rfl ev_wh1) rfl rfl ?_
 refine vdq (myes rfl rfl rfl) (vcp rfl rfl rfl (c_bounds _ _ _ _ _ _ _ _)) rfl rfl ?_
 refine vdq (myes rfl rfl rfl) (vnes rfl rfl rfl rfl rfl rfl) rfl rfl ?_
 refine vdknow (d := 96) (b' := false) rfl (by decide) ?_
 refine vdq (mone rfl) (vpkf rfl rfl) rfl rfl ?_
 refine vdend rfl ?_
 refine vcondf rfl ?_
 refine vskip ?_
 refine vseq ?_
 refine vseq ?_
 refine vregion ?_
 refine vone rfl (vxq (vmv rfl) rfl rfl ?_)
 refine vone rfl (vxg (vbs rfl rfl rfl rfl rfl rfl) rfl rfl ?_)
 rintro _ _ ⟨b4, rfl, rfl⟩
 refine vone rfl (vxq (vcq rfl rfl rfl (w_AlikeB [false, true, true, true, false, false, false, false] _ 8 _ rfl rfl (by omega))) rfl rfl ?_)
 refine vknow (d := 100) (b' := true) rfl rfl ?_
 refine vone rfl (vxq (vnot rfl) rfl rfl ?_)
 refine vknow (d := 101) (b' := false) rfl rfl ?_
 refine vone rfl (vxq (vmv rfl) rfl rfl ?_)
 refine vyes rfl rfl rfl (vxq (vmv rfl) rfl rfl ?_)
 refine vyes rfl rfl rfl (vxg (vbs rfl rfl rfl rfl rfl rfl) rfl rfl ?_)
 rintro _ _ ⟨b5, rfl, rfl⟩
 refine vyes rfl rfl rfl (vxq (vcq rfl rfl rfl (w_AlikeB [false, false, false, false, false, true, true, true] _ 8 _ rfl rfl (by omega))) rfl rfl ?_)
 refine vknow (d := 105) (b' := true) rfl rfl ?_
 refine vyes rfl rfl rfl (vxq (vnot rfl) rfl rfl ?_)
 refine vknow (d := 106) (b' := false) rfl rfl ?_
 refine vone rfl (vxq (vpkf rfl rfl) rfl rfl ?_)
 refine vnil ?_
 refine vcondf rfl ?_
 refine vskip ?_
 refine vseq ?_
 refine vregion ?_
 refine vone rfl (vxq (vldn rfl rfl) rfl rfl ?_)
 refine vone rfl (vxq (vldn rfl rfl) rfl rfl ?_)
 refine vone rfl (vxg (vcg rfl rfl rfl (w_Best h _) (fun o H' h => h)) rfl rfl ?_)
 rintro _ _ ⟨BB, rfl, ⟨oa4, c4, rfl, hk5⟩⟩
 refine vone rfl (vxq (vmv rfl) rfl rfl ?_)
 refine vone rfl (vxq (vex rfl rfl) rfl rfl ?_)
 refine vone rfl (vxq (vex rfl rfl) rfl rfl ?_)
 refine vone rfl (vxq (vex rfl rfl) rfl rfl ?_)
 refine vone rfl (vxq (vas rfl) rfl rfl ?_)
 refine vone rfl (vxq (vas rfl) rfl rfl ?_)
 refine vone rfl (vxq (vas rfl) rfl rfl ?_)
 refine vnil ?_
 refine vseq ?_
 refine vregion ?_
 refine vone rfl (vxq (vldn rfl rfl) rfl rfl ?_)
 refine vone rfl (vxq (vldn rfl rfl) rfl rfl ?_)
 refine vone rfl (vxg (vbs rfl rfl rfl rfl rfl rfl) rfl rfl ?_)
 rintro _ _ ⟨b6, rfl, rfl⟩
 refine vone rfl (vxq (vcq rfl rfl rfl (w_Judge2 h _ rfl)) rfl rfl ?_)
 refine vone rfl (vxq (vmv rfl) rfl rfl ?_)
 refine vone rfl (vxq (vex rfl rfl) rfl rfl ?_)
 refine vone rfl (vxq (vex rfl rfl) rfl rfl ?_)
 refine vone rfl (vxq (vex rfl rfl) rfl rfl ?_)
 refine vone rfl (vxq (vas rfl) rfl rfl ?_)
 refine vone rfl (vxq (vas rfl) rfl rfl ?_)
 refine vone rfl (vxq (vas rfl) rfl rfl ?_)
 refine vnil ?_
 refine vseq ?_
 refine vregion ?_
 refine vone rfl (vxq (vldn rfl rfl) rfl rfl ?_)
 refine vone rfl (vxq (vcp rfl rfl rfl (w_Guard)) rfl rfl ?_)
 refine vone rfl (vxq (vmv rfl) rfl rfl ?_)
 refine vone rfl (vxq (vex rfl rfl) rfl rfl ?_)
 refine vone rfl (vxq (vex rfl rfl) rfl rfl ?_)
 refine vone rfl (vxq (vas rfl) rfl rfl ?_)
 refine vone rfl (vxq (vas rfl) rfl rfl ?_)
 refine vnil ?_
 refine vseq ?_
 refine vregion ?_
 refine vone rfl (vxq (vldn rfl rfl) rfl rfl ?_)
 refine vone rfl (vxg (vcg rfl rfl rfl (w_Keeper _) (fun o H' h => h)) rfl rfl ?_)
 rintro _ _ ⟨BK, rfl, ⟨bk, rfl⟩⟩
 refine vone rfl (vxq (vmv rfl) rfl rfl ?_)
 refine vone rfl (vxq (vex rfl rfl) rfl rfl ?_)
 refine vone rfl (vxq (vex rfl rfl) rfl rfl ?_)
 refine vone rfl (vxq (vas rfl) rfl rfl ?_)
 refine vone rfl (vxq (vas rfl) rfl rfl ?_)
 refine vnil ?_
 refine vseq ?_
 refine vregion ?_
 refine vone rfl (vxq (vmv rfl) rfl rfl ?_)
 refine vone rfl (vxq (veql rfl rfl) rfl rfl ?_)
 refine vknow (d := 134) (b' := true) rfl (by decide) ?_
 refine vone rfl (vxq (vmv rfl) rfl rfl ?_)
 refine vyes rfl rfl rfl (vxq (vmv rfl) rfl rfl ?_)
 refine vyes rfl rfl rfl (vxq (veql rfl rfl) rfl rfl ?_)
 refine vknow (d := 137) (b' := true) rfl (by decide) ?_
 refine vone rfl (vxq (vpkt rfl rfl) rfl rfl ?_)
 refine vone rfl (vxq (vmv rfl) rfl rfl ?_)
 refine vyes rfl rfl rfl (vxq (vmv rfl) rfl rfl ?_)
 refine vyes rfl rfl rfl (vxq (veql rfl rfl) rfl rfl ?_)
 refine vknow (d := 141) (b' := true) rfl (by decide) ?_
 refine vone rfl (vxq (vpkt rfl rfl) rfl rfl ?_)
 refine vone rfl (vxq (vmv rfl) rfl rfl ?_)
 refine vyes rfl rfl rfl (vxq (vmv rfl) rfl rfl ?_)
 refine vyes rfl rfl rfl (vxq (veql rfl rfl) rfl rfl ?_)
 refine vknow (d := 145) (b' := true) rfl (by decide) ?_
 refine vone rfl (vxq (vpkt rfl rfl) rfl rfl ?_)
 refine vone rfl (vxq (vmv rfl) rfl rfl ?_)
 refine vyes rfl rfl rfl (vxq (vmv rfl) rfl rfl ?_)
 refine vyes rfl rfl rfl (vxq (vnep (e := 155) (by kernel_rfl) rfl rfl) rfl rfl ?_)
 refine vknow (d := 149) (b' := true) rfl rfl ?_
 refine vone rfl (vxq (vpkt rfl rfl) rfl rfl ?_)
 refine vone rfl (vxq (vmv rfl) rfl rfl ?_)
 refine vyes rfl rfl rfl (vxq (vmv rfl) rfl rfl ?_)
 refine vyes rfl rfl rfl (vxg (vbs rfl rfl rfl rfl rfl rfl) rfl rfl ?_)
 rintro _ _ ⟨b7, rfl, rfl⟩
 refine vyes rfl rfl rfl (vxq (vcq rfl rfl rfl (w_AlikeI [0, 0, 0, 0, 0, 1, 2, 3] _ 8 _ rfl rfl (by omega))) rfl rfl ?_)
 refine vknow (d := 154) (b' := true) rfl rfl ?_
 refine vone rfl (vxq (vpkt rfl rfl) rfl rfl ?_)
 refine vone rfl (vxq (vmv rfl) rfl rfl ?_)
 refine vyes rfl rfl rfl (vxq (vmv rfl) rfl rfl ?_)
 refine vyes rfl rfl rfl (vxq (veql rfl rfl) rfl rfl ?_)
 refine vknow (d := 158) (b' := true) rfl (by decide) ?_
 refine vone rfl (vxq (vpkt rfl rfl) rfl rfl ?_)
 refine vone rfl (vxq (vmv rfl) rfl rfl ?_)
 refine vyes rfl rfl rfl (vxq (vmv rfl) rfl rfl ?_)
 refine vyes rfl rfl rfl (vxq (veql rfl rfl) rfl rfl ?_)
 refine vknow (d := 162) (b' := true) rfl (by decide) ?_
 refine vone rfl (vxq (vpkt rfl rfl) rfl rfl ?_)
 refine vone rfl (vxq (vmv rfl) rfl rfl ?_)
 refine vyes rfl rfl rfl (vxq (vmv rfl) rfl rfl ?_)
 refine vyes rfl rfl rfl (vxq (veql rfl rfl) rfl rfl ?_)
 refine vknow (d := 166) (b' := true) rfl (by decide) ?_
 refine vone rfl (vxq (vpkt rfl rfl) rfl rfl ?_)
 refine vone rfl (vxq (vmv rfl) rfl rfl ?_)
 refine vyes rfl rfl rfl (vxq (vmv rfl) rfl rfl ?_)
 refine vyes rfl rfl rfl (vxq (veql rfl rfl) rfl rfl ?_)
 refine vknow (d := 170) (b' := true) rfl (by decide) ?_
 refine vone rfl (vxq (vpkt rfl rfl) rfl rfl ?_)
 refine vone rfl (vxq (vas rfl) rfl rfl ?_)
 refine vnil ?_
 refine vret (vr1 (H' := H) Tryd.func17 rfl (.tmp rfl) sb2 ?_)
 exact ⟨rfl, rfl⟩
end Go.Proofs.YtaplkoimhecacaaDoor
namespace Go.Proofs.YtaplkoimhecacaaDoor
open Go
set_option maxRecDepth 100000
attribute [local irreducible] tightP hullP rootP farP rows endsOf
end Go.Proofs.YtaplkoimhecacaaDoor
