/-
  The chapter's examples: works.
-/
import Derived.Test.YtffpfcomikcimaaWu
import Derived.Test.YtffpfcomikcimaaPlm
namespace Go.Proofs.Ytffpfcomikcimaa
open Go
set_option maxRecDepth 100000
def bxR (x y : Bd) : Rg := ⟨x, y, ⟨-65536, 65536⟩, ⟨-65536, 65536⟩⟩
theorem ew1 : tightE ⟨⟨0, 4⟩, ⟨0, 4⟩, ⟨7, 9⟩, ⟨0, 0⟩⟩ = (⟨⟨4, 4⟩, ⟨4, 4⟩, ⟨8, 8⟩, ⟨0, 0⟩⟩, 0) := by decide
theorem ew2 : ofE [⟨1, 2⟩, ⟨3, 1⟩] = (⟨⟨1, 3⟩, ⟨1, 2⟩, ⟨3, 4⟩, ⟨-1, 2⟩⟩, 0) := by decide
theorem ew3 : meetE ⟨⟨0, 4⟩, ⟨0, 4⟩, ⟨0, 8⟩, ⟨-4, 4⟩⟩ ⟨⟨3, 9⟩, ⟨3, 9⟩, ⟨0, 18⟩, ⟨-9, 9⟩⟩ = (⟨⟨3, 4⟩, ⟨3, 4⟩, ⟨6, 8⟩, ⟨-1, 1⟩⟩, 0) := by decide
theorem ew4 : sumE ⟨⟨0, 4⟩, ⟨0, 4⟩, ⟨0, 8⟩, ⟨-4, 4⟩⟩ ⟨⟨1, 3⟩, ⟨1, 2⟩, ⟨3, 4⟩, ⟨-1, 2⟩⟩ = (⟨⟨1, 7⟩, ⟨1, 6⟩, ⟨3, 12⟩, ⟨-5, 6⟩⟩, 0) := by decide
theorem ew5 : sweptE zR zP ⟨4, 2⟩ = (⟨⟨0, 4⟩, ⟨0, 2⟩, ⟨0, 6⟩, ⟨0, 2⟩⟩, 0) := by decide
theorem ew6 : reachE zR 5 = (⟨⟨-5, 5⟩, ⟨-5, 5⟩, ⟨-7, 7⟩, ⟨-7, 7⟩⟩, 0) := by decide
theorem ew7 : cntE ⟨⟨-5, 5⟩, ⟨-5, 5⟩, ⟨-7, 7⟩, ⟨-7, 7⟩⟩ = (97, 0) := by decide
theorem ew8 : extE ⟨⟨0, 4⟩, ⟨0, 4⟩, ⟨0, 8⟩, ⟨-4, 4⟩⟩ ⟨1, 2⟩ = (⟨0, 12, ⟨0, 0⟩, ⟨4, 4⟩⟩, 0) := by decide
theorem ew9 : distE ⟨⟨0, 4⟩, ⟨0, 4⟩, ⟨0, 8⟩, ⟨-4, 4⟩⟩ ⟨6, 7⟩ = (⟨13, 85⟩, 0) := by decide
theorem ew10 : moveE ⟨⟨0, 4⟩, ⟨0, 4⟩, ⟨0, 8⟩, ⟨-4, 4⟩⟩ ⟨6, 0⟩ = (⟨⟨6, 10⟩, ⟨0, 4⟩, ⟨6, 14⟩, ⟨2, 10⟩⟩, 0) := by decide
theorem ew11 : gapE ⟨⟨0, 4⟩, ⟨0, 4⟩, ⟨0, 8⟩, ⟨-4, 4⟩⟩ ⟨⟨6, 10⟩, ⟨0, 4⟩, ⟨6, 14⟩, ⟨2, 10⟩⟩ = (⟨4, 116⟩, 0) := by decide
theorem ew12 : clashE [bxR ⟨0, 1⟩ ⟨-32768, 32768⟩, bxR ⟨1, 2⟩ ⟨-32768, 32768⟩, bxR ⟨2, 3⟩ ⟨-32768, 32768⟩] = ([0, 2], 0) := by decide
theorem ew13 : coversE [⟨0, 0⟩, ⟨9, 0⟩, ⟨0, 9⟩] ⟨⟨0, 4⟩, ⟨0, 4⟩, ⟨0, 8⟩, ⟨-4, 4⟩⟩ = (true, 0) := by decide
theorem ew14 : hitE [⟨0, 0⟩, ⟨9, 0⟩, ⟨0, 9⟩] (bxR ⟨4, 9⟩ ⟨5, 9⟩) = (⟨4, 5⟩, 0) := by decide
attribute [local irreducible] tightP hullP rootP farP rows endsOf sqL sqP twoE pickL srch cutsOf clashE ofE tightE meetE sumE sweptE reachE cntE extE distE moveE gapE coversE hitE
/-- paravane/paravanelaw01.box -/
theorem c_box (x y : Bd) : VPure Try.prog 92 [vB x, vB y] (vR (bxR x y)) := by
  intro H
  refine vcall_of_vrun Try.func92 rfl (N := 10) rfl rfl ?_
  refine vseq ?_
  refine vregion ?_
  refine vone rfl (vxa (vbox rfl rfl) rfl rfl (fun b1 => ?_))
  refine vone rfl (vxa (vbox rfl rfl) rfl rfl (fun b2 => ?_))
  refine vone rfl (vxa valloc rfl rfl (fun b3 => ?_))
  refine vnil ?_
  refine vseq ?_
  refine vdraw0 [(.q, 0), (.q, 1), (.q, 2), (.q, 3), (.q, 4), (.c, 5)] Try.mixed (by kernel_rfl) (by kernel_rfl) ?_
  refine vdq (mone rfl) (vldn rfl rfl) rfl rfl ?_
  refine vdq (mone rfl) (vldn rfl rfl) rfl rfl ?_
  refine vdq (mone rfl) (vcp rfl rfl rfl (c_law01_bound _ _)) rfl rfl ?_
  refine vdq (mone rfl) (vcp rfl rfl rfl (c_law01_bound _ _)) rfl rfl ?_
  refine vdq (mone rfl) (vbd rfl rfl) rfl rfl ?_
  refine vdcs (mone rfl) (vstn rfl rfl rfl rfl rfl) rfl ?_
  refine vdend rfl ?_
  refine vret (vr1 (H' := H) Try.func92 rfl (.celln rfl rfl) (by repeat first | exact .refl _ | refine .cons_cons _ ?_ | refine .cons _ ?_ | exact sl0 _ | refine slA ?_) ?_)
  exact ⟨rfl, rfl⟩
/-- paravane/paravanelaw01.square -/
theorem c_sqr  : VPure Try.prog 78 [] (vR ⟨⟨0, 4⟩, ⟨0, 4⟩, ⟨0, 8⟩, ⟨-4, 4⟩⟩) := by
  intro H
  refine vcall_of_vrun Try.func78 rfl (N := 6) rfl rfl ?_
  refine vseq ?_
  refine vregion ?_
  refine vone rfl (vxa valloc rfl rfl (fun b1 => ?_))
  refine vnil ?_
  refine vseq ?_
  refine vregion ?_
  refine vone rfl (vxq (vcp rfl rfl rfl (c_law01_bound _ _)) rfl rfl ?_)
  refine vone rfl (vxq (vcp rfl rfl rfl (c_law01_bound _ _)) rfl rfl ?_)
  refine vone rfl (vxq (vcp rfl rfl rfl (c_law01_bound _ _)) rfl rfl ?_)
  refine vone rfl (vxq (vcp rfl rfl rfl (c_law01_bound _ _)) rfl rfl ?_)
  refine vone rfl (vxq (vbd rfl rfl) rfl rfl ?_)
  refine vone rfl (vxs (vstn rfl rfl rfl rfl rfl) rfl ?_)
  refine vnil ?_
  refine vret (vr1 (H' := H) Try.func78 rfl (.celln rfl rfl) (by repeat first | exact .refl _ | refine .cons_cons _ ?_ | refine .cons _ ?_ | exact sl0 _ | refine slA ?_) ?_)
  exact ⟨rfl, rfl⟩
theorem kw1 : VPure Try.prog 20 [vR ⟨⟨0, 4⟩, ⟨0, 4⟩, ⟨7, 9⟩, ⟨0, 0⟩⟩] (tup [vR ⟨⟨4, 4⟩, ⟨4, 4⟩, ⟨8, 8⟩, ⟨0, 0⟩⟩, I 0]) := by
  have h := c_Tight ⟨⟨0, 4⟩, ⟨0, 4⟩, ⟨7, 9⟩, ⟨0, 0⟩⟩
  rw [ew1] at h
  exact h
theorem kw3 : VPure Try.prog 50 [vR ⟨⟨0, 4⟩, ⟨0, 4⟩, ⟨0, 8⟩, ⟨-4, 4⟩⟩, vR ⟨⟨3, 9⟩, ⟨3, 9⟩, ⟨0, 18⟩, ⟨-9, 9⟩⟩] (tup [vR ⟨⟨3, 4⟩, ⟨3, 4⟩, ⟨6, 8⟩, ⟨-1, 1⟩⟩, I 0]) := by
  have h := c_Meet ⟨⟨0, 4⟩, ⟨0, 4⟩, ⟨0, 8⟩, ⟨-4, 4⟩⟩ ⟨⟨3, 9⟩, ⟨3, 9⟩, ⟨0, 18⟩, ⟨-9, 9⟩⟩
  rw [ew3] at h
  exact h
theorem kw4 : VPure Try.prog 54 [vR ⟨⟨0, 4⟩, ⟨0, 4⟩, ⟨0, 8⟩, ⟨-4, 4⟩⟩, vR ⟨⟨1, 3⟩, ⟨1, 2⟩, ⟨3, 4⟩, ⟨-1, 2⟩⟩] (tup [vR ⟨⟨1, 7⟩, ⟨1, 6⟩, ⟨3, 12⟩, ⟨-5, 6⟩⟩, I 0]) := by
  have h := c_Sum ⟨⟨0, 4⟩, ⟨0, 4⟩, ⟨0, 8⟩, ⟨-4, 4⟩⟩ ⟨⟨1, 3⟩, ⟨1, 2⟩, ⟨3, 4⟩, ⟨-1, 2⟩⟩
  rw [ew4] at h
  exact h
theorem kw5 : VPure Try.prog 29 [vR zR, vP zP, vP ⟨4, 2⟩] (tup [vR ⟨⟨0, 4⟩, ⟨0, 2⟩, ⟨0, 6⟩, ⟨0, 2⟩⟩, I 0]) := by
  have h := c_Swept zR zP ⟨4, 2⟩
  rw [ew5] at h
  exact h
theorem kw6 : VPure Try.prog 31 [vR zR, I 5] (tup [vR ⟨⟨-5, 5⟩, ⟨-5, 5⟩, ⟨-7, 7⟩, ⟨-7, 7⟩⟩, I 0]) := by
  have h := c_Reach zR 5
  rw [ew6] at h
  exact h
theorem kw7 : VPure Try.prog 22 [vR ⟨⟨-5, 5⟩, ⟨-5, 5⟩, ⟨-7, 7⟩, ⟨-7, 7⟩⟩] (tup [I 97, I 0]) := by
  have h := c_Count ⟨⟨-5, 5⟩, ⟨-5, 5⟩, ⟨-7, 7⟩, ⟨-7, 7⟩⟩
  rw [ew7] at h
  exact h
theorem kw8 : VPure Try.prog 33 [vR ⟨⟨0, 4⟩, ⟨0, 4⟩, ⟨0, 8⟩, ⟨-4, 4⟩⟩, vP ⟨1, 2⟩] (tup [.agg [I 0, I 12, I 0, I 0, I 4, I 4].toArray, I 0]) := by
  have h := c_Extreme ⟨⟨0, 4⟩, ⟨0, 4⟩, ⟨0, 8⟩, ⟨-4, 4⟩⟩ ⟨1, 2⟩
  rw [ew8] at h
  exact h
theorem kw9 : VPure Try.prog 35 [vR ⟨⟨0, 4⟩, ⟨0, 4⟩, ⟨0, 8⟩, ⟨-4, 4⟩⟩, vP ⟨6, 7⟩] (tup [vB ⟨13, 85⟩, I 0]) := by
  have h := c_Dist ⟨⟨0, 4⟩, ⟨0, 4⟩, ⟨0, 8⟩, ⟨-4, 4⟩⟩ ⟨6, 7⟩
  rw [ew9] at h
  exact h
theorem kw10 : VPure Try.prog 27 [vR ⟨⟨0, 4⟩, ⟨0, 4⟩, ⟨0, 8⟩, ⟨-4, 4⟩⟩, vP ⟨6, 0⟩] (tup [vR ⟨⟨6, 10⟩, ⟨0, 4⟩, ⟨6, 14⟩, ⟨2, 10⟩⟩, I 0]) := by
  have h := c_Move ⟨⟨0, 4⟩, ⟨0, 4⟩, ⟨0, 8⟩, ⟨-4, 4⟩⟩ ⟨6, 0⟩
  rw [ew10] at h
  exact h
theorem kw11 : VPure Try.prog 40 [vR ⟨⟨0, 4⟩, ⟨0, 4⟩, ⟨0, 8⟩, ⟨-4, 4⟩⟩, vR ⟨⟨6, 10⟩, ⟨0, 4⟩, ⟨6, 14⟩, ⟨2, 10⟩⟩] (tup [vB ⟨4, 116⟩, I 0]) := by
  have h := c_Gap ⟨⟨0, 4⟩, ⟨0, 4⟩, ⟨0, 8⟩, ⟨-4, 4⟩⟩ ⟨⟨6, 10⟩, ⟨0, 4⟩, ⟨6, 14⟩, ⟨2, 10⟩⟩
  rw [ew11] at h
  exact h

theorem kw2 (b : Nat) (H : Heap) [SlO H (some ⟨b, 0, Option.none⟩) 2 encP [⟨1, 2⟩, ⟨3, 1⟩]] : VHas Try.prog 24 [sli (some ⟨b, 0, Option.none⟩) 2 2] (tup [vR ⟨⟨1, 3⟩, ⟨1, 2⟩, ⟨3, 4⟩, ⟨-1, 2⟩⟩, I 0]) H H := by
  have h := q_Of [⟨1, 2⟩, ⟨3, 1⟩] (some ⟨b, 0, Option.none⟩) 2 2 rfl (by omega) H
  rw [ew2] at h
  exact h
theorem kw12 (b : Nat) (H : Heap) [SlO H (some ⟨b, 0, Option.none⟩) 8 encR [bxR ⟨0, 1⟩ ⟨-32768, 32768⟩, bxR ⟨1, 2⟩ ⟨-32768, 32768⟩, bxR ⟨2, 3⟩ ⟨-32768, 32768⟩]] : VCall Try.prog 37 [sli (some ⟨b, 0, Option.none⟩) 3 3].toArray H (ClR H ([0, 2], 0)) := by
  have h := g_Clash [bxR ⟨0, 1⟩ ⟨-32768, 32768⟩, bxR ⟨1, 2⟩ ⟨-32768, 32768⟩, bxR ⟨2, 3⟩ ⟨-32768, 32768⟩] (some ⟨b, 0, Option.none⟩) 3 3 rfl (by omega) H
  rw [ew12] at h
  exact h
theorem kw13 (b : Nat) (H : Heap) [SlO H (some ⟨b, 0, Option.none⟩) 2 encP [⟨0, 0⟩, ⟨9, 0⟩, ⟨0, 9⟩]] : VHas Try.prog 46 [sli (some ⟨b, 0, Option.none⟩) 3 3, vR ⟨⟨0, 4⟩, ⟨0, 4⟩, ⟨0, 8⟩, ⟨-4, 4⟩⟩] (tup [.bool true, I 0]) H H := by
  have h := q_Covers ⟨⟨0, 4⟩, ⟨0, 4⟩, ⟨0, 8⟩, ⟨-4, 4⟩⟩ [⟨0, 0⟩, ⟨9, 0⟩, ⟨0, 9⟩] (some ⟨b, 0, Option.none⟩) 3 3 rfl (by omega) H
  rw [ew13] at h
  exact h
theorem kw14 (b : Nat) (H : Heap) [SlO H (some ⟨b, 0, Option.none⟩) 2 encP [⟨0, 0⟩, ⟨9, 0⟩, ⟨0, 9⟩]] : VHas Try.prog 48 [sli (some ⟨b, 0, Option.none⟩) 3 3, vR (bxR ⟨4, 9⟩ ⟨5, 9⟩)] (tup [vP ⟨4, 5⟩, I 0]) H H := by
  have h := q_Hits (bxR ⟨4, 9⟩ ⟨5, 9⟩) [⟨0, 0⟩, ⟨9, 0⟩, ⟨0, 9⟩] (some ⟨b, 0, Option.none⟩) 3 3 rfl (by omega) H
  rw [ew14] at h
  exact h


theorem SlO.assoc1 {α : Type} {B H : Heap} {x : Nat × Obj} {oa : Option Addr} {esz : Nat} {enc : α → List Value} {l : List α} (h : SlO (B ++ x :: H) oa esz enc l) : SlO ((B ++ [x]) ++ H) oa esz enc l := by simpa using h

/-- paravane/paravanelaw01.works -/
theorem c_works  : VPure Try.prog 26 [] (.bool true) := by
  intro H
  refine vcall_of_vrun Try.func26 rfl (N := 262) rfl rfl ?_
  refine vseq ?_
  refine vregion ?_
  refine vone rfl (vxq (vas rfl) rfl rfl ?_)
  refine vnil ?_
  refine vseq ?_
  refine vregion ?_
  refine vone rfl (vxq (vcp rfl rfl rfl (c_law01_bound _ _)) rfl rfl ?_)
  refine vone rfl (vxq (vcp rfl rfl rfl (c_law01_bound _ _)) rfl rfl ?_)
  refine vone rfl (vxq (vcp rfl rfl rfl (c_law01_bound _ _)) rfl rfl ?_)
  refine vone rfl (vxq (vbd rfl rfl) rfl rfl ?_)
  refine vone rfl (vxq (vcp rfl rfl rfl (kw1)) rfl rfl ?_)
  refine vone rfl (vxq (vmv rfl) rfl rfl ?_)
  refine vone rfl (vxq (vex rfl rfl) rfl rfl ?_)
  refine vone rfl (vxq (vex rfl rfl) rfl rfl ?_)
  refine vone rfl (vxa valloc rfl rfl (fun b1 => ?_))
  refine vone rfl (vxs (vstn rfl rfl rfl rfl rfl) rfl ?_)
  refine vone rfl (vxq (vas rfl) rfl rfl ?_)
  refine vnil ?_
  refine vseq ?_
  refine vregion ?_
  refine vone rfl (vxq (vbd rfl rfl) rfl rfl ?_)
  refine vone rfl (vxq (vbd rfl rfl) rfl rfl ?_)
  refine vone rfl (vxg (vbs rfl rfl rfl rfl rfl rfl) rfl rfl ?_)
  rintro _ _ ⟨b2, rfl, rfl⟩
  refine vone rfl (vxq (vcq rfl rfl rfl (@kw2 b2 _ (SlO.flat (fun _ => rfl) rfl))) rfl rfl ?_)
  refine vone rfl (vxq (vmv rfl) rfl rfl ?_)
  refine vone rfl (vxq (vex rfl rfl) rfl rfl ?_)
  refine vone rfl (vxq (vex rfl rfl) rfl rfl ?_)
  refine vone rfl (vxa valloc rfl rfl (fun b3 => ?_))
  refine vone rfl (vxs (vstn rfl rfl rfl rfl rfl) rfl ?_)
  refine vone rfl (vxq (vas rfl) rfl rfl ?_)
  refine vnil ?_
  refine vseq ?_
  refine vregion ?_
  refine vone rfl (vxq (vcp rfl rfl rfl (c_sqr)) rfl rfl ?_)
  refine vone rfl (vxq (vcp rfl rfl rfl (c_law01_bound _ _)) rfl rfl ?_)
  refine vone rfl (vxq (vcp rfl rfl rfl (c_law01_bound _ _)) rfl rfl ?_)
  refine vone rfl (vxq (vcp rfl rfl rfl (c_law01_bound _ _)) rfl rfl ?_)
  refine vone rfl (vxq (vcp rfl rfl rfl (c_law01_bound _ _)) rfl rfl ?_)
  refine vone rfl (vxq (vbd rfl rfl) rfl rfl ?_)
  refine vone rfl (vxq (vcp rfl rfl rfl (kw3)) rfl rfl ?_)
  refine vone rfl (vxq (vmv rfl) rfl rfl ?_)
  refine vone rfl (vxq (vex rfl rfl) rfl rfl ?_)
  refine vone rfl (vxq (vex rfl rfl) rfl rfl ?_)
  refine vone rfl (vxa valloc rfl rfl (fun b4 => ?_))
  refine vone rfl (vxs (vstn rfl rfl rfl rfl rfl) rfl ?_)
  refine vone rfl (vxq (vas rfl) rfl rfl ?_)
  refine vnil ?_
  refine vseq ?_
  refine vdraw [(.q, 0), (.q, 1), (.q, 2), (.q, 3), (.q, 4), (.q, 5), (.a (blk [.int .i64 0, .int .i64 0, .int .i64 0, .int .i64 0, .int .i64 0, .int .i64 0, .int .i64 0, .int .i64 0] 25), 6), (.s, 7), (.q, 8)] Try.mixed (by kernel_rfl) ⟨⟨_, _, _, _, _, rfl, _, inferInstance, rfl⟩, True.intro⟩ ?_
  refine vdq (mone rfl) (vcp rfl rfl rfl (c_sqr)) rfl rfl ?_
  refine vdq (mone rfl) (vldn rfl rfl) rfl rfl ?_
  refine vdq (mone rfl) (vcp rfl rfl rfl (kw4)) rfl rfl ?_
  refine vdq (mone rfl) (vmv rfl) rfl rfl ?_
  refine vdq (mone rfl) (vex rfl rfl) rfl rfl ?_
  refine vdq (mone rfl) (vex rfl rfl) rfl rfl ?_
  refine vda rfl rfl (fun b5 => ?_)
  refine vds (mone rfl) (vstn rfl rfl rfl rfl rfl) rfl ?_
  refine vdq (mone rfl) (vas rfl) rfl rfl ?_
  refine vdend rfl ?_
  refine vseq ?_
  refine vseq ?_
  refine vdraw0 [(.q, 0), (.q, 1), (.q, 2), (.q, 3), (.q, 4), (.q, 5), (.q, 6), (.q, 7), (.q, 8), (.q, 9), (.q, 10), (.q, 11), (.q, 12), (.q, 13), (.q, 14), (.q, 15), (.q, 16), (.q, 17), (.q, 18), (.q, 19), (.q, 20), (.q, 21), (.q, 22), (.q, 23), (.q, 24), (.q, 25), (.q, 26), (.q, 27), (.q, 28), (.q, 29), (.q, 30)] Try.mixed (by kernel_rfl) (by kernel_rfl) ?_
  refine vdq (mone rfl) (vmv rfl) rfl rfl ?_
  refine vdq (mone rfl) (vneq rfl rfl) rfl rfl ?_
  refine vdknow (d := 55) (b' := false) rfl (by decide) ?_
  refine vdq (mone rfl) (vmv rfl) rfl rfl ?_
  refine vdq (myes rfl rfl rfl) (vmv rfl) rfl rfl ?_
  refine vdq (myes rfl rfl rfl) (vneq rfl rfl) rfl rfl ?_
  refine vdknow (d := 58) (b' := false) rfl (by decide) ?_
  refine vdq (mone rfl) (vpkf rfl rfl) rfl rfl ?_
  refine vdq (mone rfl) (vmv rfl) rfl rfl ?_
  refine vdq (myes rfl rfl rfl) (vmv rfl) rfl rfl ?_
  refine vdq (myes rfl rfl rfl) (vneq rfl rfl) rfl rfl ?_
  refine vdknow (d := 62) (b' := false) rfl (by decide) ?_
  refine vdq (mone rfl) (vpkf rfl rfl) rfl rfl ?_
  refine vdq (mone rfl) (vmv rfl) rfl rfl ?_
  refine vdq (myes rfl rfl rfl) (vmv rfl) rfl rfl ?_
  refine vdq (myes rfl rfl rfl) (vneq rfl rfl) rfl rfl ?_
  refine vdknow (d := 66) (b' := false) rfl (by decide) ?_
  refine vdq (mone rfl) (vpkf rfl rfl) rfl rfl ?_
  refine vdq (mone rfl) (vmv rfl) rfl rfl ?_
  refine vdq (myes rfl rfl rfl) (vldn rfl rfl) rfl rfl ?_
  refine vdq (myes rfl rfl rfl) (vcp rfl rfl rfl (c_law01_bound _ _)) rfl rfl ?_
  refine vdq (myes rfl rfl rfl) (vcp rfl rfl rfl (c_law01_bound _ _)) rfl rfl ?_
  refine vdq (myes rfl rfl rfl) (vcp rfl rfl rfl (c_law01_bound _ _)) rfl rfl ?_
  refine vdq (myes rfl rfl rfl) (vbd rfl rfl) rfl rfl ?_
  refine vdq (myes rfl rfl rfl) (vnes rfl rfl rfl rfl rfl rfl) rfl rfl ?_
  refine vdknow (d := 74) (b' := false) rfl (by decide) ?_
  refine vdq (mone rfl) (vpkf rfl rfl) rfl rfl ?_
  refine vdq (mone rfl) (vmv rfl) rfl rfl ?_
  refine vdq (myes rfl rfl rfl) (vldn rfl rfl) rfl rfl ?_
  refine vdq (myes rfl rfl rfl) (vcp rfl rfl rfl (c_law01_bound _ _)) rfl rfl ?_
  refine vdq (myes rfl rfl rfl) (vcp rfl rfl rfl (c_law01_bound _ _)) rfl rfl ?_
  refine vdq (myes rfl rfl rfl) (vcp rfl rfl rfl (c_law01_bound _ _)) rfl rfl ?_
  refine vdq (myes rfl rfl rfl) (vcp rfl rfl rfl (c_law01_bound _ _)) rfl rfl ?_
  refine vdq (myes rfl rfl rfl) (vbd rfl rfl) rfl rfl ?_
  refine vdq (myes rfl rfl rfl) (vnes rfl rfl rfl rfl rfl rfl) rfl rfl ?_
  refine vdknow (d := 83) (b' := false) rfl (by decide) ?_
  refine vdq (mone rfl) (vpkf rfl rfl) rfl rfl ?_
  refine vdend rfl ?_
  refine vcondf rfl ?_
  refine vskip ?_
  refine vseq ?_
  refine vseq ?_
  refine vdraw0 [(.q, 0), (.q, 1), (.q, 2), (.q, 3), (.q, 4), (.q, 5), (.q, 6), (.q, 7), (.q, 8), (.q, 9), (.q, 10), (.q, 11), (.q, 12), (.q, 13), (.q, 14), (.q, 15)] Try.mixed (by kernel_rfl) (by kernel_rfl) ?_
  refine vdq (mone rfl) (vldn rfl rfl) rfl rfl ?_
  refine vdq (mone rfl) (vcp rfl rfl rfl (c_law01_bound _ _)) rfl rfl ?_
  refine vdq (mone rfl) (vcp rfl rfl rfl (c_law01_bound _ _)) rfl rfl ?_
  refine vdq (mone rfl) (vcp rfl rfl rfl (c_law01_bound _ _)) rfl rfl ?_
  refine vdq (mone rfl) (vcp rfl rfl rfl (c_law01_bound _ _)) rfl rfl ?_
  refine vdq (mone rfl) (vbd rfl rfl) rfl rfl ?_
  refine vdq (mone rfl) (vnes rfl rfl rfl rfl rfl rfl) rfl rfl ?_
  refine vdknow (d := 91) (b' := false) rfl (by decide) ?_
  refine vdq (mone rfl) (vmv rfl) rfl rfl ?_
  refine vdq (myes rfl rfl rfl) (vldn rfl rfl) rfl rfl ?_
  refine vdq (myes rfl rfl rfl) (vcp rfl rfl rfl (c_law01_bound _ _)) rfl rfl ?_
  refine vdq (myes rfl rfl rfl) (vcp rfl rfl rfl (c_law01_bound _ _)) rfl rfl ?_
  refine vdq (myes rfl rfl rfl) (vcp rfl rfl rfl (c_law01_bound _ _)) rfl rfl ?_
  refine vdq (myes rfl rfl rfl) (vcp rfl rfl rfl (c_law01_bound _ _)) rfl rfl ?_
  refine vdq (myes rfl rfl rfl) (vbd rfl rfl) rfl rfl ?_
  refine vdq (myes rfl rfl rfl) (vnes rfl rfl rfl rfl rfl rfl) rfl rfl ?_
  refine vdknow (d := 99) (b' := false) rfl (by decide) ?_
  refine vdq (mone rfl) (vpkf rfl rfl) rfl rfl ?_
  refine vdend rfl ?_
  refine vcondf rfl ?_
  refine vskip ?_
  refine vseq ?_
  refine vregion ?_
  refine vone rfl (vxq (vbd rfl rfl) rfl rfl ?_)
  refine vone rfl (vxq (vbd rfl rfl) rfl rfl ?_)
  refine vone rfl (vxq (vbd rfl rfl) rfl rfl ?_)
  refine vone rfl (vxq (vcp rfl rfl rfl (kw5)) rfl rfl ?_)
  refine vone rfl (vxq (vmv rfl) rfl rfl ?_)
  refine vone rfl (vxq (vex rfl rfl) rfl rfl ?_)
  refine vone rfl (vxq (vex rfl rfl) rfl rfl ?_)
  refine vone rfl (vxa valloc rfl rfl (fun b6 => ?_))
  refine vone rfl (vxs (vstn rfl rfl rfl rfl rfl) rfl ?_)
  refine vone rfl (vxq (vas rfl) rfl rfl ?_)
  refine vnil ?_
  refine vseq ?_
  refine vregion ?_
  refine vone rfl (vxq (vbd rfl rfl) rfl rfl ?_)
  refine vone rfl (vxq (vcp rfl rfl rfl (kw6)) rfl rfl ?_)
  refine vone rfl (vxq (vmv rfl) rfl rfl ?_)
  refine vone rfl (vxq (vex rfl rfl) rfl rfl ?_)
  refine vone rfl (vxq (vex rfl rfl) rfl rfl ?_)
  refine vone rfl (vxa valloc rfl rfl (fun b7 => ?_))
  refine vone rfl (vxs (vstn rfl rfl rfl rfl rfl) rfl ?_)
  refine vone rfl (vxq (vas rfl) rfl rfl ?_)
  refine vnil ?_
  refine vseq ?_
  refine vregion ?_
  refine vone rfl (vxq (vldn rfl rfl) rfl rfl ?_)
  refine vone rfl (vxq (vcp rfl rfl rfl (kw7)) rfl rfl ?_)
  refine vone rfl (vxq (vmv rfl) rfl rfl ?_)
  refine vone rfl (vxq (vex rfl rfl) rfl rfl ?_)
  refine vone rfl (vxq (vex rfl rfl) rfl rfl ?_)
  refine vone rfl (vxq (vas rfl) rfl rfl ?_)
  refine vone rfl (vxq (vas rfl) rfl rfl ?_)
  refine vnil ?_
  refine vseq ?_
  refine vregion ?_
  refine vone rfl (vxq (vcp rfl rfl rfl (c_sqr)) rfl rfl ?_)
  refine vone rfl (vxq (vbd rfl rfl) rfl rfl ?_)
  refine vone rfl (vxq (vcp rfl rfl rfl (kw8)) rfl rfl ?_)
  refine vone rfl (vxq (vmv rfl) rfl rfl ?_)
  refine vone rfl (vxq (vex rfl rfl) rfl rfl ?_)
  refine vone rfl (vxq (vex rfl rfl) rfl rfl ?_)
  refine vone rfl (vxa valloc rfl rfl (fun b8 => ?_))
  refine vone rfl (vxs (vstn rfl rfl rfl rfl rfl) rfl ?_)
  refine vone rfl (vxq (vas rfl) rfl rfl ?_)
  refine vnil ?_
  refine vseq ?_
  refine vseq ?_
  refine vdraw0 [(.q, 0), (.q, 1), (.q, 2), (.q, 3), (.q, 4), (.q, 5), (.q, 6), (.q, 7), (.q, 8), (.q, 9), (.q, 10), (.q, 11), (.q, 12), (.q, 13), (.q, 14), (.q, 15), (.q, 16), (.q, 17), (.q, 18), (.q, 19), (.q, 20), (.q, 21), (.q, 22), (.q, 23), (.q, 24), (.q, 25), (.q, 26), (.q, 27), (.q, 28), (.q, 29), (.q, 30), (.q, 31), (.q, 32), (.q, 33), (.q, 34), (.q, 35), (.q, 36), (.q, 37), (.q, 38), (.q, 39), (.q, 40), (.q, 41)] Try.mixed (by kernel_rfl) (by kernel_rfl) ?_
  refine vdq (mone rfl) (vmv rfl) rfl rfl ?_
  refine vdq (mone rfl) (vneq rfl rfl) rfl rfl ?_
  refine vdknow (d := 125) (b' := false) rfl (by decide) ?_
  refine vdq (mone rfl) (vmv rfl) rfl rfl ?_
  refine vdq (myes rfl rfl rfl) (vmv rfl) rfl rfl ?_
  refine vdq (myes rfl rfl rfl) (vneq rfl rfl) rfl rfl ?_
  refine vdknow (d := 128) (b' := false) rfl (by decide) ?_
  refine vdq (mone rfl) (vpkf rfl rfl) rfl rfl ?_
  refine vdq (mone rfl) (vmv rfl) rfl rfl ?_
  refine vdq (myes rfl rfl rfl) (vmv rfl) rfl rfl ?_
  refine vdq (myes rfl rfl rfl) (vneq rfl rfl) rfl rfl ?_
  refine vdknow (d := 132) (b' := false) rfl (by decide) ?_
  refine vdq (mone rfl) (vpkf rfl rfl) rfl rfl ?_
  refine vdq (mone rfl) (vmv rfl) rfl rfl ?_
  refine vdq (myes rfl rfl rfl) (vmv rfl) rfl rfl ?_
  refine vdq (myes rfl rfl rfl) (vneq rfl rfl) rfl rfl ?_
  refine vdknow (d := 136) (b' := false) rfl (by decide) ?_
  refine vdq (mone rfl) (vpkf rfl rfl) rfl rfl ?_
  refine vdq (mone rfl) (vmv rfl) rfl rfl ?_
  refine vdq (myes rfl rfl rfl) (vldn rfl rfl) rfl rfl ?_
  refine vdq (myes rfl rfl rfl) (vcp rfl rfl rfl (c_law01_bound _ _)) rfl rfl ?_
  refine vdq (myes rfl rfl rfl) (vcp rfl rfl rfl (c_law01_bound _ _)) rfl rfl ?_
  refine vdq (myes rfl rfl rfl) (vcp rfl rfl rfl (c_law01_bound _ _)) rfl rfl ?_
  refine vdq (myes rfl rfl rfl) (vcp rfl rfl rfl (c_law01_bound _ _)) rfl rfl ?_
  refine vdq (myes rfl rfl rfl) (vbd rfl rfl) rfl rfl ?_
  refine vdq (myes rfl rfl rfl) (vnes rfl rfl rfl rfl rfl rfl) rfl rfl ?_
  refine vdknow (d := 145) (b' := false) rfl (by decide) ?_
  refine vdq (mone rfl) (vpkf rfl rfl) rfl rfl ?_
  refine vdq (mone rfl) (vmv rfl) rfl rfl ?_
  refine vdq (myes rfl rfl rfl) (vldn rfl rfl) rfl rfl ?_
  refine vdq (myes rfl rfl rfl) (vcp rfl rfl rfl (c_law01_bound _ _)) rfl rfl ?_
  refine vdq (myes rfl rfl rfl) (vcp rfl rfl rfl (c_law01_bound _ _)) rfl rfl ?_
  refine vdq (myes rfl rfl rfl) (vcp rfl rfl rfl (c_law01_bound _ _)) rfl rfl ?_
  refine vdq (myes rfl rfl rfl) (vcp rfl rfl rfl (c_law01_bound _ _)) rfl rfl ?_
  refine vdq (myes rfl rfl rfl) (vbd rfl rfl) rfl rfl ?_
  refine vdq (myes rfl rfl rfl) (vnes rfl rfl rfl rfl rfl rfl) rfl rfl ?_
  refine vdknow (d := 154) (b' := false) rfl (by decide) ?_
  refine vdq (mone rfl) (vpkf rfl rfl) rfl rfl ?_
  refine vdq (mone rfl) (vmv rfl) rfl rfl ?_
  refine vdq (myes rfl rfl rfl) (vmv rfl) rfl rfl ?_
  refine vdq (myes rfl rfl rfl) (vneq rfl rfl) rfl rfl ?_
  refine vdknow (d := 158) (b' := false) rfl (by decide) ?_
  refine vdq (mone rfl) (vpkf rfl rfl) rfl rfl ?_
  refine vdq (mone rfl) (vmv rfl) rfl rfl ?_
  refine vdq (myes rfl rfl rfl) (vldn rfl rfl) rfl rfl ?_
  refine vdq (myes rfl rfl rfl) (vbd rfl rfl) rfl rfl ?_
  refine vdq (myes rfl rfl rfl) (vbd rfl rfl) rfl rfl ?_
  refine vdq (myes rfl rfl rfl) (vnes rfl rfl rfl rfl rfl rfl) rfl rfl ?_
  refine vdknow (d := 164) (b' := false) rfl (by decide) ?_
  refine vdq (mone rfl) (vpkf rfl rfl) rfl rfl ?_
  refine vdend rfl ?_
  refine vcondf rfl ?_
  refine vskip ?_
  refine vseq ?_
  refine vregion ?_
  refine vone rfl (vxq (vcp rfl rfl rfl (c_sqr)) rfl rfl ?_)
  refine vone rfl (vxq (vbd rfl rfl) rfl rfl ?_)
  refine vone rfl (vxq (vcp rfl rfl rfl (kw9)) rfl rfl ?_)
  refine vone rfl (vxq (vmv rfl) rfl rfl ?_)
  refine vone rfl (vxq (vex rfl rfl) rfl rfl ?_)
  refine vone rfl (vxq (vex rfl rfl) rfl rfl ?_)
  refine vone rfl (vxa valloc rfl rfl (fun b9 => ?_))
  refine vone rfl (vxs (vstn rfl rfl rfl rfl rfl) rfl ?_)
  refine vone rfl (vxq (vas rfl) rfl rfl ?_)
  refine vnil ?_
  refine vseq ?_
  refine vregion ?_
  refine vone rfl (vxq (vcp rfl rfl rfl (c_sqr)) rfl rfl ?_)
  refine vone rfl (vxq (vbd rfl rfl) rfl rfl ?_)
  refine vone rfl (vxq (vcp rfl rfl rfl (kw10)) rfl rfl ?_)
  refine vone rfl (vxq (vmv rfl) rfl rfl ?_)
  refine vone rfl (vxq (vex rfl rfl) rfl rfl ?_)
  refine vone rfl (vxq (vex rfl rfl) rfl rfl ?_)
  refine vone rfl (vxa valloc rfl rfl (fun b10 => ?_))
  refine vone rfl (vxs (vstn rfl rfl rfl rfl rfl) rfl ?_)
  refine vone rfl (vxq (vas rfl) rfl rfl ?_)
  refine vnil ?_
  refine vseq ?_
  refine vdraw [(.q, 0), (.q, 1), (.q, 2), (.q, 3), (.q, 4), (.q, 5), (.a (blk [.int .i64 0, .int .i64 0] 23), 6), (.s, 7), (.q, 8)] Try.mixed (by kernel_rfl) ⟨⟨_, _, _, _, _, rfl, _, inferInstance, rfl⟩, True.intro⟩ ?_
  refine vdq (mone rfl) (vcp rfl rfl rfl (c_sqr)) rfl rfl ?_
  refine vdq (mone rfl) (vldn rfl rfl) rfl rfl ?_
  refine vdq (mone rfl) (vcp rfl rfl rfl (kw11)) rfl rfl ?_
  refine vdq (mone rfl) (vmv rfl) rfl rfl ?_
  refine vdq (mone rfl) (vex rfl rfl) rfl rfl ?_
  refine vdq (mone rfl) (vex rfl rfl) rfl rfl ?_
  refine vda rfl rfl (fun b11 => ?_)
  refine vds (mone rfl) (vstn rfl rfl rfl rfl rfl) rfl ?_
  refine vdq (mone rfl) (vas rfl) rfl rfl ?_
  refine vdend rfl ?_
  refine vseq ?_
  refine vregion ?_
  refine vone rfl (vxq (vcp rfl rfl rfl (c_law01_bound _ _)) rfl rfl ?_)
  refine vone rfl (vxa valloc rfl rfl (fun b12 => ?_))
  refine vone rfl (vxs (vstn rfl rfl rfl rfl rfl) rfl ?_)
  refine vnil ?_
  refine vseq ?_
  refine vdraw0 [(.q, 0), (.q, 1), (.q, 2), (.q, 3), (.q, 4), (.q, 5), (.q, 6), (.q, 7), (.q, 8), (.m, 9), (.g, 10), (.q, 11), (.q, 12), (.q, 13), (.q, 14), (.q, 15)] Try.mixed (by kernel_rfl) (by kernel_rfl) ?_
  refine vdq (mone rfl) (vcp rfl rfl rfl (c_law01_bound _ _)) rfl rfl ?_
  refine vdq (mone rfl) (vldn rfl rfl) rfl rfl ?_
  refine vdq (mone rfl) (vcp rfl rfl rfl (c_box ⟨0, 1⟩ ⟨-32768, 32768⟩)) rfl rfl ?_
  refine vdq (mone rfl) (vcp rfl rfl rfl (c_law01_bound _ _)) rfl rfl ?_
  refine vdq (mone rfl) (vldn rfl rfl) rfl rfl ?_
  refine vdq (mone rfl) (vcp rfl rfl rfl (c_box ⟨1, 2⟩ ⟨-32768, 32768⟩)) rfl rfl ?_
  refine vdq (mone rfl) (vcp rfl rfl rfl (c_law01_bound _ _)) rfl rfl ?_
  refine vdq (mone rfl) (vldn rfl rfl) rfl rfl ?_
  refine vdq (mone rfl) (vcp rfl rfl rfl (c_box ⟨2, 3⟩ ⟨-32768, 32768⟩)) rfl rfl ?_
  refine vdm (mone rfl) (vbsP rfl rfl rfl rfl rfl rfl) rfl rfl (fun b13 => ?_)
  refine vdgl rfl (mone rfl) (vcg rfl rfl rfl (@kw12 b13 _ (SlO.flat (fun _ => rfl) rfl)) (fun o H' h => h)) rfl rfl ?_
  rintro t196 B13 hcl
  obtain ⟨oa, m, c, rfl, hm, hSl⟩ := hcl
  have hSl2 := SlO.assoc1 hSl
  refine vdq (mone rfl) (vmv rfl) rfl rfl ?_
  refine vdq (mone rfl) (vex rfl rfl) rfl rfl ?_
  refine vdq (mone rfl) (vex rfl rfl) rfl rfl ?_
  refine vdq (mone rfl) (vas rfl) rfl rfl ?_
  refine vdq (mone rfl) (vas rfl) rfl rfl ?_
  refine vdend (appHO_of _ _) ?_
  refine vseq ?_
  refine vregion ?_
  refine vone rfl (vxq (vbd rfl rfl) rfl rfl ?_)
  refine vone rfl (vxq (vbd rfl rfl) rfl rfl ?_)
  refine vone rfl (vxq (vbd rfl rfl) rfl rfl ?_)
  refine vone rfl (vxg (vbs rfl rfl rfl rfl rfl rfl) rfl rfl ?_)
  rintro _ _ ⟨b14, rfl, rfl⟩
  refine vone rfl (vxq (vas rfl) rfl rfl ?_)
  refine vnil ?_
  refine vseq ?_
  refine vregion ?_
  refine vone rfl (vxq (vmv rfl) rfl rfl ?_)
  refine vone rfl (vxq (vcp rfl rfl rfl (c_sqr)) rfl rfl ?_)
  refine vone rfl (vxq (vcq rfl rfl rfl (@kw13 b14 _ (SlO.flat (fun _ => rfl) rfl))) rfl rfl ?_)
  refine vone rfl (vxq (vmv rfl) rfl rfl ?_)
  refine vone rfl (vxq (vex rfl rfl) rfl rfl ?_)
  refine vknow (d := 207) (b' := true) rfl (by decide) ?_
  refine vone rfl (vxq (vex rfl rfl) rfl rfl ?_)
  refine vone rfl (vxq (vas rfl) rfl rfl ?_)
  refine vone rfl (vxq (vas rfl) rfl rfl ?_)
  refine vnil ?_
  refine vseq ?_
  refine vregion ?_
  refine vone rfl (vxq (vmv rfl) rfl rfl ?_)
  refine vone rfl (vxq (vcp rfl rfl rfl (c_law01_bound _ _)) rfl rfl ?_)
  refine vone rfl (vxq (vcp rfl rfl rfl (c_law01_bound _ _)) rfl rfl ?_)
  refine vone rfl (vxq (vcp rfl rfl rfl (c_box ⟨4, 9⟩ ⟨5, 9⟩)) rfl rfl ?_)
  refine vone rfl (vxq (vcq rfl rfl rfl (@kw14 b14 _ (SlO.flat (fun _ => rfl) rfl))) rfl rfl ?_)
  refine vone rfl (vxq (vmv rfl) rfl rfl ?_)
  refine vone rfl (vxq (vex rfl rfl) rfl rfl ?_)
  refine vone rfl (vxq (vex rfl rfl) rfl rfl ?_)
  refine vone rfl (vxa valloc rfl rfl (fun b15 => ?_))
  refine vone rfl (vxs (vstn rfl rfl rfl rfl rfl) rfl ?_)
  refine vone rfl (vxq (vas rfl) rfl rfl ?_)
  refine vnil ?_
  refine vseq ?_
  refine vdraw0 [(.q, 0), (.q, 1), (.q, 2), (.q, 3), (.q, 4), (.q, 5), (.q, 6), (.q, 7), (.q, 8), (.q, 9), (.q, 10), (.q, 11), (.q, 12), (.q, 13), (.q, 14), (.q, 15), (.q, 16), (.q, 17), (.q, 18), (.q, 19), (.q, 20), (.q, 21), (.q, 22), (.q, 23), (.q, 24), (.q, 25), (.q, 26), (.q, 27), (.q, 28), (.q, 29), (.q, 30), (.q, 31), (.q, 32), (.q, 33), (.m, 34), (.n, 35), (.q, 36), (.q, 37), (.q, 38), (.q, 39), (.q, 40), (.q, 41), (.q, 42), (.q, 43), (.q, 44), (.q, 45)] Try.mixed (by kernel_rfl) (by kernel_rfl) ?_
  refine vdq (mone rfl) (vmv rfl) rfl rfl ?_
  refine vdq (mone rfl) (veql rfl rfl) rfl rfl ?_
  refine vdknow (d := 218) (b' := true) rfl (by decide) ?_
  refine vdq (mone rfl) (vmv rfl) rfl rfl ?_
  refine vdq (myes rfl rfl rfl) (vmv rfl) rfl rfl ?_
  refine vdq (myes rfl rfl rfl) (veql rfl rfl) rfl rfl ?_
  refine vdknow (d := 221) (b' := true) rfl (by decide) ?_
  refine vdq (mone rfl) (vpkt rfl rfl) rfl rfl ?_
  refine vdq (mone rfl) (vmv rfl) rfl rfl ?_
  refine vdq (myes rfl rfl rfl) (vmv rfl) rfl rfl ?_
  refine vdq (myes rfl rfl rfl) (veql rfl rfl) rfl rfl ?_
  refine vdknow (d := 225) (b' := true) rfl (by decide) ?_
  refine vdq (mone rfl) (vpkt rfl rfl) rfl rfl ?_
  refine vdq (mone rfl) (vmv rfl) rfl rfl ?_
  refine vdq (myes rfl rfl rfl) (vmv rfl) rfl rfl ?_
  refine vdq (myes rfl rfl rfl) (veql rfl rfl) rfl rfl ?_
  refine vdknow (d := 229) (b' := true) rfl (by decide) ?_
  refine vdq (mone rfl) (vpkt rfl rfl) rfl rfl ?_
  refine vdq (mone rfl) (vmv rfl) rfl rfl ?_
  refine vdq (myes rfl rfl rfl) (vmv rfl) rfl rfl ?_
  refine vdq (myes rfl rfl rfl) (veql rfl rfl) rfl rfl ?_
  refine vdknow (d := 233) (b' := true) rfl (by decide) ?_
  refine vdq (mone rfl) (vpkt rfl rfl) rfl rfl ?_
  refine vdq (mone rfl) (vmv rfl) rfl rfl ?_
  refine vdq (myes rfl rfl rfl) (vmv rfl) rfl rfl ?_
  refine vdq (myes rfl rfl rfl) (veql rfl rfl) rfl rfl ?_
  refine vdknow (d := 237) (b' := true) rfl (by decide) ?_
  refine vdq (mone rfl) (vpkt rfl rfl) rfl rfl ?_
  refine vdq (mone rfl) (vmv rfl) rfl rfl ?_
  refine vdq (myes rfl rfl rfl) (vldn rfl rfl) rfl rfl ?_
  refine vdq (myes rfl rfl rfl) (vcp rfl rfl rfl (c_law01_bound _ _)) rfl rfl ?_
  refine vdq (myes rfl rfl rfl) (veqs rfl rfl rfl rfl rfl rfl) rfl rfl ?_
  refine vdknow (d := 242) (b' := true) rfl (by decide) ?_
  refine vdq (mone rfl) (vpkt rfl rfl) rfl rfl ?_
  refine vdq (mone rfl) (vmv rfl) rfl rfl ?_
  refine vdq (myes rfl rfl rfl) (vldn rfl rfl) rfl rfl ?_
  refine vdq (myes rfl rfl rfl) (vcp rfl rfl rfl (c_law01_bound _ _)) rfl rfl ?_
  refine vdq (myes rfl rfl rfl) (veqs rfl rfl rfl rfl rfl rfl) rfl rfl ?_
  refine vdknow (d := 247) (b' := true) rfl (by decide) ?_
  refine vdq (mone rfl) (vpkt rfl rfl) rfl rfl ?_
  refine vdq (mone rfl) (vmv rfl) rfl rfl ?_
  refine vdq (myes rfl rfl rfl) (vmv rfl) rfl rfl ?_
  refine vdm (myes rfl rfl rfl) (vbsP rfl rfl rfl rfl rfl rfl) rfl rfl (fun b16 => ?_)
  refine vdn rfl (myes rfl rfl rfl) (vcq rfl rfl rfl (@q_Alike [0, 2] [0, 2] oa (some ⟨b16, 0, Option.none⟩) m c 2 2 hm rfl (by have : m = 2 := hm.symm; omega) (by omega) _ _ (SlO.flat (fun _ => rfl) rfl))) rfl rfl ?_
  refine vdknow (d := 252) (b' := true) rfl (by decide) ?_
  refine vdq (mone rfl) (vpkt rfl rfl) rfl rfl ?_
  refine vdq (mone rfl) (vmv rfl) rfl rfl ?_
  refine vdq (myes rfl rfl rfl) (vmv rfl) rfl rfl ?_
  refine vdq (mone rfl) (vpkt rfl rfl) rfl rfl ?_
  refine vdq (mone rfl) (vmv rfl) rfl rfl ?_
  refine vdq (myes rfl rfl rfl) (vldn rfl rfl) rfl rfl ?_
  refine vdq (myes rfl rfl rfl) (vbd rfl rfl) rfl rfl ?_
  refine vdq (myes rfl rfl rfl) (veqs rfl rfl rfl rfl rfl rfl) rfl rfl ?_
  refine vdknow (d := 260) (b' := true) rfl (by decide) ?_
  refine vdq (mone rfl) (vpkt rfl rfl) rfl rfl ?_
  refine vdq (mone rfl) (vas rfl) rfl rfl ?_
  refine vdend rfl ?_
  refine vret (vr1 (H' := H) Try.func26 rfl (.tmp rfl) (by repeat first | exact .refl _ | refine .cons_cons _ ?_ | refine .cons _ ?_ | exact sl0 _ | refine slA ?_) ?_)
  exact ⟨rfl, rfl⟩
end Go.Proofs.Ytffpfcomikcimaa
