/-
  Walks of Danger, Starts and Judge. The walk of Judge. Appending a list that lies in a slice; clearing; storing elements in a block of one's own. No condition. Walks of Clone and DeleteFunc. Walks of DeleteFunc and of. The walk of of.
-/
import Derived.Test.YtaplkoimhecacaaDoorTb15
namespace Go.Proofs.YtaplkoimhecacaaDoor
open Go
set_option maxRecDepth 100000

attribute [local irreducible] tightP hullP rootP farP rows endsOf
instance (priority := low) HAt.appR {A H : Heap} {b : Nat} {cs : List Value} {T : TypeId} [h : HAt H b cs T] : HAt (A ++ H) b cs T := ⟨List.mem_append_right _ h.mem⟩
instance (priority := low) HUp.appR {A H : Heap} {b : Nat} {cs : List Value} {T : TypeId} {F : List Value → Heap} [h : HUp H b cs T F] : HUp (A ++ H) b cs T (fun c => A ++ F c) := by
  obtain ⟨pre, post, h1, h2⟩ := h.split
  exact ⟨A ++ pre, post, by rw [h1, List.append_assoc], fun c => by rw [h2, List.append_assoc]⟩
instance (priority := low) LgO.appR {A B : Heap} {L : LH} {g : Lg} [hs : LgO B L g] : LgO (A ++ B) L g := hs.sub fun _e he => List.mem_append_right _ he
theorem SlO.appLB {α : Type} {A B : Heap} {oa : Option Addr} {esz : Nat} {enc : α → List Value} {l : List α} (h : SlO A oa esz enc l) : SlO (A ++ B) oa esz enc l := h.sub fun _e he => List.mem_append_left _ he
theorem mapB (l : List Bool) : l.map bV = l.flatMap encB := by induction l with | nil => rfl | cons x r ih => simp [ih]
theorem OwnS.sb {e n c : Nat} {oa : Option Addr} {l : List Bool} {B : Heap} (h : OwnS e 1 (.slice oa n c) n (l.map bV) B) (hn : l.length = n) : SlO B oa 1 encB l ∧ n ≤ c := by
  refine ⟨h.slo (fun x => rfl) (by decide) (mapB l) hn, ?_⟩
  obtain ⟨oa', c', h1, h2⟩ := h.shape
  cases h1; exact h2
theorem both_ok {w : Wn} {s : Sc} (h : ¬ bothE w (chkS s) ≠ 0) : okW w ∧ okSc s := by
  have h := Classical.not_not.1 h
  unfold bothE at h
  split at h
  · rename_i h1; exact ⟨chkW_z.1 h1, chkS_z.1 h⟩
  · cases h
noncomputable def dangerE (w : Wn) (s : Sc) : List Bool × Int := if bothE w (chkS s) ≠ 0 then ([], bothE w (chkS s)) else match riskP w s with | none => ([], 62) | some l => (l, 0)
theorem danger_e {w : Wn} {s : Sc} (h : bothE w (chkS s) ≠ 0) : dangerE w s = ([], bothE w (chkS s)) := if_pos h
theorem danger_n {w : Wn} {s : Sc} (h : ¬ bothE w (chkS s) ≠ 0) (h2 : riskP w s = none) : dangerE w s = ([], 62) := by unfold dangerE; rw [if_neg h, h2]
theorem danger_y {w : Wn} {s : Sc} (h : ¬ bothE w (chkS s) ≠ 0) {l : List Bool} (h2 : riskP w s = some l) : dangerE w s = (l, 0) := by unfold dangerE; rw [if_neg h, h2]
theorem risk_len {w : Wn} {s : Sc} {l : List Bool} (h : riskP w s = some l) : l.length = s.ship.length := by
  unfold riskP at h
  split at h
  · cases h; simp [riskL]
  · cases h
theorem danger_0 {w : Wn} {s : Sc} (h : (dangerE w s).2 = 0) : okW w ∧ okSc s ∧ riskP w s = some (dangerE w s).1 ∧ (dangerE w s).1.length = s.ship.length := by
  by_cases hb : bothE w (chkS s) ≠ 0
  · rw [danger_e hb] at h; exact absurd h hb
  · obtain ⟨h1, h2⟩ := both_ok hb
    cases hr : riskP w s with
    | none => rw [danger_n hb hr] at h; cases h
    | some l => rw [danger_y hb hr]; exact ⟨h1, h2, rfl, risk_len hr⟩
theorem LgO.of {H B : Heap} {h : SH} {w : Wn} {s : Sc} {oa : Option Addr} {c : Nat} [hs : ScO H h s] (h0 : (dangerE w s).2 = 0) (hc : (dangerE w s).1.length ≤ c) (hsl : SlO B oa 1 encB (dangerE w s).1) : LgO (B ++ H) ⟨h, oa, c⟩ ⟨w, s, (dangerE w s).1⟩ := by
  obtain ⟨h1, h2, _, h4⟩ := danger_0 h0
  exact ⟨inferInstance, hsl.appLB, hc, h1, h2, h4⟩

/-- paravane/watch.Danger -/
theorem d_Danger (w : Wn) (h : SH) (s : Sc) (H : Heap) [hsc : ScO H h s] [hgl : Glob H] : VCall Tryd.prog 19 [vWn w, vSc h s].toArray H (fun o H' => ∃ v, o = .val v ∧ ∃ B, H' = B ++ H ∧ ∃ oa c, v = tup [.slice oa (dangerE w s).1.length c, I (dangerE w s).2] ∧ (dangerE w s).1.length ≤ c ∧ SlO B oa 1 encB (dangerE w s).1) := by
 refine vcall_of_vrun Tryd.func19 rfl (N := 25) rfl rfl ?_
 refine vseq ?_
 refine vregion ?_
 refine vone rfl (vxa (vbox rfl rfl) rfl rfl (fun b1 => ?_))
 refine vone rfl (vxa (vbox rfl rfl) rfl rfl (fun b2 => ?_))
 refine vone rfl (vxq (vas rfl) rfl rfl ?_)
 refine vone rfl (vxq (vas rfl) rfl rfl ?_)
 refine vnil ?_
 refine vseq ?_
 refine vseq ?_
 refine vregion ?_
 refine vone rfl (vxq (vldn rfl rfl) rfl rfl ?_)
 refine vone rfl (vxq (vldn rfl rfl) rfl rfl ?_)
 refine vone rfl (vxq (vcq rfl rfl rfl (c_both w h s _)) rfl rfl ?_)
 refine vone rfl (vxq (vas rfl) rfl rfl ?_)
 refine vnil ?_
 refine vseq ?_
 refine vregion ?_
 refine vone rfl (vxq (vmv rfl) rfl rfl ?_)
 refine vone rfl (vxq (vneq rfl rfl) rfl rfl ?_)
 refine vnil ?_
 refine vcondd rfl (fun h13 => ?_) (fun h13 => ?_)
 ·
  refine vseq ?_
  refine vregion ?_
  refine vone rfl (vxq (vmv rfl) rfl rfl ?_)
  refine vone rfl (vxq (vas rfl) rfl rfl ?_)
  refine vone rfl (vxq (vas rfl) rfl rfl ?_)
  refine vnil ?_
  refine vret (vr2 (H' := H) Tryd.func19 rfl (.tmp rfl) (.tmp rfl) sb2 ?_)
  first | (rw [danger_e h13]; exact ⟨_, rfl, [], rfl, Option.none, 0, rfl, Nat.le_refl _, SlO.nil⟩) | (rw [danger_n h13 (optN h23)]; exact ⟨_, rfl, B, rfl, Option.none, 0, rfl, Nat.le_refl _, SlO.nil⟩) | (obtain ⟨l, hl⟩ := optS h23; rw [hl] at hsl hle; rw [danger_y h13 hl, hl]; exact ⟨_, rfl, B, rfl, oa, c, rfl, hle, hsl⟩)
 ·
  obtain ⟨hw0, hs0⟩ := both_ok h13
  refine vskip ?_
  refine vseq ?_
  refine vregion ?_
  refine vone rfl (vxq (vldn rfl rfl) rfl rfl ?_)
  refine vone rfl (vxq (vbd rfl rfl) rfl rfl ?_)
  refine vone rfl (vxq (vldn rfl rfl) rfl rfl ?_)
  refine vone rfl (vxg (vcg rfl rfl rfl (d_danger h s w hw0 hs0 _) (fun o H' h => h)) rfl rfl ?_)
  rintro _ _ ⟨B, rfl, ⟨oa, n, c, rfl, hown, rfl⟩⟩
  skip
  ·
   obtain ⟨hsl, hle⟩ := hown.sb rfl
   refine vone rfl (vxq (vmv rfl) rfl rfl ?_)
   refine vone rfl (vxq (vex rfl rfl) rfl rfl ?_)
   refine vone rfl (vxq (vex rfl rfl) rfl rfl ?_)
   refine vone rfl (vxq (vas rfl) rfl rfl ?_)
   refine vone rfl (vxq (vas rfl) rfl rfl ?_)
   refine vnil ?_
   refine vseq ?_
   refine vseq ?_
   refine vregion ?_
   refine vone rfl (vxq (vmv rfl) rfl rfl ?_)
   refine vone rfl (vxq (vnot rfl) rfl rfl ?_)
   refine vnil ?_
   refine vcond rfl (fun h23 => ?_) (fun h23 => ?_)
   ·
    refine vseq ?_
    refine vregion ?_
    refine vone rfl (vxq (vas rfl) rfl rfl ?_)
    refine vone rfl (vxq (vas rfl) rfl rfl ?_)
    refine vnil ?_
    refine vret (vr2 (H' := B ++ H) Tryd.func19 rfl (.tmp rfl) (.tmp rfl) sb2 ?_)
    first | (rw [danger_e h13]; exact ⟨_, rfl, [], rfl, Option.none, 0, rfl, Nat.le_refl _, SlO.nil⟩) | (rw [danger_n h13 (optN h23)]; exact ⟨_, rfl, B, rfl, Option.none, 0, rfl, Nat.le_refl _, SlO.nil⟩) | (obtain ⟨l, hl⟩ := optS h23; rw [hl] at hsl hle; rw [danger_y h13 hl, hl]; exact ⟨_, rfl, B, rfl, oa, c, rfl, hle, hsl⟩)
   ·
    refine vskip ?_
    refine vseq ?_
    refine vregion ?_
    refine vone rfl (vxq (vmv rfl) rfl rfl ?_)
    refine vone rfl (vxq (vas rfl) rfl rfl ?_)
    refine vone rfl (vxq (vas rfl) rfl rfl ?_)
    refine vnil ?_
    refine vret (vr2 (H' := B ++ H) Tryd.func19 rfl (.tmp rfl) (.tmp rfl) sb2 ?_)
    first | (rw [danger_e h13]; exact ⟨_, rfl, [], rfl, Option.none, 0, rfl, Nat.le_refl _, SlO.nil⟩) | (rw [danger_n h13 (optN h23)]; exact ⟨_, rfl, B, rfl, Option.none, 0, rfl, Nat.le_refl _, SlO.nil⟩) | (obtain ⟨l, hl⟩ := optS h23; rw [hl] at hsl hle; rw [danger_y h13 hl, hl]; exact ⟨_, rfl, B, rfl, oa, c, rfl, hle, hsl⟩)
/-- paravane/watch.logOf -/
theorem d_logOf (w : Wn) (h : SH) (s : Sc) (H : Heap) [hsc : ScO H h s] [hgl : Glob H] : VCall Tryd.prog 55 [vWn w, vSc h s].toArray H (fun o H' => ∃ v, o = .val v ∧ ∃ B, H' = B ++ H ∧ ∃ oa c, v = tup [vLg ⟨h, oa, c⟩ ⟨w, s, (dangerE w s).1⟩, I (dangerE w s).2] ∧ (dangerE w s).1.length ≤ c ∧ SlO B oa 1 encB (dangerE w s).1) := by
 refine vcall_of_vrun Tryd.func55 rfl (N := 20) rfl rfl ?_
 refine vseq ?_
 refine vregion ?_
 refine vone rfl (vxa (vbox rfl rfl) rfl rfl (fun b1 => ?_))
 refine vone rfl (vxa (vbox rfl rfl) rfl rfl (fun b2 => ?_))
 refine vone rfl (vxa valloc rfl rfl (fun b3 => ?_))
 refine vone rfl (vxq (vas rfl) rfl rfl ?_)
 refine vnil ?_
 refine vseq ?_
 refine vregion ?_
 refine vone rfl (vxq (vldn rfl rfl) rfl rfl ?_)
 refine vone rfl (vxq (vldn rfl rfl) rfl rfl ?_)
 refine vone rfl (vxg (vcg rfl rfl rfl (d_Danger w h s _) (fun o H' h => h)) rfl rfl ?_)
 rintro _ _ ⟨B, rfl, ⟨oa, c, rfl, hle, hsl⟩⟩
 refine vone rfl (vxq (vmv rfl) rfl rfl ?_)
 refine vone rfl (vxq (vex rfl rfl) rfl rfl ?_)
 refine vone rfl (vxq (vex rfl rfl) rfl rfl ?_)
 refine vone rfl (vxq (vas rfl) rfl rfl ?_)
 refine vone rfl (vxq (vas rfl) rfl rfl ?_)
 refine vnil ?_
 refine vseq ?_
 refine vregion ?_
 refine vone rfl (vxq (vldn rfl rfl) rfl rfl ?_)
 refine vone rfl (vxq (vbd rfl rfl) rfl rfl ?_)
 refine vone rfl (vxq (vldn rfl rfl) rfl rfl ?_)
 refine vone rfl (vxq (vmv rfl) rfl rfl ?_)
 refine vone rfl (vxq (vbd rfl rfl) rfl rfl ?_)
 refine vone rfl (vxq (vmv rfl) rfl rfl ?_)
 refine vone rfl (vxs (vstn rfl rfl rfl rfl rfl) rfl ?_)
 refine vone rfl (vxq (vas rfl) rfl rfl ?_)
 refine vnil ?_
 refine vret (vr2 (H' := B ++ H) Tryd.func55 rfl (.celln rfl rfl) (.tmp rfl) sb2 ?_)
 exact ⟨_, rfl, B, rfl, oa, c, rfl, hle, hsl⟩

def startL (g : Lg) (n : Nat) : List Bool := (List.range n).map fun (t : Nat) => startP g t
theorem startL_succ (g : Lg) (n : Nat) : startL g (n + 1) = startL g n ++ [startP g n] := by unfold startL; rw [List.range_succ]; simp
theorem startL_len (g : Lg) (n : Nat) : (startL g n).length = n := by simp [startL]
noncomputable def gOf (w : Wn) (s : Sc) : Lg := ⟨w, s, (dangerE w s).1⟩
noncomputable def startsE (w : Wn) (s : Sc) : List Bool × Int := if (dangerE w s).2 ≠ 0 then ([], (dangerE w s).2) else (startL (gOf w s) s.ship.length, 0)
theorem starts_e {w : Wn} {s : Sc} (h : (dangerE w s).2 ≠ 0) : startsE w s = ([], (dangerE w s).2) := if_pos h
theorem starts_y {w : Wn} {s : Sc} (h : ¬ (dangerE w s).2 ≠ 0) : startsE w s = (startL ⟨w, s, (dangerE w s).1⟩ s.ship.length, 0) := if_neg h

/-- paravane/watch.Starts -/
theorem d_Starts (w : Wn) (h : SH) (s : Sc) (H : Heap) [hsc : ScO H h s] [hgl : Glob H] : VCall Tryd.prog 20 [vWn w, vSc h s].toArray H (fun o H' => ∃ v, o = .val v ∧ ∃ B, H' = B ++ H ∧ ∃ oa c, v = tup [.slice oa (startsE w s).1.length c, I (startsE w s).2] ∧ SlO B oa 1 encB (startsE w s).1) := by
 refine vcall_of_vrun Tryd.func20 rfl (N := 33) rfl rfl ?_
 refine vseq ?_
 refine vregion ?_
 refine vone rfl (vxa (vbox rfl rfl) rfl rfl (fun b1 => ?_))
 refine vone rfl (vxa (vbox rfl rfl) rfl rfl (fun b2 => ?_))
 refine vone rfl (vxq (vas rfl) rfl rfl ?_)
 refine vone rfl (vxq (vas rfl) rfl rfl ?_)
 refine vnil ?_
 refine vseq ?_
 refine vregion ?_
 refine vone rfl (vxq (vldn rfl rfl) rfl rfl ?_)
 refine vone rfl (vxq (vldn rfl rfl) rfl rfl ?_)
 refine vone rfl (vxg (vcg rfl rfl rfl (d_logOf w h s _) (fun o H' h => h)) rfl rfl ?_)
 rintro _ _ ⟨B, rfl, ⟨oa, c, rfl, hle, hsl⟩⟩
 refine vone rfl (vxq (vmv rfl) rfl rfl ?_)
 refine vone rfl (vxq (vex rfl rfl) rfl rfl ?_)
 refine vone rfl (vxq (vex rfl rfl) rfl rfl ?_)
 refine vone rfl (vxa valloc rfl rfl (fun b3 => ?_))
 refine vone rfl (vxs (vstn rfl rfl rfl rfl rfl) rfl ?_)
 refine vone rfl (vxq (vas rfl) rfl rfl ?_)
 refine vnil ?_
 refine vseq ?_
 refine vseq ?_
 refine vregion ?_
 refine vone rfl (vxq (vmv rfl) rfl rfl ?_)
 refine vone rfl (vxq (vneq rfl rfl) rfl rfl ?_)
 refine vnil ?_
 refine vcondd rfl (fun h17 => ?_) (fun h17 => ?_)
 ·
  refine vseq ?_
  refine vregion ?_
  refine vone rfl (vxq (vmv rfl) rfl rfl ?_)
  refine vone rfl (vxq (vas rfl) rfl rfl ?_)
  refine vone rfl (vxq (vas rfl) rfl rfl ?_)
  refine vnil ?_
  refine vret (vr2 (H' := B ++ H) Tryd.func20 rfl (.tmp rfl) (.tmp rfl) sb2 ?_)
  first | (rw [starts_e h17]; exact ⟨_, rfl, B, rfl, Option.none, 0, rfl, SlO.nil⟩) | (rw [starts_y h17]; (obtain rfl : i = s.ship.length := (by omega)); exact ⟨_, rfl, C ++ B, by rw [List.append_assoc], oa1, cp, by rw [startL_len], (hown.sb (startL_len _ _)).1.appLB⟩)
 ·
  obtain ⟨hw0, hs0, _, hdl⟩ := danger_0 (Classical.not_not.1 h17)
  haveI hlg : LgO (B ++ ((b2, blk (clSc h s) 33) :: (b1, blk (clWn w) 23) :: H)) ⟨h, oa, c⟩ ⟨w, s, (dangerE w s).1⟩ := LgO.of (Classical.not_not.1 h17) hle hsl
  have hn64 := hs0.1
  refine vskip ?_
  refine vseq ?_
  refine vregion ?_
  refine vone rfl (vxq (vas rfl) rfl rfl ?_)
  refine vnil ?_
  refine vseq ?_
  refine vseq ?_
  refine vregion ?_
  refine vone rfl (vxq (vfa rfl) rfl rfl ?_)
  refine vone rfl (vxq (vldn rfl rfl) rfl rfl ?_)
  refine vone rfl (vxq (vcp rfl rfl rfl (c_steps h s)) rfl rfl ?_)
  refine vone rfl (vxq (vmv rfl) rfl rfl ?_)
  refine vnil ?_
  refine vblock ?_
  refine vwhile (σ := Nat × Option Addr × Nat × Heap) (fun ⟨i, oa1, cp, C⟩ => s.ship.length - i) (fun ⟨i, oa1, cp, C⟩ => [(6, ptr b3), (8, .slice oa1 i cp), (21, I s.ship.length), (22, I (i : Int))]) (fun ⟨i, oa1, cp, C⟩ => (b3, blk (clLg ⟨h, oa, c⟩ ⟨w, s, (dangerE w s).1⟩) 108) :: (C ++ (B ++ ((b2, blk (clSc h s) 33) :: (b1, blk (clWn w) 23) :: H)))) (fun ⟨i, oa1, cp, C⟩ => i ≤ s.ship.length ∧ OwnS 4 1 (.slice oa1 i cp) i ((startL ⟨w, s, (dangerE w s).1⟩ i).map bV) C) (0, Option.none, 0, []) ⟨Nat.zero_le _, OwnS.nil⟩ ⟨rfl, rfl, rfl, rfl, True.intro⟩ sb ?_
  rintro ⟨i, oa1, cp, C⟩ ⟨hin, hown⟩ IH
  change VRun _ _ _ _ _ [(6, ptr b3), (8, .slice oa1 i cp), (21, I s.ship.length), (22, I (i : Int))] _ ((b3, blk (clLg ⟨h, oa, c⟩ ⟨w, s, (dangerE w s).1⟩) 108) :: (C ++ (B ++ ((b2, blk (clSc h s) 33) :: (b1, blk (clWn w) 23) :: H)))) _
  refine vseq ?_
  refine vregion ?_
  refine vone rfl (vxq (vlss rfl rfl) rfl rfl ?_)
  refine vnil ?_
  refine vseq ?_
  refine vcondd rfl (fun h23 => ?_) (fun h23 => ?_)
  ·
   refine vskip ?_
   refine vseq ?_
   refine vblock ?_
   refine vseq ?_
   refine vregion ?_
   refine vone rfl (vxq (vmv rfl) rfl rfl ?_)
   refine vone rfl (vxq (vas rfl) rfl rfl ?_)
   refine vnil ?_
   refine vregion ?_
   refine vone rfl (vxq (vmv rfl) rfl rfl ?_)
   refine vone rfl (vxq (vldn rfl rfl) rfl rfl ?_)
   refine vone rfl (vxq (vmv rfl) rfl rfl ?_)
   refine vone rfl (vxq (vcq rfl rfl rfl (c_starts ⟨h, oa, c⟩ ⟨w, s, (dangerE w s).1⟩ _ i (by simp only; omega))) rfl rfl ?_)
   refine vone rfl (vxg (vbs rfl rfl rfl rfl rfl rfl) rfl rfl ?_)
   rintro _ _ ⟨bn, rfl, rfl⟩
   refine vone rfl (vxg (vappF (a := ⟨bn, 0, Option.none⟩) (m := 1) (c := 1) (size := 1) (bytes := 1) (F := fun C => (bn, blk [.bool (startP ⟨w, s, (dangerE w s).1⟩ i)] 4) :: (b3, blk (clLg ⟨h, oa, c⟩ ⟨w, s, (dangerE w s).1⟩) 108) :: (C ++ (B ++ ((b2, blk (clSc h s) 33) :: (b1, blk (clWn w) 23) :: H)))) (B := C) (xs := (startL ⟨w, s, (dangerE w s).1⟩ i).map bV) (news := [.bool (startP ⟨w, s, (dangerE w s).1⟩ i)]) (fun C => perm_mid [(bn, blk [.bool (startP ⟨w, s, (dangerE w s).1⟩ i)] 4), (b3, blk (clLg ⟨h, oa, c⟩ ⟨w, s, (dangerE w s).1⟩) 108)] C (B ++ ((b2, blk (clSc h s) 33) :: (b1, blk (clWn w) 23) :: H))) rfl rfl hown rfl (news_blk (b := bn) (List.Mem.head _)) (fun u hu => by rw [List.mem_singleton.1 hu]; rfl) (by omega) (by simp only [maxLen]; omega) (by omega)) rfl rfl ?_)
   rintro _ _ ⟨C2, hown2, _, rfl⟩
   obtain ⟨oa2, cp2, rfl, hle2⟩ := hown2.shape
   refine vone rfl (vxq (vas rfl) rfl rfl ?_)
   refine vnil ?_
   refine vinblock ?_
   refine vregion ?_
   refine vone rfl (vxq (vadd rfl rfl (by unfold InR; omega)) rfl rfl ?_)
   refine vone rfl (vxq (vmv rfl) rfl rfl ?_)
   refine vnil ?_
   exact vback (IH (i + 1, oa2, cp2, C2) ⟨by omega, by rw [startL_succ, List.map_append]; exact hown2⟩ (by show _ - (i + 1) < _ - i; omega)) ⟨rfl, rfl, rfl, rfl, True.intro⟩ sb2
  ·
   refine vexit (k' := _) rfl ?_
   refine vseq ?_
   refine vregion ?_
   refine vone rfl (vxq (vmv rfl) rfl rfl ?_)
   refine vone rfl (vxq (vas rfl) rfl rfl ?_)
   refine vone rfl (vxq (vas rfl) rfl rfl ?_)
   refine vnil ?_
   refine vret (vr2 (H' := C ++ (B ++ H)) Tryd.func20 rfl (.tmp rfl) (.tmp rfl) sb2 ?_)
   first | (rw [starts_e h17]; exact ⟨_, rfl, B, rfl, Option.none, 0, rfl, SlO.nil⟩) | (rw [starts_y h17]; (obtain rfl : i = s.ship.length := (by omega)); exact ⟨_, rfl, C ++ B, by rw [List.append_assoc], oa1, cp, by rw [startL_len], (hown.sb (startL_len _ _)).1.appLB⟩)
end Go.Proofs.YtaplkoimhecacaaDoor
namespace Go.Proofs.YtaplkoimhecacaaDoor
open Go
set_option maxRecDepth 100000

attribute [local irreducible] tightP hullP rootP farP rows endsOf
abbrev encI (n : Int) : List Value := [I n]
def modesBad (w : Wn) (ms : List Int) : Bool := ms.any fun m => !decide (0 ≤ m ∧ m ≤ w.soft + 1)
noncomputable def judgeE (w : Wn) (s : Sc) (ms : List Int) : Int × Int × Int :=
  if bothE w (chkS s) ≠ 0 then (0, 0, bothE w (chkS s)) else if ms.length ≠ s.ship.length ∨ modesBad w ms = true then (0, 0, 63) else if (dangerE w s).2 ≠ 0 then (0, 0, (dangerE w s).2)
  else ((judgeF ⟨w, s, (dangerE w s).1⟩ 0 sta0 ms).1, (judgeF ⟨w, s, (dangerE w s).1⟩ 0 sta0 ms).2, 0)
theorem judge_e {w : Wn} {s : Sc} {ms : List Int} (h : bothE w (chkS s) ≠ 0) : judgeE w s ms = (0, 0, bothE w (chkS s)) := if_pos h
theorem judge_m {w : Wn} {s : Sc} {ms : List Int} (h : ¬ bothE w (chkS s) ≠ 0) (h2 : ms.length ≠ s.ship.length ∨ modesBad w ms = true) : judgeE w s ms = (0, 0, 63) := by unfold judgeE; rw [if_neg h, if_pos h2]
theorem judge_d {w : Wn} {s : Sc} {ms : List Int} (h : ¬ bothE w (chkS s) ≠ 0) (h2 : ¬ (ms.length ≠ s.ship.length ∨ modesBad w ms = true)) (h3 : (dangerE w s).2 ≠ 0) : judgeE w s ms = (0, 0, (dangerE w s).2) := by unfold judgeE; rw [if_neg h, if_neg h2, if_pos h3]
theorem judge_y {w : Wn} {s : Sc} {ms : List Int} (h : ¬ bothE w (chkS s) ≠ 0) (h2 : ¬ (ms.length ≠ s.ship.length ∨ modesBad w ms = true)) (h3 : ¬ (dangerE w s).2 ≠ 0) {a b : Int} (h4 : judgeF ⟨w, s, (dangerE w s).1⟩ 0 sta0 ms = (a, b)) : judgeE w s ms = (a, b, 0) := by unfold judgeE; rw [if_neg h, if_neg h2, if_neg h3, h4]
theorem drop_of {α : Type} {l : List α} {i : Nat} {m : α} (h : l[i]? = some m) : l.drop i = m :: l.drop (i + 1) := by
  obtain ⟨h1, h2⟩ := List.getElem?_eq_some_iff.1 h
  rw [List.drop_eq_getElem_cons h1, h2]
theorem judge_go {g : Lg} {ms : List Int} {i : Nat} {x : Sta} {m : Int} (hm : ms[i]? = some m) (hb : ¬ brokenP g i x m ≠ 0) : judgeF g i x (ms.drop i) = judgeF g ((i + 1 : Nat) : Int) (afterP g i x m) (ms.drop (i + 1)) := by
  rw [drop_of hm]; simp only [judgeF]; rw [if_pos (Classical.not_not.1 hb)]; rfl
theorem judge_at {g : Lg} {ms : List Int} {i : Nat} {x : Sta} {m : Int} (hm : ms[i]? = some m) (hb : brokenP g i x m ≠ 0) : judgeF g i x (ms.drop i) = ((i : Int), brokenP g i x m) := by
  rw [drop_of hm]; simp only [judgeF]; rw [if_neg hb]
theorem judge_end {g : Lg} {ms : List Int} {i : Nat} {x : Sta} (hi : ms.length ≤ i) : judgeF g i x (ms.drop i) = ((i : Int), 0) := by
  rw [List.drop_eq_nil_of_le hi]; rfl

/-- slices.IndexFunc[[]int,int] -/
theorem g_IndexI (kf : FuncId) [TFn Tryd.prog kf] (caps : List Value) (p : Int → Bool) (l : List Int) (oa : Option Addr) (n c : Nat) (hn : l.length = n) (hmax : n ≤ 9223372036854775807) (H : Heap) [SlO H oa 1 encI l] (hg : ∀ z ∈ l, VHas Tryd.prog kf (I z :: caps) (.bool (p z)) H H) : VCall Tryd.prog 91 [sli oa n c, .func (.func kf) #[] caps.toArray].toArray H (fun o H' => ∃ r, o = .val (I r) ∧ IdxR p l r ∧ H' = H) := by
 refine vcall_of_vrun Tryd.func91 rfl (N := 19) rfl rfl ?_
 refine vseq ?_
 refine vregion ?_
 refine vone rfl (vxq (vas rfl) rfl rfl ?_)
 refine vnil ?_
 refine vseq ?_
 refine vseq ?_
 refine vregion ?_
 refine vone rfl (vxq (vmv rfl) rfl rfl ?_)
 refine vone rfl (vxq (vlen rfl) rfl rfl ?_)
 refine vone rfl (vxq (vmv rfl) rfl rfl ?_)
 refine vnil ?_
 refine vblock ?_
 refine vwhile (σ := Int) (fun i => (n - i).toNat) (fun i => [(0, sli oa n c), (1, .func (.func kf) #[] caps.toArray), (7, I n), (8, I i)]) (fun i => H) (fun i => (0 ≤ i ∧ i ≤ n) ∧ (l.take i.toNat).any p = false) 0 ⟨⟨by omega, by omega⟩, rfl⟩ ⟨rfl, rfl, rfl, rfl, True.intro⟩ sb ?_
 rintro i ⟨⟨hi0, hin⟩, hno⟩ IH
 change VRun _ _ _ _ _ [(0, sli oa n c), (1, .func (.func kf) #[] caps.toArray), (7, I n), (8, I i)] _ (H) _
 refine vseq ?_
 refine vregion ?_
 refine vone rfl (vxq (vlss rfl rfl) rfl rfl ?_)
 refine vnil ?_
 refine vseq ?_
 refine vcondd rfl (fun h9 => ?_) (fun h9 => ?_)
 ·
  obtain ⟨z, hz⟩ := get_of_lt l (i := i.toNat) (by omega)
  refine vskip ?_
  refine vseq ?_
  refine vblock ?_
  refine vseq ?_
  refine vregion ?_
  refine vone rfl (vxq (vmv rfl) rfl rfl ?_)
  refine vone rfl (vxq (vas rfl) rfl rfl ?_)
  refine vnil ?_
  refine vseq ?_
  refine vregion ?_
  refine vone rfl (vxq (vmv rfl) rfl rfl ?_)
  refine vone rfl (vxq (vmv rfl) rfl rfl ?_)
  refine vone rfl (vxq (vmv rfl) rfl rfl ?_)
  refine vone rfl (vxq (visg (enc := encI) rfl rfl (by omega) hz) rfl rfl ?_)
  refine vone rfl (vxq (vldS1 (enc := encI) rfl hz rfl) rfl rfl ?_)
  refine vone rfl (vxq (vcq rfl rfl rfl (hg z (List.mem_of_getElem? hz))) rfl rfl ?_)
  refine vnil ?_
  refine vcond rfl (fun h16 => ?_) (fun h16 => ?_)
  ·
   refine vseq ?_
   refine vregion ?_
   refine vone rfl (vxq (vmv rfl) rfl rfl ?_)
   refine vone rfl (vxq (vas rfl) rfl rfl ?_)
   refine vnil ?_
   refine vret (vr1 (H' := H) Tryd.func91 rfl (.tmp rfl) sb ?_)
   first | exact ⟨_, rfl, .inr ⟨hi0, z, hz, h16, hno⟩, rfl⟩ | exact ⟨-1, rfl, .inl ⟨rfl, by rw [show i.toNat = l.length by omega, List.take_length] at hno; exact hno⟩, rfl⟩
  ·
   refine vskip ?_
   refine vinblock ?_
   refine vregion ?_
   refine vone rfl (vxq (vadd rfl rfl (by unfold InR; omega)) rfl rfl ?_)
   refine vone rfl (vxq (vmv rfl) rfl rfl ?_)
   refine vnil ?_
   exact vback (IH (i + 1) ⟨⟨by omega, by omega⟩, by rw [show (i + 1).toNat = i.toNat + 1 by omega, any_take_snocP hz, hno, h16]; rfl⟩ (by show (_ : Int).toNat < (_ : Int).toNat; omega)) ⟨rfl, rfl, rfl, rfl, True.intro⟩ sb
 ·
  refine vexit (k' := _) rfl ?_
  refine vseq ?_
  refine vregion ?_
  refine vone rfl (vxq (vas rfl) rfl rfl ?_)
  refine vnil ?_
  refine vret (vr1 (H' := H) Tryd.func91 rfl (.tmp rfl) sb ?_)
  first | exact ⟨_, rfl, .inr ⟨hi0, z, hz, h16, hno⟩, rfl⟩ | exact ⟨-1, rfl, .inl ⟨rfl, by rw [show i.toNat = l.length by omega, List.take_length] at hno; exact hno⟩, rfl⟩
/-- slices.ContainsFunc[[]int,int] -/
theorem q_ContainsI (kf : FuncId) [TFn Tryd.prog kf] (caps : List Value) (p : Int → Bool) (l : List Int) (oa : Option Addr) (n c : Nat) (hn : l.length = n) (hmax : n ≤ 9223372036854775807) (H : Heap) [SlO H oa 1 encI l] (hg : ∀ z ∈ l, VHas Tryd.prog kf (I z :: caps) (.bool (p z)) H H) : VHas Tryd.prog 53 [sli oa n c, .func (.func kf) #[] caps.toArray] (.bool (l.any p)) H H := by
 refine vcall_of_vrun Tryd.func53 rfl (N := 9) rfl rfl ?_
 refine vseq ?_
 refine vregion ?_
 refine vone rfl (vxq (vas rfl) rfl rfl ?_)
 refine vnil ?_
 refine vseq ?_
 refine vregion ?_
 refine vone rfl (vxq (vmv rfl) rfl rfl ?_)
 refine vone rfl (vxq (vmv rfl) rfl rfl ?_)
 refine vone rfl (vxg (vcg (R := fun v H' => ∃ r, v = I r ∧ IdxR p l r ∧ H' = H) rfl rfl rfl (g_IndexI kf caps p l oa n c hn hmax _ hg) (fun _ _ ⟨r, h1, h2, h3⟩ => ⟨_, h1, r, rfl, h2, h3⟩)) rfl rfl ?_)
 rintro _ _ ⟨r, rfl, hr, rfl⟩
 refine vone rfl (vxq (vgeq rfl rfl) rfl rfl ?_)
 refine vone rfl (vxq (vas rfl) rfl rfl ?_)
 refine vnil ?_
 refine vret (vr1 (H' := _) Tryd.func53 rfl (.tmp rfl) sb ?_)
 exact ⟨oV (by congr 1; rw [Bool.eq_iff_iff, decide_eq_true_iff]; exact hr.any), rfl⟩
/-- paravane/watch.Judge$1 -/
theorem c_Judge1 (w : Wn) (hw : okW w) (z : Int) (b1' : Nat) (H : Heap) [HAt H b1' (clWn w) 23] : VHas Tryd.prog 54 [I z, ptr b1'] (.bool (!decide (0 ≤ z ∧ z ≤ w.soft + 1))) (H) (H) := by
 unfold okW at hw
 refine vcall_of_vrun Tryd.func54 rfl (N := 10) rfl rfl ?_
 refine vseq ?_
 refine vregion ?_
 refine vone rfl (vxq (vas rfl) rfl rfl ?_)
 refine vnil ?_
 refine vseq ?_
 refine vregion ?_
 refine vone rfl (vxq (vmv rfl) rfl rfl ?_)
 refine vone rfl (vxq (vfa rfl) rfl rfl ?_)
 refine vone rfl (vxq (vld1 rfl rfl) rfl rfl ?_)
 refine vone rfl (vxq (vadd rfl rfl (by unfold InR; omega)) rfl rfl ?_)
 refine vone rfl (vxq (vcp rfl rfl rfl (c_watch_within _ _ _)) rfl rfl ?_)
 refine vone rfl (vxq (vnot rfl) rfl rfl ?_)
 refine vone rfl (vxq (vas rfl) rfl rfl ?_)
 refine vnil ?_
 refine vret (vr1 (H' := H) Tryd.func54 rfl (.tmp rfl) sb ?_)
 exact ⟨rfl, rfl⟩
/-- paravane/watch.Judge -/
theorem c_Judge (w : Wn) (h : SH) (s : Sc) (H : Heap) [hsc : ScO H h s] [hgl : Glob H] (ms : List Int) (oa : Option Addr) (c : Nat) [hms : SlO H oa 1 encI ms] (hmn : ms.length ≤ 9223372036854775807) : VHas Tryd.prog 18 [vWn w, vSc h s, .slice oa ms.length c] (tup [I (judgeE w s ms).1, I (judgeE w s ms).2.1, I (judgeE w s ms).2.2]) (H) (H) := by
 refine vcall_of_vrun Tryd.func18 rfl (N := 65) rfl rfl ?_
 refine vseq ?_
 refine vregion ?_
 refine vone rfl (vxa (vbox rfl rfl) rfl rfl (fun b1 => ?_))
 refine vone rfl (vxa (vbox rfl rfl) rfl rfl (fun b2 => ?_))
 refine vone rfl (vxq (vas rfl) rfl rfl ?_)
 refine vone rfl (vxq (vas rfl) rfl rfl ?_)
 refine vone rfl (vxq (vas rfl) rfl rfl ?_)
 refine vnil ?_
 refine vscope ?_
 refine vseq ?_
 refine vseq ?_
 refine vregion ?_
 refine vone rfl (vxq (vldn rfl rfl) rfl rfl ?_)
 refine vone rfl (vxq (vldn rfl rfl) rfl rfl ?_)
 refine vone rfl (vxq (vcq rfl rfl rfl (c_both w h s _)) rfl rfl ?_)
 refine vone rfl (vxq (vas rfl) rfl rfl ?_)
 refine vnil ?_
 refine vseq ?_
 refine vregion ?_
 refine vone rfl (vxq (vmv rfl) rfl rfl ?_)
 refine vone rfl (vxq (vneq rfl rfl) rfl rfl ?_)
 refine vnil ?_
 refine vcondd rfl (fun h18 => ?_) (fun h18 => ?_)
 ·
  refine vseq ?_
  refine vregion ?_
  refine vone rfl (vxq (vmv rfl) rfl rfl ?_)
  refine vone rfl (vxq (vas rfl) rfl rfl ?_)
  refine vone rfl (vxq (vas rfl) rfl rfl ?_)
  refine vone rfl (vxq (vas rfl) rfl rfl ?_)
  refine vnil ?_
  refine vret (vr3 (H' := H) Tryd.func18 rfl (.tmp rfl) (.tmp rfl) (.tmp rfl) sb ?_)
  first | (rw [judge_e h18]; exact ⟨rfl, rfl⟩) | (rw [judge_m h18 (.inl (by omega))]; exact ⟨rfl, rfl⟩) | (rw [judge_m h18 (.inr h30)]; exact ⟨rfl, rfl⟩) | (have hno : ¬ (ms.length ≠ s.ship.length ∨ modesBad w ms = true) := fun hh => hh.elim (fun e => (by omega)) (fun e => (by rw [show modesBad w ms = false from h30] at e; cases e)); first | (rw [judge_d h18 hno h38]; exact ⟨rfl, rfl⟩) | (rw [judge_y h18 hno h38 (hj.symm.trans (judge_at hm h54))]; exact ⟨rfl, rfl⟩) | (rw [judge_y h18 hno h38 (hj.symm.trans (judge_end (by omega)))]; subst hr0; exact ⟨rfl, rfl⟩))
 ·
  obtain ⟨hw0, hs0⟩ := both_ok h18
  refine vskip ?_
  refine vseq ?_
  refine vseq ?_
  refine vregion ?_
  refine vone rfl (vxq (vmv rfl) rfl rfl ?_)
  refine vone rfl (vxq (vlen rfl) rfl rfl ?_)
  refine vone rfl (vxq (vfa rfl) rfl rfl ?_)
  refine vone rfl (vxq (vld1 rfl rfl) rfl rfl ?_)
  refine vone rfl (vxq (vlen rfl) rfl rfl ?_)
  refine vone rfl (vxq (vneq rfl rfl) rfl rfl ?_)
  refine vone rfl (vxq (vmv rfl) rfl rfl ?_)
  refine vsplitd (d := 26) rfl (fun h26 => ?_) (fun h26 => ?_)
  ·
   refine vno rfl rfl rfl rfl rfl ?_
   refine vno rfl rfl rfl rfl rfl ?_
   refine vno rfl rfl rfl rfl rfl ?_
   refine vone rfl (vxq (vpkt rfl rfl) rfl rfl ?_)
   refine vnil ?_
   refine vcondt rfl ?_
   refine vseq ?_
   refine vregion ?_
   refine vone rfl (vxq (vas rfl) rfl rfl ?_)
   refine vone rfl (vxq (vas rfl) rfl rfl ?_)
   refine vone rfl (vxq (vas rfl) rfl rfl ?_)
   refine vnil ?_
   refine vret (vr3 (H' := H) Tryd.func18 rfl (.tmp rfl) (.tmp rfl) (.tmp rfl) sb ?_)
   first | (rw [judge_e h18]; exact ⟨rfl, rfl⟩) | (rw [judge_m h18 (.inl (by omega))]; exact ⟨rfl, rfl⟩) | (rw [judge_m h18 (.inr h30)]; exact ⟨rfl, rfl⟩) | (have hno : ¬ (ms.length ≠ s.ship.length ∨ modesBad w ms = true) := fun hh => hh.elim (fun e => (by omega)) (fun e => (by rw [show modesBad w ms = false from h30] at e; cases e)); first | (rw [judge_d h18 hno h38]; exact ⟨rfl, rfl⟩) | (rw [judge_y h18 hno h38 (hj.symm.trans (judge_at hm h54))]; exact ⟨rfl, rfl⟩) | (rw [judge_y h18 hno h38 (hj.symm.trans (judge_end (by omega)))]; subst hr0; exact ⟨rfl, rfl⟩))
  ·
   refine vyes rfl rfl rfl (vxq (vmv rfl) rfl rfl ?_)
   refine vyes rfl rfl rfl (vxq (vmf rfl) rfl rfl ?_)
   refine vyes rfl rfl rfl (vxq (vcq rfl rfl rfl (q_ContainsI 54 [ptr b1] (fun m => !decide (0 ≤ m ∧ m ≤ w.soft + 1)) ms _ _ _ rfl (by omega) _ (fun z hz => c_Judge1 w hw0 z b1 _))) rfl rfl ?_)
   refine vone rfl (vxq (vpkf rfl rfl) rfl rfl ?_)
   refine vnil ?_
   refine vcond rfl (fun h30 => ?_) (fun h30 => ?_)
   ·
    refine vseq ?_
    refine vregion ?_
    refine vone rfl (vxq (vas rfl) rfl rfl ?_)
    refine vone rfl (vxq (vas rfl) rfl rfl ?_)
    refine vone rfl (vxq (vas rfl) rfl rfl ?_)
    refine vnil ?_
    refine vret (vr3 (H' := H) Tryd.func18 rfl (.tmp rfl) (.tmp rfl) (.tmp rfl) sb ?_)
    first | (rw [judge_e h18]; exact ⟨rfl, rfl⟩) | (rw [judge_m h18 (.inl (by omega))]; exact ⟨rfl, rfl⟩) | (rw [judge_m h18 (.inr h30)]; exact ⟨rfl, rfl⟩) | (have hno : ¬ (ms.length ≠ s.ship.length ∨ modesBad w ms = true) := fun hh => hh.elim (fun e => (by omega)) (fun e => (by rw [show modesBad w ms = false from h30] at e; cases e)); first | (rw [judge_d h18 hno h38]; exact ⟨rfl, rfl⟩) | (rw [judge_y h18 hno h38 (hj.symm.trans (judge_at hm h54))]; exact ⟨rfl, rfl⟩) | (rw [judge_y h18 hno h38 (hj.symm.trans (judge_end (by omega)))]; subst hr0; exact ⟨rfl, rfl⟩))
   ·
    refine vskip ?_
    refine vseq ?_
    refine vregion ?_
    refine vone rfl (vxq (vldn rfl rfl) rfl rfl ?_)
    refine vone rfl (vxq (vldn rfl rfl) rfl rfl ?_)
    refine vone rfl (vxg (vcg rfl rfl rfl (d_logOf w h s _) (fun o H' h => h)) rfl rfl ?_)
    rintro _ _ ⟨B, rfl, ⟨oa1, c1, rfl, hle, hsl⟩⟩
    refine vone rfl (vxq (vmv rfl) rfl rfl ?_)
    refine vone rfl (vxq (vex rfl rfl) rfl rfl ?_)
    refine vone rfl (vxq (vex rfl rfl) rfl rfl ?_)
    refine vone rfl (vxa valloc rfl rfl (fun b3 => ?_))
    refine vone rfl (vxs (vstn rfl rfl rfl rfl rfl) rfl ?_)
    refine vone rfl (vxq (vas rfl) rfl rfl ?_)
    refine vnil ?_
    refine vseq ?_
    refine vseq ?_
    refine vregion ?_
    refine vone rfl (vxq (vmv rfl) rfl rfl ?_)
    refine vone rfl (vxq (vneq rfl rfl) rfl rfl ?_)
    refine vnil ?_
    refine vcondd rfl (fun h38 => ?_) (fun h38 => ?_)
    ·
     refine vseq ?_
     refine vregion ?_
     refine vone rfl (vxq (vmv rfl) rfl rfl ?_)
     refine vone rfl (vxq (vas rfl) rfl rfl ?_)
     refine vone rfl (vxq (vas rfl) rfl rfl ?_)
     refine vone rfl (vxq (vas rfl) rfl rfl ?_)
     refine vnil ?_
     refine vret (vr3 (H' := H) Tryd.func18 rfl (.tmp rfl) (.tmp rfl) (.tmp rfl) sb ?_)
     first | (rw [judge_e h18]; exact ⟨rfl, rfl⟩) | (rw [judge_m h18 (.inl (by omega))]; exact ⟨rfl, rfl⟩) | (rw [judge_m h18 (.inr h30)]; exact ⟨rfl, rfl⟩) | (have hno : ¬ (ms.length ≠ s.ship.length ∨ modesBad w ms = true) := fun hh => hh.elim (fun e => (by omega)) (fun e => (by rw [show modesBad w ms = false from h30] at e; cases e)); first | (rw [judge_d h18 hno h38]; exact ⟨rfl, rfl⟩) | (rw [judge_y h18 hno h38 (hj.symm.trans (judge_at hm h54))]; exact ⟨rfl, rfl⟩) | (rw [judge_y h18 hno h38 (hj.symm.trans (judge_end (by omega)))]; subst hr0; exact ⟨rfl, rfl⟩))
    ·
     obtain ⟨_, _, _, hdl⟩ := danger_0 (Classical.not_not.1 h38)
     haveI hlg : LgO (B ++ ((b2, blk (clSc h s) 33) :: (b1, blk (clWn w) 23) :: H)) ⟨h, oa1, c1⟩ ⟨w, s, (dangerE w s).1⟩ := LgO.of (Classical.not_not.1 h38) hle hsl
     refine vskip ?_
     refine vseq ?_
     refine vregion ?_
     refine vone rfl (vxq (vglF rfl) rfl rfl ?_)
     refine vone rfl (vxa valloc rfl rfl (fun b4 => ?_))
     refine vone rfl (vxs (vstn rfl rfl rfl rfl rfl) rfl ?_)
     refine vnil ?_
     refine vseq ?_
     refine vlabel ?_
     refine vseq ?_
     refine vseq ?_
     refine vregion ?_
     refine vone rfl (vxq (vmv rfl) rfl rfl ?_)
     refine vone rfl (vxq (vlen rfl) rfl rfl ?_)
     refine vone rfl (vxq (vmv rfl) rfl rfl ?_)
     refine vnil ?_
     refine vblock ?_
     refine vwhile (σ := Nat × Sta × Int) (fun ⟨i, x, r⟩ => ms.length - i) (fun ⟨i, x, r⟩ => [(6, I (i : Int)), (7, I r), (10, ptr b3), (11, ptr b4), (41, .slice oa ms.length c), (42, I ms.length), (43, I (i : Int))]) (fun ⟨i, x, r⟩ => (b4, blk [I x.md, I x.qu] 112) :: (b3, blk (clLg ⟨h, oa1, c1⟩ ⟨w, s, (dangerE w s).1⟩) 108) :: (B ++ ((b2, blk (clSc h s) 33) :: (b1, blk (clWn w) 23) :: H))) (fun ⟨i, x, r⟩ => i ≤ ms.length ∧ r = 0 ∧ okSt x ∧ judgeF ⟨w, s, (dangerE w s).1⟩ i x (ms.drop i) = judgeF ⟨w, s, (dangerE w s).1⟩ 0 sta0 ms) (0, sta0, 0) ⟨Nat.zero_le _, rfl, sta0_ok, rfl⟩ ⟨rfl, rfl, rfl, rfl, rfl, rfl, rfl, True.intro⟩ sb ?_
     rintro ⟨i, x, r⟩ ⟨hin, hr0, hx, hj⟩ IH
     change VRun _ _ _ _ _ [(6, I (i : Int)), (7, I r), (10, ptr b3), (11, ptr b4), (41, .slice oa ms.length c), (42, I ms.length), (43, I (i : Int))] _ ((b4, blk [I x.md, I x.qu] 112) :: (b3, blk (clLg ⟨h, oa1, c1⟩ ⟨w, s, (dangerE w s).1⟩) 108) :: (B ++ ((b2, blk (clSc h s) 33) :: (b1, blk (clWn w) 23) :: H))) _
     refine vseq ?_
     refine vregion ?_
     refine vone rfl (vxq (vlss rfl rfl) rfl rfl ?_)
     refine vnil ?_
     refine vseq ?_
     refine vcondd rfl (fun h44 => ?_) (fun h44 => ?_)
     ·
      obtain ⟨m, hm⟩ := get_of_lt ms (i := i) (by omega)
      refine vskip ?_
      refine vseq ?_
      refine vblock ?_
      refine vseq ?_
      refine vregion ?_
      refine vone rfl (vxq (vmv rfl) rfl rfl ?_)
      refine vone rfl (vxq (visg (enc := encI) rfl rfl (by omega) hm) rfl rfl ?_)
      refine vone rfl (vxq (vldS1 (enc := encI) rfl hm rfl) rfl rfl ?_)
      refine vone rfl (vxq (vas rfl) rfl rfl ?_)
      refine vone rfl (vxq (vas rfl) rfl rfl ?_)
      refine vnil ?_
      refine vseq ?_
      refine vseq ?_
      refine vregion ?_
      refine vone rfl (vxq (vldn rfl rfl) rfl rfl ?_)
      refine vone rfl (vxq (vmv rfl) rfl rfl ?_)
      refine vone rfl (vxq (vldn rfl rfl) rfl rfl ?_)
      refine vone rfl (vxq (vmv rfl) rfl rfl ?_)
      refine vone rfl (vxq (vcq rfl rfl rfl (c_broken ⟨h, oa1, c1⟩ ⟨w, s, (dangerE w s).1⟩ _ i (by simp only; omega) x m)) rfl rfl ?_)
      refine vone rfl (vxq (vas rfl) rfl rfl ?_)
      refine vnil ?_
      refine vseq ?_
      refine vregion ?_
      refine vone rfl (vxq (vmv rfl) rfl rfl ?_)
      refine vone rfl (vxq (vneq rfl rfl) rfl rfl ?_)
      refine vnil ?_
      refine vcondd rfl (fun h54 => ?_) (fun h54 => ?_)
      ·
       refine vexit (k' := _) rfl ?_
       refine vseq ?_
       refine vregion ?_
       refine vone rfl (vxq (vmv rfl) rfl rfl ?_)
       refine vone rfl (vxq (vmv rfl) rfl rfl ?_)
       refine vone rfl (vxq (vas rfl) rfl rfl ?_)
       refine vone rfl (vxq (vas rfl) rfl rfl ?_)
       refine vone rfl (vxq (vas rfl) rfl rfl ?_)
       refine vnil ?_
       refine vret (vr3 (H' := H) Tryd.func18 rfl (.tmp rfl) (.tmp rfl) (.tmp rfl) sb ?_)
       first | (rw [judge_e h18]; exact ⟨rfl, rfl⟩) | (rw [judge_m h18 (.inl (by omega))]; exact ⟨rfl, rfl⟩) | (rw [judge_m h18 (.inr h30)]; exact ⟨rfl, rfl⟩) | (have hno : ¬ (ms.length ≠ s.ship.length ∨ modesBad w ms = true) := fun hh => hh.elim (fun e => (by omega)) (fun e => (by rw [show modesBad w ms = false from h30] at e; cases e)); first | (rw [judge_d h18 hno h38]; exact ⟨rfl, rfl⟩) | (rw [judge_y h18 hno h38 (hj.symm.trans (judge_at hm h54))]; exact ⟨rfl, rfl⟩) | (rw [judge_y h18 hno h38 (hj.symm.trans (judge_end (by omega)))]; subst hr0; exact ⟨rfl, rfl⟩))
      ·
       refine vskip ?_
       refine vseq ?_
       refine vregion ?_
       refine vone rfl (vxq (vldn rfl rfl) rfl rfl ?_)
       refine vone rfl (vxq (vmv rfl) rfl rfl ?_)
       refine vone rfl (vxq (vldn rfl rfl) rfl rfl ?_)
       refine vone rfl (vxq (vmv rfl) rfl rfl ?_)
       refine vone rfl (vxq (vcq rfl rfl rfl (c_after ⟨h, oa1, c1⟩ ⟨w, s, (dangerE w s).1⟩ _ i (by simp only; omega) x hx m)) rfl rfl ?_)
       refine vone rfl (vxs (vstn rfl rfl rfl rfl rfl) rfl ?_)
       refine vnil ?_
       refine vregion ?_
       refine vone rfl (vxq (vmv rfl) rfl rfl ?_)
       refine vone rfl (vxq (vadd rfl rfl (by unfold InR; omega)) rfl rfl ?_)
       refine vone rfl (vxq (vas rfl) rfl rfl ?_)
       refine vnil ?_
       refine vinblock ?_
       refine vregion ?_
       refine vone rfl (vxq (vadd rfl rfl (by unfold InR; omega)) rfl rfl ?_)
       refine vone rfl (vxq (vmv rfl) rfl rfl ?_)
       refine vnil ?_
       exact vback (IH (i + 1, afterP ⟨w, s, (dangerE w s).1⟩ i x m, brokenP ⟨w, s, (dangerE w s).1⟩ i x m) ⟨by omega, Classical.not_not.1 h54, after_okSt hw0 _ _ _, by rw [← hj]; exact (judge_go hm h54).symm⟩ (by show _ - (i + 1) < _ - i; omega)) ⟨rfl, rfl, rfl, rfl, rfl, rfl, rfl, True.intro⟩ sb2
     ·
      refine vexit (k' := _) rfl ?_
      refine vseq ?_
      refine vregion ?_
      refine vone rfl (vxq (vmv rfl) rfl rfl ?_)
      refine vone rfl (vxq (vmv rfl) rfl rfl ?_)
      refine vone rfl (vxq (vas rfl) rfl rfl ?_)
      refine vone rfl (vxq (vas rfl) rfl rfl ?_)
      refine vone rfl (vxq (vas rfl) rfl rfl ?_)
      refine vnil ?_
      refine vret (vr3 (H' := H) Tryd.func18 rfl (.tmp rfl) (.tmp rfl) (.tmp rfl) sb ?_)
      first | (rw [judge_e h18]; exact ⟨rfl, rfl⟩) | (rw [judge_m h18 (.inl (by omega))]; exact ⟨rfl, rfl⟩) | (rw [judge_m h18 (.inr h30)]; exact ⟨rfl, rfl⟩) | (have hno : ¬ (ms.length ≠ s.ship.length ∨ modesBad w ms = true) := fun hh => hh.elim (fun e => (by omega)) (fun e => (by rw [show modesBad w ms = false from h30] at e; cases e)); first | (rw [judge_d h18 hno h38]; exact ⟨rfl, rfl⟩) | (rw [judge_y h18 hno h38 (hj.symm.trans (judge_at hm h54))]; exact ⟨rfl, rfl⟩) | (rw [judge_y h18 hno h38 (hj.symm.trans (judge_end (by omega)))]; subst hr0; exact ⟨rfl, rfl⟩))
end Go.Proofs.YtaplkoimhecacaaDoor
namespace Go.Proofs.YtaplkoimhecacaaDoor
open Go
theorem put_some : ∀ (l : List Value) (o : Nat) (vs : List Value), o + vs.length ≤ l.length → put l o vs = some (l.take o ++ vs ++ l.drop (o + vs.length))
  | l, 0, [], _ => by simp [put]
  | [], 0, v :: vs, h => by simp at h
  | u :: r, 0, v :: vs, h => by
    simp only [put]
    rw [put_some r 0 vs (by simp at h ⊢; omega)]
    simp
  | [], o + 1, vs, h => by simp at h
  | u :: r, o + 1, vs, h => by
    simp only [put]
    rw [put_some r o vs (by simp at h; omega)]
    simp [show o + 1 + vs.length = o + vs.length + 1 by omega]
theorem allOne_of : ∀ {l : List Value}, (∀ v ∈ l, oneC v = true) → allOne l = true
  | [], _ => rfl
  | u :: r, h => by simp only [allOne]; rw [h u (by simp)]; exact allOne_of fun v hv => h v (by simp [hv])
section
variable {P : Program} {N : Nat} {E : Env} {D : List Deferred} {H H0 B : Heap}
variable {d : Nat} {x y : Operand} {T ty : TypeId} {pos : String} {af : Array Edge} {g : Option (Nat × Bool)}
/-- Nothing is appended to a slice of one's own. -/
theorem vapp0z {v : Value} {n e size bytes c : Nat} {oa : Option Addr} {xs : List Value} [hT : TAp P T e size bytes] (hx : ev E x = some v) (hy : ev E y = some (.slice oa 0 c)) (hown : OwnS e size v n xs B) :
    OQ P N E D H ⟨some d, .call ⟨.builtin .append, #[x, y], #[T, T]⟩, ty, pos, af, g⟩ v :=
  ov (by simp) (fun t w hA hE => by
    obtain ⟨i, z, ht, hi, hz, rfl, rfl, hzs⟩ := hT.fact
    rcases hown with ⟨rfl, rfl, rfl, rfl⟩ | ⟨gb, cap, cur, rfl, rfl, hnc, hcm, hcs, htake⟩ <;> cases oa
    · simp [execOp, resolve, invoke, builtin, ev_eval hA hx, ev_eval hA hy, Builtin.append_, run_underlying ht, sizeOf, typeInfo, hi, Builtin.lenOf, Builtin.firstCells, loadCells]
    · simp [execOp, resolve, invoke, builtin, ev_eval hA hx, ev_eval hA hy, Builtin.append_, run_underlying ht, sizeOf, typeInfo, hi, Builtin.lenOf, Builtin.firstCells, loadCells, loadCellsFrom]
    · simp [execOp, resolve, invoke, builtin, ev_eval hA hx, ev_eval hA hy, Builtin.append_, run_underlying ht, sizeOf, typeInfo, hi, Builtin.lenOf, Builtin.firstCells, hnc, storeCells, loadCells]
    · simp [execOp, resolve, invoke, builtin, ev_eval hA hx, ev_eval hA hy, Builtin.append_, run_underlying ht, sizeOf, typeInfo, hi, Builtin.lenOf, Builtin.firstCells, hnc, storeCells, loadCells, loadCellsFrom])
theorem news_slo {α : Type} {enc : α → List Value} {H : Heap} {a : Addr} {esz : Nat} {l : List α} (hs : SlO H (some a) esz enc l) (he : ∀ x, (enc x).length = esz) (h0 : 0 < esz) : ∀ j u, (l.flatMap enc)[j]? = some u → ∃ ob, (a.block, ob) ∈ H ∧ oCell ob (a.add j) = some u := by
  intro j u hu
  have hlen : (l.flatMap enc).length = l.length * esz := by
    clear hu hs
    induction l with
    | nil => simp
    | cons x l ih => rw [List.flatMap_cons, List.length_append, he, ih, List.length_cons, Nat.succ_mul]; omega
  have hj := (List.getElem?_eq_some_iff.1 hu).1
  rw [hlen] at hj
  have hi : j / esz < l.length := Nat.div_lt_of_lt_mul (by rw [Nat.mul_comm]; exact hj)
  obtain ⟨x, hx⟩ : ∃ x, l[j / esz]? = some x := ⟨_, List.getElem?_eq_getElem hi⟩
  obtain ⟨_, a', ob, e, hm, hc⟩ := hs.el _ x hx
  cases e
  have hr : j % esz < esz := Nat.mod_lt _ h0
  obtain ⟨v, hv⟩ : ∃ v, (enc x)[j % esz]? = some v := ⟨_, List.getElem?_eq_getElem (by rw [he]; exact hr)⟩
  have h1 := flat_get he l _ x _ v hx hv
  have h2 : j / esz * esz + j % esz = j := by rw [Nat.mul_comm]; exact Nat.div_add_mod j esz
  rw [h2, hu] at h1
  cases h1
  refine ⟨ob, hm, ?_⟩
  have := hc _ _ hv
  rwa [h2] at this
theorem flat_len {α : Type} {enc : α → List Value} {esz : Nat} (he : ∀ x, (enc x).length = esz) : ∀ (l : List α), (l.flatMap enc).length = l.length * esz
  | [] => by simp
  | x :: l => by rw [List.flatMap_cons, List.length_append, he, flat_len he l, List.length_cons, Nat.succ_mul]; omega
/-- A list that lies in a slice is appended. -/
theorem vappL {α : Type} {enc : α → List Value} {l : List α} (F : Heap → Heap) {v : Value} {n m c e size bytes : Nat} {xs : List Value} {oa : Option Addr} [hT : TAp P T e size bytes] (hF : ∀ C, (F C).Perm (C ++ H0)) (hx : ev E x = some v) (hy : ev E y = some (.slice oa m c)) (hown : OwnS e size v n xs B)
    (hs : SlO (F B) oa size enc l) (hl : l.length = m) (he : ∀ x, (enc x).length = size) (hsz : 0 < size) (h1 : ∀ x ∈ l, ∀ u ∈ enc x, u.oneCell' = true) (h63 : n + m ≤ maxLen) (hb : (n + m) * bytes ≤ 140737488355328) :
    OG P N E D (F B) ⟨some d, .call ⟨.builtin .append, #[x, y], #[T, T]⟩, ty, pos, af, g⟩ (fun u H' => ∃ B', OwnS e size u (n + m) (xs ++ l.flatMap enc) B' ∧ H' = F B') := by
  by_cases hm : 0 < m
  · have hne : l ≠ [] := by intro h; subst h; simp at hl; omega
    obtain ⟨z, r, rfl⟩ := List.exists_cons_of_ne_nil hne
    obtain ⟨_, a, ob, rfl, _, _⟩ := hs.el 0 z rfl
    have h := vappF (P := P) (T := T) (N := N) (E := E) (D := D) (H0 := H0) (d := d) (ty := ty) (pos := pos) (af := af) (g := g) (news := (z :: r).flatMap enc) (m := m) (c := c) F hF hx hy hown (by rw [flat_len he, hl]) (news_slo hs he hsz)
      (fun u hu => by obtain ⟨y, h3, h4⟩ := List.mem_flatMap.1 hu; exact h1 y h3 u h4) hm h63 hb
    refine ⟨h.nodef, fun t w hA hE => ?_⟩
    obtain ⟨n', w1, h2, h3⟩ := h.go t w hA hE
    refine ⟨n', w1, h2, h3.mono fun v' w2 ⟨H', hFr, B', h4, h5, h6⟩ => ⟨H', hFr, B', h4, h6⟩⟩
  · have hm0 : m = 0 := by omega
    subst hm0
    have hl0 : l = [] := List.eq_nil_of_length_eq_zero hl
    subst hl0
    have h := vapp0z (P := P) (T := T) (N := N) (E := E) (D := D) (H := F B) (d := d) (ty := ty) (pos := pos) (af := af) (g := g) hx hy hown
    refine ⟨h.nodef, fun t w hA hE => ?_⟩
    obtain ⟨n', w1, h2, h3⟩ := h.go t w hA hE
    refine ⟨n', w1, h2, h3.mono fun v' w2 ⟨H', hFr, h4, h5⟩ => ⟨H', hFr, B, ?_, h5⟩⟩
    subst h4
    simpa using hown
/-- The end of a slice that is a block's beginning. -/
theorem vslcL {b n c e esz : Nat} {lo : Operand} {kl : IntKind} {l : Int} [hT : TSl P T e esz] (hx : ev E x = some (.slice (some ⟨b, 0, Option.none⟩) n c)) (hl : ev E lo = some (.int kl l)) (h0 : 0 ≤ l) (h1 : l ≤ n) (h2 : l < c) (_h3 : n ≤ c) :
    OQ P N E D H ⟨some d, .slice T x (some lo) Option.none Option.none, ty, pos, af, g⟩ (.slice (some ⟨b, l.toNat * esz, Option.none⟩) (n - l.toNat) (c - l.toNat)) :=
  ov (by simp) (fun t w hA hE => by
    have hu := hT.und
    have e2 : (Instr.sliceBound (.int kl l) n .sliceB).run P w = .ok l.toNat w := run_sliceBound w kl l n _ h0 (by omega)
    have hne : ¬ c = l.toNat := by omega
    have hadd : (⟨b, 0, Option.none⟩ : Addr).add (l.toNat * esz) = ⟨b, l.toNat * esz, Option.none⟩ := by
      unfold Addr.add; split
      · rename_i e; rw [e]
      · simp
    simp [execOp, ev_eval hA hx, ev_eval hA hl, Instr.sliceAt, Instr.slice, Instr.sliceBounds, run_underlying hu, e2, hT.size, Result.andThen, hne, hadd])
theorem vslcH {oa : Option Addr} {n c e esz : Nat} {hi : Operand} {kh : IntKind} {h : Int} [hT : TSl P T e esz] (hx : ev E x = some (.slice oa n c)) (hh : ev E hi = some (.int kh h)) (h0 : 0 ≤ h) (h2 : h ≤ c) :
    OQ P N E D H ⟨some d, .slice T x Option.none (some hi) Option.none, ty, pos, af, g⟩ (.slice oa h.toNat c) :=
  ov (by simp) (fun t w hA hE => by
    have hu := hT.und
    have e1 : (Instr.sliceBound (.int kh h) c .sliceAcap).run P w = .ok h.toNat w := run_sliceBound w kh h c _ (by omega) h2
    have hz : ∀ a : Addr, a.add 0 = a := fun a => by unfold Addr.add; simp
    cases oa <;> simp [execOp, ev_eval hA hx, ev_eval hA hh, Instr.sliceAt, Instr.slice, Instr.sliceBounds, run_underlying hu, e1, hT.size, Result.andThen, hz])
/-- A slice's end is cleared. -/
theorem vclear {b o n c e size : Nat} {cs : List Value} {T' : TypeId} {F : List Value → Heap} {z : Value} {zs : List Value} [hH : HUp H b cs T' F] (hT : P.underlying T = some (.slice e)) (hz : (P.info? e).bind (fun i => i.zero) = some z) (hzs : z.cells = zs.toArray) (hl : zs.length = size) (h1 : allOne zs = true)
    (hx : ev E x = some (.slice (some ⟨b, o, Option.none⟩) n c)) (hfit : o + n * size ≤ cs.length) :
    OG P N E D H ⟨Option.none, .call ⟨.builtin .clear, #[x], #[T]⟩, ty, pos, af, g⟩ (fun _ H' => ∃ cs', H' = F cs' ∧ cs'.length = cs.length ∧ cs'.take o = cs.take o) := by
  refine ⟨by simp, fun t w hA hE => ?_⟩
  have hget : w.heap[b]? = some (.cells cs.toArray T' (0, 0)) := by
    obtain ⟨pre, post, h, _⟩ := hH.split
    exact hE.at_ (b, blk cs T') (by rw [h]; simp)
  obtain ⟨i, hi, hzi⟩ := Option.bind_eq_some_iff.1 hz
  have hzl : (Builtin.zeroCells z.cells n).toList.length = n * size := by rw [Array.length_toList, size_zeroCells, hzs]; simp [hl]
  have hz1 : allOne (Builtin.zeroCells z.cells n).toList = true := by
    refine allOne_of fun v hv => ?_
    unfold Builtin.zeroCells at hv
    simp only [Array.toList_map, List.mem_map] at hv
    obtain ⟨j, _, rfl⟩ := hv
    rw [hzs]
    by_cases hj : j % zs.length < zs.length
    · simp only [List.size_toArray]
      rw [getElem!_pos _ _ (by simpa using hj)]
      exact allOne_mem zs h1 _ (by simp)
    · simp only [List.size_toArray]
      rw [getElem!_neg _ _ (by simpa using hj)]
      rfl
  obtain ⟨cs', hp, htk⟩ : ∃ cs', put cs o (Builtin.zeroCells z.cells n).toList = some cs' ∧ cs'.take o = cs.take o :=
    ⟨_, put_some cs o (Builtin.zeroCells z.cells n).toList (by rw [hzl]; exact hfit), by rw [List.append_assoc, List.take_append_of_le_length (by rw [List.length_take]; omega), List.take_take, Nat.min_self]⟩
  obtain ⟨w', hr, g1, g2, g3, g4, g5, g6⟩ := run_storeCells (P := P) (o := o) (Builtin.zeroCells z.cells n).toList 0 cs cs' w hget (by simpa using hp) hz1
  refine ⟨.value (.tuple #[]), ?_⟩
  by_cases hn : n = 0
  · subst hn
    refine ⟨w, ?_, F cs, hH.set hE hget (fun _ _ => rfl) rfl rfl rfl rfl, cs, rfl, rfl, rfl⟩
    simp [execOp, resolve, invoke, builtin, ev_eval hA hx, Builtin.clear_, run_underlying hT]
  · refine ⟨w', ?_, F _, hH.set hE g1 g2 g3 g4 g5 g6, cs', rfl, put_len _ _ _ _ hp, htk⟩
    obtain ⟨m, rfl⟩ : ∃ m, n = m + 1 := ⟨n - 1, by omega⟩
    simp [execOp, resolve, invoke, builtin, ev_eval hA hx, Builtin.clear_, run_underlying hT, zeroValue, typeInfo, hi, hzi, hr]
end
section
variable {P : Program} {f : FuncId} {ro : Option Nat} {N : Nat} {k : List Item} {E : Env} {D : List Deferred} {H : Heap} {Q : Out → Heap → Prop} {ops : Array Oper} {l : List Oper}
theorem vxse {o : Oper} {R : Value → Heap → Prop} (h : OG P N E D H o R) (ho : o.dst = Option.none) (hL : ∀ v H', R v H' → VL P f ro N ops l k E D H' Q) : VX P f ro N ops o l k E D H Q :=
  vx_gen h (fun d' hd' => by rw [ho] at hd'; cases hd') (fun v H' hR => by rw [ho]; exact hL v H' hR)
end
/-! ### Stores into the elements of a slice -/
theorem flat_take {α : Type} {enc : α → List Value} {esz : Nat} (he : ∀ x, (enc x).length = esz) : ∀ (l : List α) (i : Nat), (l.flatMap enc).take (i * esz) = (l.take i).flatMap enc
  | [], i => by simp
  | x :: l, 0 => by simp
  | x :: l, i + 1 => by
    rw [List.flatMap_cons, List.take_succ_cons, List.flatMap_cons, Nat.succ_mul, Nat.add_comm, List.take_add, ← he x, List.take_left, List.drop_left, he x, flat_take he l i]
theorem flat_drop {α : Type} {enc : α → List Value} {esz : Nat} (he : ∀ x, (enc x).length = esz) : ∀ (l : List α) (i : Nat), (l.flatMap enc).drop (i * esz) = (l.drop i).flatMap enc
  | [], i => by simp
  | x :: l, 0 => by simp
  | x :: l, i + 1 => by
    rw [List.flatMap_cons, List.drop_succ_cons, Nat.succ_mul, Nat.add_comm, ← List.drop_drop, ← he x, List.drop_left, he x, flat_drop he l i]
theorem take3 {A B C : List Value} {m : Nat} (h : A.length + B.length ≤ m) : (A ++ B ++ C).take m = A ++ B ++ C.take (m - (A.length + B.length)) := by
  rw [List.take_append, List.take_of_length_le (by rw [List.length_append]; exact h), List.length_append]
theorem put_el {α : Type} {enc : α → List Value} {esz n : Nat} (he : ∀ x, (enc x).length = esz) {cur : List Value} {l : List α} {i : Nat} (z : α) (hn : l.length = n) (hlen : n * esz ≤ cur.length) (ht : cur.take (n * esz) = l.flatMap enc) (hi : i < n) :
    ∃ cur', put cur (i * esz) (enc z) = some cur' ∧ cur'.length = cur.length ∧ cur'.take (n * esz) = (l.set i z).flatMap enc := by
  have h1 : i * esz + esz ≤ n * esz := by rw [← Nat.succ_mul]; exact Nat.mul_le_mul_right _ hi
  have hp := put_some cur (i * esz) (enc z) (by rw [he]; omega)
  refine ⟨_, hp, put_len _ _ _ _ hp, ?_⟩
  have e1 : cur.take (i * esz) = (l.take i).flatMap enc := by
    rw [← flat_take he, ← ht, List.take_take, Nat.min_eq_left (by omega)]
  have e2 : (cur.drop (i * esz + esz)).take (n * esz - (i * esz + esz)) = (l.drop (i + 1)).flatMap enc := by
    rw [← flat_drop he, ← ht, List.drop_take, Nat.succ_mul]
  have hil : i < l.length := by omega
  have a1 : (cur.take (i * esz)).length = i * esz := by rw [List.length_take]; omega
  rw [List.set_eq_take_append_cons_drop, if_pos hil, List.flatMap_append, List.flatMap_cons, ← e1, ← e2, he, take3 (by rw [a1, he]; omega), a1, he, List.append_assoc]
end Go.Proofs.YtaplkoimhecacaaDoor
namespace Go.Proofs.YtaplkoimhecacaaDoor
open Go
set_option maxRecDepth 100000

attribute [local irreducible] tightP hullP rootP farP rows endsOf
theorem encI_len (x : Int) : (encI x).length = 1 := rfl
theorem encB_len (x : Bool) : (encB x).length = 1 := rfl
theorem clR_len (x : Rg) : (clR x).length = 8 := rfl
theorem clSg_len (x : Sg) : (clSg x).length = 5 := rfl
instance tApI : TAp Tryd.prog 34 3 1 8 := mkTAp (z := .int .i64 0) (by kernel_rfl) (by kernel_rfl) rfl
instance tApR : TAp Tryd.prog 29 55 8 64 := mkTAp (z := .agg [I 0, I 0, I 0, I 0, I 0, I 0, I 0, I 0].toArray) (by kernel_rfl) (by kernel_rfl) rfl
instance tApS : TAp Tryd.prog 31 49 5 48 := mkTAp (z := .agg [I 0, .string ByteArray.empty, I 0, I 0, I 0].toArray) (by kernel_rfl) (by kernel_rfl) rfl
theorem one1 {α : Type} {enc : α → List Value} (h : ∀ x, allOne (enc x) = true) (l : List α) : ∀ x ∈ l, ∀ u ∈ enc x, u.oneCell' = true := fun x _ u hu => by
  have := allOne_mem _ (h x) u hu
  cases u <;> first | rfl | cases this

/-- slices.Clone[[]int,int] -/
theorem d_CloneI (l : List Int) (oa : Option Addr) (n c : Nat) (hn : l.length = n) (hmax : n ≤ 100000) (H : Heap) [hsl : SlO H oa 1 encI l] : VCall Tryd.prog 86 [sli oa n c].toArray H (fun o H' => ∃ v, o = .val v ∧ ∃ B, H' = B ++ H ∧ ∃ oa' c', v = .slice oa' n c' ∧ OwnS 3 1 (.slice oa' n c') n (l.flatMap encI) B) := by
 refine vcall_of_vrun Tryd.func86 rfl (N := 8) rfl rfl ?_
 refine vseq ?_
 refine vregion ?_
 refine vone rfl (vxq (vas rfl) rfl rfl ?_)
 refine vnil ?_
 refine vseq ?_
 refine vseq ?_
 refine vregion ?_
 refine vone rfl (vxq (vmv rfl) rfl rfl ?_)
 refine vone rfl (vxq (veqsn rfl rfl) rfl rfl ?_)
 refine vnil ?_
 refine vcond rfl (fun h4 => ?_) (fun h4 => ?_)
 ·
  refine vseq ?_
  refine vregion ?_
  refine vone rfl (vxq (vas rfl) rfl rfl ?_)
  refine vnil ?_
  refine vret (vr1 (H' := H) Tryd.func86 rfl (.tmp rfl) sb2 ?_)
  first | exact ⟨_, rfl, B', rfl, oa', c', rfl, hown⟩ | (obtain rfl : oa = Option.none := (by cases oa with | none => rfl | some a => cases h4); have hl0 : l = [] := (by cases hl : l with | nil => rfl | cons z r => (subst hl; obtain ⟨_, a, _, h, _⟩ := hsl.el 0 z rfl; cases h)); subst hl0; subst hn; exact ⟨_, rfl, [], rfl, Option.none, 0, rfl, OwnS.nil⟩)
 ·
  refine vskip ?_
  refine vseq ?_
  refine vregion ?_
  refine vone rfl (vxg vbs0 rfl rfl ?_)
  rintro _ _ ⟨b1, rfl, rfl⟩
  refine vone rfl (vxq (vmv rfl) rfl rfl ?_)
  refine vone rfl (vxg (vappL (F := fun C => C ++ H) (H0 := H) (B := [(b1, blk [] 3)]) (xs := []) (enc := encI) (l := l) (fun C => .refl _) rfl rfl OwnS.empty inferInstance hn encI_len (by decide) (one1 (fun _ => rfl) l) (by simp only [maxLen]; omega) (by omega)) rfl rfl ?_)
  rintro _ _ ⟨B', hown, rfl⟩
  rw [Nat.zero_add, List.nil_append] at hown
  obtain ⟨oa', c', rfl, hle⟩ := hown.shape
  refine vone rfl (vxq (vas rfl) rfl rfl ?_)
  refine vnil ?_
  refine vret (vr1 (H' := B' ++ H) Tryd.func86 rfl (.tmp rfl) sb2 ?_)
  first | exact ⟨_, rfl, B', rfl, oa', c', rfl, hown⟩ | (obtain rfl : oa = Option.none := (by cases oa with | none => rfl | some a => cases h4); have hl0 : l = [] := (by cases hl : l with | nil => rfl | cons z r => (subst hl; obtain ⟨_, a, _, h, _⟩ := hsl.el 0 z rfl; cases h)); subst hl0; subst hn; exact ⟨_, rfl, [], rfl, Option.none, 0, rfl, OwnS.nil⟩)
/-- slices.Clone[[]bool,bool] -/
theorem d_CloneB (l : List Bool) (oa : Option Addr) (n c : Nat) (hn : l.length = n) (hmax : n ≤ 100000) (H : Heap) [hsl : SlO H oa 1 encB l] : VCall Tryd.prog 89 [sli oa n c].toArray H (fun o H' => ∃ v, o = .val v ∧ ∃ B, H' = B ++ H ∧ ∃ oa' c', v = .slice oa' n c' ∧ OwnS 4 1 (.slice oa' n c') n (l.flatMap encB) B) := by
 refine vcall_of_vrun Tryd.func89 rfl (N := 8) rfl rfl ?_
 refine vseq ?_
 refine vregion ?_
 refine vone rfl (vxq (vas rfl) rfl rfl ?_)
 refine vnil ?_
 refine vseq ?_
 refine vseq ?_
 refine vregion ?_
 refine vone rfl (vxq (vmv rfl) rfl rfl ?_)
 refine vone rfl (vxq (veqsn rfl rfl) rfl rfl ?_)
 refine vnil ?_
 refine vcond rfl (fun h4 => ?_) (fun h4 => ?_)
 ·
  refine vseq ?_
  refine vregion ?_
  refine vone rfl (vxq (vas rfl) rfl rfl ?_)
  refine vnil ?_
  refine vret (vr1 (H' := H) Tryd.func89 rfl (.tmp rfl) sb2 ?_)
  first | exact ⟨_, rfl, B', rfl, oa', c', rfl, hown⟩ | (obtain rfl : oa = Option.none := (by cases oa with | none => rfl | some a => cases h4); have hl0 : l = [] := (by cases hl : l with | nil => rfl | cons z r => (subst hl; obtain ⟨_, a, _, h, _⟩ := hsl.el 0 z rfl; cases h)); subst hl0; subst hn; exact ⟨_, rfl, [], rfl, Option.none, 0, rfl, OwnS.nil⟩)
 ·
  refine vskip ?_
  refine vseq ?_
  refine vregion ?_
  refine vone rfl (vxg vbs0 rfl rfl ?_)
  rintro _ _ ⟨b1, rfl, rfl⟩
  refine vone rfl (vxq (vmv rfl) rfl rfl ?_)
  refine vone rfl (vxg (vappL (F := fun C => C ++ H) (H0 := H) (B := [(b1, blk [] 4)]) (xs := []) (enc := encB) (l := l) (fun C => .refl _) rfl rfl OwnS.empty inferInstance hn encB_len (by decide) (one1 (fun _ => rfl) l) (by simp only [maxLen]; omega) (by omega)) rfl rfl ?_)
  rintro _ _ ⟨B', hown, rfl⟩
  rw [Nat.zero_add, List.nil_append] at hown
  obtain ⟨oa', c', rfl, hle⟩ := hown.shape
  refine vone rfl (vxq (vas rfl) rfl rfl ?_)
  refine vnil ?_
  refine vret (vr1 (H' := B' ++ H) Tryd.func89 rfl (.tmp rfl) sb2 ?_)
  first | exact ⟨_, rfl, B', rfl, oa', c', rfl, hown⟩ | (obtain rfl : oa = Option.none := (by cases oa with | none => rfl | some a => cases h4); have hl0 : l = [] := (by cases hl : l with | nil => rfl | cons z r => (subst hl; obtain ⟨_, a, _, h, _⟩ := hsl.el 0 z rfl; cases h)); subst hl0; subst hn; exact ⟨_, rfl, [], rfl, Option.none, 0, rfl, OwnS.nil⟩)
/-- slices.Clone[[]paravane/api.Region,paravane/api.Region] -/
theorem d_CloneR (l : List Rg) (oa : Option Addr) (n c : Nat) (hn : l.length = n) (hmax : n ≤ 100000) (H : Heap) [hsl : SlO H oa 8 clR l] : VCall Tryd.prog 88 [sli oa n c].toArray H (fun o H' => ∃ v, o = .val v ∧ ∃ B, H' = B ++ H ∧ ∃ oa' c', v = .slice oa' n c' ∧ OwnS 55 8 (.slice oa' n c') n (l.flatMap clR) B) := by
 refine vcall_of_vrun Tryd.func88 rfl (N := 8) rfl rfl ?_
 refine vseq ?_
 refine vregion ?_
 refine vone rfl (vxq (vas rfl) rfl rfl ?_)
 refine vnil ?_
 refine vseq ?_
 refine vseq ?_
 refine vregion ?_
 refine vone rfl (vxq (vmv rfl) rfl rfl ?_)
 refine vone rfl (vxq (veqsn rfl rfl) rfl rfl ?_)
 refine vnil ?_
 refine vcond rfl (fun h4 => ?_) (fun h4 => ?_)
 ·
  refine vseq ?_
  refine vregion ?_
  refine vone rfl (vxq (vas rfl) rfl rfl ?_)
  refine vnil ?_
  refine vret (vr1 (H' := H) Tryd.func88 rfl (.tmp rfl) sb2 ?_)
  first | exact ⟨_, rfl, B', rfl, oa', c', rfl, hown⟩ | (obtain rfl : oa = Option.none := (by cases oa with | none => rfl | some a => cases h4); have hl0 : l = [] := (by cases hl : l with | nil => rfl | cons z r => (subst hl; obtain ⟨_, a, _, h, _⟩ := hsl.el 0 z rfl; cases h)); subst hl0; subst hn; exact ⟨_, rfl, [], rfl, Option.none, 0, rfl, OwnS.nil⟩)
 ·
  refine vskip ?_
  refine vseq ?_
  refine vregion ?_
  refine vone rfl (vxg vbs0 rfl rfl ?_)
  rintro _ _ ⟨b1, rfl, rfl⟩
  refine vone rfl (vxq (vmv rfl) rfl rfl ?_)
  refine vone rfl (vxg (vappL (F := fun C => C ++ H) (H0 := H) (B := [(b1, blk [] 55)]) (xs := []) (enc := clR) (l := l) (fun C => .refl _) rfl rfl OwnS.empty inferInstance hn clR_len (by decide) (one1 (fun _ => rfl) l) (by simp only [maxLen]; omega) (by omega)) rfl rfl ?_)
  rintro _ _ ⟨B', hown, rfl⟩
  rw [Nat.zero_add, List.nil_append] at hown
  obtain ⟨oa', c', rfl, hle⟩ := hown.shape
  refine vone rfl (vxq (vas rfl) rfl rfl ?_)
  refine vnil ?_
  refine vret (vr1 (H' := B' ++ H) Tryd.func88 rfl (.tmp rfl) sb2 ?_)
  first | exact ⟨_, rfl, B', rfl, oa', c', rfl, hown⟩ | (obtain rfl : oa = Option.none := (by cases oa with | none => rfl | some a => cases h4); have hl0 : l = [] := (by cases hl : l with | nil => rfl | cons z r => (subst hl; obtain ⟨_, a, _, h, _⟩ := hsl.el 0 z rfl; cases h)); subst hl0; subst hn; exact ⟨_, rfl, [], rfl, Option.none, 0, rfl, OwnS.nil⟩)
/-- slices.Clone[[]paravane/api.Sight,paravane/api.Sight] -/
theorem d_CloneS (l : List Sg) (oa : Option Addr) (n c : Nat) (hn : l.length = n) (hmax : n ≤ 100000) (H : Heap) [hsl : SlO H oa 5 clSg l] : VCall Tryd.prog 90 [sli oa n c].toArray H (fun o H' => ∃ v, o = .val v ∧ ∃ B, H' = B ++ H ∧ ∃ oa' c', v = .slice oa' n c' ∧ OwnS 49 5 (.slice oa' n c') n (l.flatMap clSg) B) := by
 refine vcall_of_vrun Tryd.func90 rfl (N := 8) rfl rfl ?_
 refine vseq ?_
 refine vregion ?_
 refine vone rfl (vxq (vas rfl) rfl rfl ?_)
 refine vnil ?_
 refine vseq ?_
 refine vseq ?_
 refine vregion ?_
 refine vone rfl (vxq (vmv rfl) rfl rfl ?_)
 refine vone rfl (vxq (veqsn rfl rfl) rfl rfl ?_)
 refine vnil ?_
 refine vcond rfl (fun h4 => ?_) (fun h4 => ?_)
 ·
  refine vseq ?_
  refine vregion ?_
  refine vone rfl (vxq (vas rfl) rfl rfl ?_)
  refine vnil ?_
  refine vret (vr1 (H' := H) Tryd.func90 rfl (.tmp rfl) sb2 ?_)
  first | exact ⟨_, rfl, B', rfl, oa', c', rfl, hown⟩ | (obtain rfl : oa = Option.none := (by cases oa with | none => rfl | some a => cases h4); have hl0 : l = [] := (by cases hl : l with | nil => rfl | cons z r => (subst hl; obtain ⟨_, a, _, h, _⟩ := hsl.el 0 z rfl; cases h)); subst hl0; subst hn; exact ⟨_, rfl, [], rfl, Option.none, 0, rfl, OwnS.nil⟩)
 ·
  refine vskip ?_
  refine vseq ?_
  refine vregion ?_
  refine vone rfl (vxg vbs0 rfl rfl ?_)
  rintro _ _ ⟨b1, rfl, rfl⟩
  refine vone rfl (vxq (vmv rfl) rfl rfl ?_)
  refine vone rfl (vxg (vappL (F := fun C => C ++ H) (H0 := H) (B := [(b1, blk [] 49)]) (xs := []) (enc := clSg) (l := l) (fun C => .refl _) rfl rfl OwnS.empty inferInstance hn clSg_len (by decide) (one1 (fun _ => rfl) l) (by simp only [maxLen]; omega) (by omega)) rfl rfl ?_)
  rintro _ _ ⟨B', hown, rfl⟩
  rw [Nat.zero_add, List.nil_append] at hown
  obtain ⟨oa', c', rfl, hle⟩ := hown.shape
  refine vone rfl (vxq (vas rfl) rfl rfl ?_)
  refine vnil ?_
  refine vret (vr1 (H' := B' ++ H) Tryd.func90 rfl (.tmp rfl) sb2 ?_)
  first | exact ⟨_, rfl, B', rfl, oa', c', rfl, hown⟩ | (obtain rfl : oa = Option.none := (by cases oa with | none => rfl | some a => cases h4); have hl0 : l = [] := (by cases hl : l with | nil => rfl | cons z r => (subst hl; obtain ⟨_, a, _, h, _⟩ := hsl.el 0 z rfl; cases h)); subst hl0; subst hn; exact ⟨_, rfl, [], rfl, Option.none, 0, rfl, OwnS.nil⟩)
end Go.Proofs.YtaplkoimhecacaaDoor
namespace Go.Proofs.YtaplkoimhecacaaDoor
open Go
set_option maxRecDepth 100000

attribute [local irreducible] tightP hullP rootP farP rows endsOf
/-- Deleting in place: what stands ahead, and what is still to come. -/
structure DelI (p : Sg → Bool) (l : List Sg) (n cap : Nat) (i j : Int) (l' : List Sg) (cur : List Value) : Prop where
  bd : 0 ≤ i ∧ i < j ∧ j ≤ n
  len : l'.length = n
  cl : cur.length = cap * 5
  tk : cur.take (n * 5) = l'.flatMap clSg
  kept : l'.take i.toNat = (l.take j.toNat).filter fun x => !p x
  rest : l'.drop j.toNat = l.drop j.toNat
section
variable {p : Sg → Bool} {l l' : List Sg} {n cap : Nat} {i j : Int} {cur : List Value} {z : Sg}
theorem filter_none (h : l.any p = false) : l.filter (fun x => !p x) = l := by
  rw [List.filter_eq_self]
  intro x hx
  cases hp : p x with
  | false => rfl
  | true => rw [List.any_eq_true.2 ⟨x, hx, hp⟩] at h; cases h
theorem DelI.start {r : Int} (hn : l.length = n) (hc : cur.length = cap * 5) (ht : cur.take (n * 5) = l.flatMap clSg) (h0 : 0 ≤ r) (hz : l[r.toNat]? = some z) (hp : p z = true) (hno : (l.take r.toNat).any p = false) : DelI p l n cap r (r + 1) l cur := by
  have hlt := (List.getElem?_eq_some_iff.1 hz).1
  refine ⟨by omega, hn, hc, ht, ?_, rfl⟩
  rw [show (r + 1).toNat = r.toNat + 1 by omega, take_succ_of hz, List.filter_append, filter_none hno]
  simp [hp]
theorem DelI.get (h : DelI p l n cap i j l' cur) (hj : j < n) : ∃ z, l'[j.toNat]? = some z ∧ l[j.toNat]? = some z := by
  have hb := h.bd
  have hl := h.len
  obtain ⟨z, hz⟩ := get_of_lt l' (i := j.toNat) (by omega)
  refine ⟨z, hz, ?_⟩
  have h1 : (l'.drop j.toNat)[0]? = some z := by rw [List.getElem?_drop]; exact hz
  rw [h.rest, List.getElem?_drop] at h1
  exact h1
theorem DelI.skip (h : DelI p l n cap i j l' cur) (hj : j < n) (hz : l[j.toNat]? = some z) (hp : p z = true) : DelI p l n cap i (j + 1) l' cur := by
  have hb := h.bd
  refine ⟨by omega, h.len, h.cl, h.tk, ?_, ?_⟩
  · rw [h.kept, show (j + 1).toNat = j.toNat + 1 by omega, take_succ_of hz, List.filter_append]; simp [hp]
  · rw [show (j + 1).toNat = j.toNat + 1 by omega, ← List.drop_drop, h.rest, List.drop_drop]
theorem DelI.keep {cur' : List Value} (h : DelI p l n cap i j l' cur) (hj : j < n) (hz : l[j.toNat]? = some z) (hp : p z = false) (hl : cur'.length = cur.length) (ht : cur'.take (n * 5) = (l'.set i.toNat z).flatMap clSg) : DelI p l n cap (i + 1) (j + 1) (l'.set i.toNat z) cur' := by
  have hb := h.bd
  have hln := h.len
  refine ⟨by omega, by rw [List.length_set]; exact h.len, by rw [hl]; exact h.cl, ht, ?_, ?_⟩
  · rw [show (j + 1).toNat = j.toNat + 1 by omega, take_succ_of hz, List.filter_append, ← h.kept, show (i + 1).toNat = i.toNat + 1 by omega]
    rw [take_succ_of (l := l'.set i.toNat z) (z := z) (by rw [List.getElem?_set_self (by omega)])]
    rw [List.take_set_of_le (Nat.le_refl _)]
    simp [hp]
  · rw [List.drop_set_of_lt (by omega), show (j + 1).toNat = j.toNat + 1 by omega, ← List.drop_drop, h.rest, List.drop_drop]
theorem DelI.fin {cur' : List Value} {g : Nat} (h : DelI p l n cap i j l' cur) (hj : ¬ j < n) (hln : l.length = n) (hnc : n ≤ cap) (hcm : cap ≤ maxLen) (hl : cur'.length = cur.length) (ht : cur'.take (i.toNat * 5) = cur.take (i.toNat * 5)) :
    i.toNat = (l.filter fun x => !p x).length ∧ SlO [(g, blk cur' 49)] (some ⟨g, 0, Option.none⟩) 5 clSg (l.filter fun x => !p x) := by
  have hb := h.bd
  have hl2 := h.len
  have hk : l'.take i.toNat = l.filter fun x => !p x := by
    rw [h.kept, show j.toNat = l.length by omega, List.take_length]
  have hlen : i.toNat = (l.filter fun x => !p x).length := by rw [← hk, List.length_take]; omega
  have hown : OwnS 49 5 (.slice (some ⟨g, 0, Option.none⟩) i.toNat cap) i.toNat ((l.filter fun x => !p x).flatMap clSg) [(g, blk cur' 49)] := by
    refine .inr ⟨g, cap, cur', rfl, rfl, by omega, hcm, by rw [hl]; exact h.cl, ?_⟩
    rw [ht, ← hk, ← flat_take clSg_len, ← h.tk, List.take_take, Nat.min_eq_left (Nat.mul_le_mul_right _ (by omega))]
  exact ⟨hlen, hown.slo clSg_len (by decide) rfl hlen.symm⟩
end

/-- slices.DeleteFunc[[]paravane/api.Sight,paravane/api.Sight] -/
theorem d_DeleteS1 (kf : FuncId) [TFn Tryd.prog kf] (caps : List Value) (p : Sg → Bool) (l : List Sg) (n : Nat) (hn : l.length = n) (hmax : n ≤ 100000) (H : Heap) (hg : ∀ (X : Heap) (z : Sg), VHas Tryd.prog kf (vSg z :: caps) (.bool (p z)) (X ++ H) (X ++ H)) (g cap : Nat) (cur : List Value) (hnc : n ≤ cap) (hcm : cap ≤ maxLen) (hcl : cur.length = cap * 5) (htk : cur.take (n * 5) = l.flatMap clSg) : VCall Tryd.prog 95 [.slice (some ⟨g, 0, Option.none⟩) n cap, .func (.func kf) #[] caps.toArray].toArray ((g, blk cur 49) :: H) (fun o H' => ∃ v, o = .val v ∧ ∃ B, H' = B ++ H ∧ ∃ oa c, v = .slice oa (l.filter fun x => !p x).length c ∧ SlO B oa 5 clSg (l.filter fun x => !p x)) := by
 haveI hsl0 : SlO [(g, blk cur 49)] (some ⟨g, 0, Option.none⟩) 5 clSg l := OwnS.slo (e := 49) (n := n) (c := cap) (.inr ⟨g, cap, cur, rfl, rfl, hnc, hcm, hcl, htk⟩) clSg_len (by decide) rfl hn
 haveI hsl1 : SlO ((g, blk cur 49) :: H) (some ⟨g, 0, Option.none⟩) 5 clSg l := hsl0.sub fun e he => by rw [List.mem_singleton.1 he]; exact List.mem_cons_self
 refine vcall_of_vrun Tryd.func95 rfl (N := 42) rfl rfl ?_
 refine vseq ?_
 refine vregion ?_
 refine vone rfl (vxq (vas rfl) rfl rfl ?_)
 refine vnil ?_
 refine vseq ?_
 refine vregion ?_
 refine vone rfl (vxq (vmv rfl) rfl rfl ?_)
 refine vone rfl (vxq (vmv rfl) rfl rfl ?_)
 refine vone rfl (vxg (vcg (R := fun v H' => ∃ r, v = I r ∧ IdxR p l r ∧ H' = [(g, blk cur 49)] ++ H) rfl rfl rfl (g_IndexS kf caps p l (some ⟨g, 0, Option.none⟩) n cap hn (by omega) _ (fun z _ => hg ([(g, blk cur 49)]) z)) (fun _ _ ⟨r, h1, h2, h3⟩ => ⟨_, h1, r, rfl, h2, h3⟩)) rfl rfl ?_)
 rintro _ _ ⟨r, rfl, hr, rfl⟩
 refine vone rfl (vxq (vas rfl) rfl rfl ?_)
 refine vnil ?_
 refine vseq ?_
 refine vseq ?_
 refine vregion ?_
 refine vone rfl (vxq (vmv rfl) rfl rfl ?_)
 refine vone rfl (vxq (veql rfl rfl) rfl rfl ?_)
 refine vnil ?_
 refine vcondd rfl (fun h12 => ?_) (fun h12 => ?_)
 ·
  refine vseq ?_
  refine vregion ?_
  refine vone rfl (vxq (vmv rfl) rfl rfl ?_)
  refine vone rfl (vxq (vas rfl) rfl rfl ?_)
  refine vnil ?_
  refine vret (vr1 (H' := (g, blk cur 49) :: H) Tryd.func95 rfl (.tmp rfl) sb2 ?_)
  first | (have hno : l.any p = false := (by rcases hr with ⟨_, h2⟩ | ⟨h1, _⟩; exact h2; omega); rw [filter_none hno, hn]; exact ⟨_, rfl, [(g, blk cur 49)], rfl, some ⟨g, 0, Option.none⟩, cap, rfl, hsl0⟩) | (obtain ⟨hfl, hfs⟩ := hI.fin (g := g) h19 hn hnc hcm hcs1 hcs2; rw [hfl]; exact ⟨_, rfl, [(g, blk cs' 49)], rfl, some ⟨g, 0, Option.none⟩, cap, rfl, hfs⟩)
 ·
  obtain ⟨hr0, zr, hzr, hpr, hnor⟩ : 0 ≤ r ∧ ∃ z, l[r.toNat]? = some z ∧ p z = true ∧ (l.take r.toNat).any p = false := by rcases hr with ⟨h1, _⟩ | h1; exact absurd h1 h12; exact h1
  have hrl := (List.getElem?_eq_some_iff.1 hzr).1
  refine vskip ?_
  refine vseq ?_
  refine vseq ?_
  refine vregion ?_
  refine vone rfl (vxq (vmv rfl) rfl rfl ?_)
  refine vone rfl (vxq (vadd rfl rfl (by unfold InR; omega)) rfl rfl ?_)
  refine vone rfl (vxq (vas rfl) rfl rfl ?_)
  refine vnil ?_
  refine vblock ?_
  refine vwhile (σ := Int × Int × List Sg × List Value) (fun ⟨i, j, l', cur1⟩ => (n - j).toNat) (fun ⟨i, j, l', cur1⟩ => [(0, .slice (some ⟨g, 0, Option.none⟩) n cap), (1, .func (.func kf) #[] caps.toArray), (5, I i), (6, I j)]) (fun ⟨i, j, l', cur1⟩ => (g, blk cur1 49) :: H) (fun ⟨i, j, l', cur1⟩ => DelI p l n cap i j l' cur1) (r, r + 1, l, cur) (DelI.start hn hcl htk hr0 hzr hpr hnor) ⟨rfl, rfl, rfl, rfl, True.intro⟩ sb ?_
  rintro ⟨i, j, l', cur1⟩ hI IH
  change VRun _ _ _ _ _ [(0, .slice (some ⟨g, 0, Option.none⟩) n cap), (1, .func (.func kf) #[] caps.toArray), (5, I i), (6, I j)] _ ((g, blk cur1 49) :: H) _
  have hib := hI.bd
  have hil := hI.len
  haveI hslI : SlO ((g, blk cur1 49) :: H) (some ⟨g, 0, Option.none⟩) 5 clSg l' := (OwnS.slo (e := 49) (n := n) (c := cap) (B := [(g, blk cur1 49)]) (.inr ⟨g, cap, cur1, rfl, rfl, hnc, hcm, hI.cl, hI.tk⟩) clSg_len (by decide) rfl hI.len).sub fun e he => by rw [List.mem_singleton.1 he]; exact List.mem_cons_self
  refine vseq ?_
  refine vseq ?_
  refine vregion ?_
  refine vone rfl (vxq (vmv rfl) rfl rfl ?_)
  refine vone rfl (vxq (vmv rfl) rfl rfl ?_)
  refine vone rfl (vxq (vlen rfl) rfl rfl ?_)
  refine vone rfl (vxq (vlss rfl rfl) rfl rfl ?_)
  refine vnil ?_
  refine vcondd rfl (fun h19 => ?_) (fun h19 => ?_)
  ·
   obtain ⟨z, hz, hzl⟩ := hI.get h19
   refine vskip ?_
   refine vseq ?_
   refine vblock ?_
   refine vseq ?_
   refine vregion ?_
   refine vone rfl (vxq (vmv rfl) rfl rfl ?_)
   refine vone rfl (vxq (vmv rfl) rfl rfl ?_)
   refine vone rfl (vxq (visg (enc := clSg) rfl rfl (by omega) hz) rfl rfl ?_)
   refine vone rfl (vxq (vldS (enc := clSg) rfl hz) rfl rfl ?_)
   refine vone rfl (vxa valloc rfl rfl (fun b1 => ?_))
   refine vone rfl (vxs (vstn rfl rfl rfl rfl rfl) rfl ?_)
   refine vnil ?_
   refine vseq ?_
   refine vregion ?_
   refine vone rfl (vxq (vmv rfl) rfl rfl ?_)
   refine vone rfl (vxq (vldn rfl rfl) rfl rfl ?_)
   refine vone rfl (vxq (vcq rfl rfl rfl (hg [(b1, blk (clSg z) 49), (g, blk cur1 49)] z)) rfl rfl ?_)
   refine vone rfl (vxq (vnot rfl) rfl rfl ?_)
   refine vnil ?_
   refine vcond rfl (fun h29 => ?_) (fun h29 => ?_)
   ·
    obtain ⟨cur2, hput, hcl2, htk2⟩ := put_el (n := n) clSg_len z hI.len (by rw [hI.cl]; exact Nat.mul_le_mul_right _ hnc) hI.tk (i := i.toNat) (by omega)
    rw [show i.toNat * 5 = 0 + i.toNat * 5 by omega] at hput
    refine vseq ?_
    refine vregion ?_
    refine vone rfl (vxq (vmv rfl) rfl rfl ?_)
    refine vone rfl (vxq (vmv rfl) rfl rfl ?_)
    refine vone rfl (vxq (vldn rfl rfl) rfl rfl ?_)
    refine vone rfl (vxq (vis rfl rfl (by omega)) rfl rfl ?_)
    refine vone rfl (vxs (vstn rfl rfl rfl rfl hput) rfl ?_)
    refine vnil ?_
    refine vregion ?_
    refine vone rfl (vxq (vmv rfl) rfl rfl ?_)
    refine vone rfl (vxq (vadd rfl rfl (by unfold InR; omega)) rfl rfl ?_)
    refine vone rfl (vxq (vas rfl) rfl rfl ?_)
    refine vnil ?_
    refine vinblock ?_
    refine vregion ?_
    refine vone rfl (vxq (vmv rfl) rfl rfl ?_)
    refine vone rfl (vxq (vadd rfl rfl (by unfold InR; omega)) rfl rfl ?_)
    refine vone rfl (vxq (vas rfl) rfl rfl ?_)
    refine vnil ?_
    first | exact vback (IH (i + 1, j + 1, l'.set i.toNat z, cur2) (hI.keep h19 hzl (nf h29) hcl2 htk2) (by show (_ : Int).toNat < (_ : Int).toNat; omega)) ⟨rfl, rfl, rfl, rfl, True.intro⟩ sb2 | exact vback (IH (i, j + 1, l', cur1) (hI.skip h19 hzl (nt h29)) (by show (_ : Int).toNat < (_ : Int).toNat; omega)) ⟨rfl, rfl, rfl, rfl, True.intro⟩ sb2
   ·
    refine vskip ?_
    refine vinblock ?_
    refine vregion ?_
    refine vone rfl (vxq (vmv rfl) rfl rfl ?_)
    refine vone rfl (vxq (vadd rfl rfl (by unfold InR; omega)) rfl rfl ?_)
    refine vone rfl (vxq (vas rfl) rfl rfl ?_)
    refine vnil ?_
    first | exact vback (IH (i + 1, j + 1, l'.set i.toNat z, cur2) (hI.keep h19 hzl (nf h29) hcl2 htk2) (by show (_ : Int).toNat < (_ : Int).toNat; omega)) ⟨rfl, rfl, rfl, rfl, True.intro⟩ sb2 | exact vback (IH (i, j + 1, l', cur1) (hI.skip h19 hzl (nt h29)) (by show (_ : Int).toNat < (_ : Int).toNat; omega)) ⟨rfl, rfl, rfl, rfl, True.intro⟩ sb2
  ·
   refine vexit (k' := _) rfl ?_
   refine vseq ?_
   refine vregion ?_
   refine vone rfl (vxq (vmv rfl) rfl rfl ?_)
   refine vone rfl (vxq (vmv rfl) rfl rfl ?_)
   refine vone rfl (vxq (vslcL rfl rfl (by omega) (by omega) (by omega) hnc) rfl rfl ?_)
   refine vone rfl (vxse (vclear (P := Tryd.prog) (e := 49) (size := 5) (z := .agg [I 0, .string ByteArray.empty, I 0, I 0, I 0].toArray) (zs := [I 0, .string ByteArray.empty, I 0, I 0, I 0]) (by kernel_rfl) (by kernel_rfl) rfl rfl rfl rfl (by rw [hI.cl]; omega)) rfl ?_)
   rintro _ _ ⟨cs', rfl, hcs1, hcs2⟩
   refine vnil ?_
   refine vseq ?_
   refine vregion ?_
   refine vone rfl (vxq (vmv rfl) rfl rfl ?_)
   refine vone rfl (vxq (vmv rfl) rfl rfl ?_)
   refine vone rfl (vxq (vslcH rfl rfl (by omega) (by omega)) rfl rfl ?_)
   refine vone rfl (vxq (vas rfl) rfl rfl ?_)
   refine vnil ?_
   refine vret (vr1 (H' := (g, blk cs' 49) :: H) Tryd.func95 rfl (.tmp rfl) sb2 ?_)
   first | (have hno : l.any p = false := (by rcases hr with ⟨_, h2⟩ | ⟨h1, _⟩; exact h2; omega); rw [filter_none hno, hn]; exact ⟨_, rfl, [(g, blk cur 49)], rfl, some ⟨g, 0, Option.none⟩, cap, rfl, hsl0⟩) | (obtain ⟨hfl, hfs⟩ := hI.fin (g := g) h19 hn hnc hcm hcs1 hcs2; rw [hfl]; exact ⟨_, rfl, [(g, blk cs' 49)], rfl, some ⟨g, 0, Option.none⟩, cap, rfl, hfs⟩)
end Go.Proofs.YtaplkoimhecacaaDoor
namespace Go.Proofs.YtaplkoimhecacaaDoor
open Go
set_option maxRecDepth 100000
attribute [local irreducible] tightP hullP rootP farP rows endsOf
/-- slices.DeleteFunc[[]paravane/api.Sight,paravane/api.Sight] -/
theorem d_DeleteS0 (kf : FuncId) [TFn Tryd.prog kf] (caps : List Value) (H : Heap) : VCall Tryd.prog 95 [.slice Option.none 0 0, .func (.func kf) #[] caps.toArray].toArray H (fun o H' => o = .val (.slice Option.none 0 0) ∧ H' = H) := by
 refine vcall_of_vrun Tryd.func95 rfl (N := 42) rfl rfl ?_
 refine vseq ?_
 refine vregion ?_
 refine vone rfl (vxq (vas rfl) rfl rfl ?_)
 refine vnil ?_
 refine vseq ?_
 refine vregion ?_
 refine vone rfl (vxq (vmv rfl) rfl rfl ?_)
 refine vone rfl (vxq (vmv rfl) rfl rfl ?_)
 refine vone rfl (vxg (vcg (R := fun v H' => ∃ r, v = I r ∧ IdxR (fun _ => false) ([] : List Sg) r ∧ H' = H) rfl rfl rfl (haveI : SlO H Option.none 5 clSg ([] : List Sg) := SlO.nil; g_IndexS kf caps (fun _ => false) [] Option.none 0 0 rfl (by omega) H (fun z hz => by cases hz)) (fun _ _ ⟨r, h1, h2, h3⟩ => ⟨_, h1, r, rfl, h2, h3⟩)) rfl rfl ?_)
 rintro _ _ ⟨r, rfl, hr, rfl⟩
 obtain rfl : r = -1 := by rcases hr with ⟨h1, _⟩ | ⟨_, z, h2, _⟩; exact h1; cases h2
 refine vone rfl (vxq (vas rfl) rfl rfl ?_)
 refine vnil ?_
 refine vseq ?_
 refine vseq ?_
 refine vregion ?_
 refine vone rfl (vxq (vmv rfl) rfl rfl ?_)
 refine vone rfl (vxq (veql rfl rfl) rfl rfl ?_)
 refine vknow (d := 12) (b' := true) rfl rfl ?_
 refine vnil ?_
 refine vcondt rfl ?_
 refine vseq ?_
 refine vregion ?_
 refine vone rfl (vxq (vmv rfl) rfl rfl ?_)
 refine vone rfl (vxq (vas rfl) rfl rfl ?_)
 refine vnil ?_
 refine vret (vr1 (H' := _) Tryd.func95 rfl (.tmp rfl) sb ?_)
 exact ⟨rfl, rfl⟩

theorem d_DeleteS (kf : FuncId) [TFn Tryd.prog kf] (caps : List Value) (p : Sg → Bool) (l : List Sg) (n : Nat) (hn : l.length = n) (hmax : n ≤ 100000) (H : Heap) (hg : ∀ (X : Heap) (z : Sg), VHas Tryd.prog kf (vSg z :: caps) (.bool (p z)) (X ++ H) (X ++ H)) (oa : Option Addr) (c : Nat) (B : Heap) (hown : OwnS 49 5 (.slice oa n c) n (l.flatMap clSg) B) : VCall Tryd.prog 95 [.slice oa n c, .func (.func kf) #[] caps.toArray].toArray (B ++ H) (fun o H' => ∃ v, o = .val v ∧ ∃ B, H' = B ++ H ∧ ∃ oa c, v = .slice oa (l.filter fun x => !p x).length c ∧ SlO B oa 5 clSg (l.filter fun x => !p x)) := by
  rcases hown with ⟨h1, h2, _, rfl⟩ | ⟨g, cap, cur, h1, rfl, h2, h3, h4, h5⟩
  · cases h1
    have hl0 : l = [] := List.eq_nil_of_length_eq_zero hn
    subst hl0
    refine (d_DeleteS0 kf caps H).mono fun o H' ⟨h6, h7⟩ => ⟨_, h6, [], h7, Option.none, 0, rfl, SlO.nil⟩
  · cases h1
    exact d_DeleteS1 kf caps p l n hn hmax H hg g c cur h2 h3 h4 h5
def ofS (s : Sc) (nm : ByteArray) : Sc := { s with sg := s.sg.filter fun x => !decide (x.nm ≠ nm) }

/-- (paravane/watch.scene).of$1 -/
theorem c_of1 (z : Sg) (nm : ByteArray) (b1' : Nat) (H : Heap) [HAt H b1' [.string nm] 9] : VHas Tryd.prog 96 [vSg z, ptr b1'] (.bool (decide (z.nm ≠ nm))) (H) (H) := by
 refine vcall_of_vrun Tryd.func96 rfl (N := 8) rfl rfl ?_
 refine vseq ?_
 refine vregion ?_
 refine vone rfl (vxa (vbox rfl rfl) rfl rfl (fun b1 => ?_))
 refine vone rfl (vxq (vas rfl) rfl rfl ?_)
 refine vnil ?_
 refine vseq ?_
 refine vregion ?_
 refine vone rfl (vxq (vfa rfl) rfl rfl ?_)
 refine vone rfl (vxq (vld1 rfl rfl) rfl rfl ?_)
 refine vone rfl (vxq (vld1 rfl rfl) rfl rfl ?_)
 refine vone rfl (vxq (vnest rfl rfl) rfl rfl ?_)
 refine vone rfl (vxq (vas rfl) rfl rfl ?_)
 refine vnil ?_
 refine vret (vr1 (H' := H) Tryd.func96 rfl (.tmp rfl) sb ?_)
 exact ⟨rfl, rfl⟩
/-- (paravane/watch.scene).of -/
theorem d_of (h : SH) (s : Sc) (nm : ByteArray) (H : Heap) [hsc : ScO H h s] (hs32 : s.sg.length ≤ 32) : VCall Tryd.prog 64 [vSc h s, .string nm].toArray H (fun o H' => ∃ v, o = .val v ∧ ∃ B, H' = B ++ H ∧ ∃ oa c, v = vSc { h with a5 := oa, c5 := c } (ofS s nm) ∧ SlO B oa 5 clSg (ofS s nm).sg) := by
 refine vcall_of_vrun Tryd.func64 rfl (N := 14) rfl rfl ?_
 refine vseq ?_
 refine vregion ?_
 refine vone rfl (vxa (vbox rfl rfl) rfl rfl (fun b1 => ?_))
 refine vone rfl (vxa (vbox rfl rfl) rfl rfl (fun b2 => ?_))
 refine vone rfl (vxa valloc rfl rfl (fun b3 => ?_))
 refine vnil ?_
 refine vseq ?_
 refine vregion ?_
 refine vone rfl (vxq (vfa rfl) rfl rfl ?_)
 refine vone rfl (vxq (vfa rfl) rfl rfl ?_)
 refine vone rfl (vxq (vld1 rfl rfl) rfl rfl ?_)
 refine vone rfl (vxg (vcg rfl rfl rfl (d_CloneS s.sg _ _ _ rfl (by omega) _) (fun o H' h => h)) rfl rfl ?_)
 rintro _ _ ⟨B1, rfl, ⟨oa1, c1, rfl, hown1⟩⟩
 refine vone rfl (vxq (vmf rfl) rfl rfl ?_)
 refine vone rfl (vxg (vcg rfl rfl rfl (d_DeleteS 96 [ptr b2] (fun x => decide (x.nm ≠ nm)) s.sg _ rfl (by omega) ((b3, blk [.slice Option.none 0 0, .slice Option.none 0 0, .slice Option.none 0 0, .slice Option.none 0 0, .slice Option.none 0 0] 106) :: (b2, blk [.string nm] 9) :: (b1, blk (clSc h s) 106) :: H) (fun X z => c_of1 z nm b2 _) oa1 c1 B1 hown1) (fun o H' h => h)) rfl rfl ?_)
 rintro _ _ ⟨B2, rfl, ⟨oa2, c2, rfl, hsl2⟩⟩
 refine vone rfl (vxq (vfa rfl) rfl rfl ?_)
 refine vone rfl (vxq (vfa rfl) rfl rfl ?_)
 refine vone rfl (vxs (vst1 rfl rfl rfl rfl) rfl ?_)
 refine vnil ?_
 refine vseq ?_
 refine vregion ?_
 refine vone rfl (vxq (vldn rfl rfl) rfl rfl ?_)
 refine vone rfl (vxs (vstn rfl rfl rfl rfl rfl) rfl ?_)
 refine vnil ?_
 refine vret (vr1 (H' := B2 ++ H) Tryd.func64 rfl (.celln rfl rfl) sb2 ?_)
 exact ⟨_, rfl, B2, rfl, oa2, c2, rfl, hsl2⟩
end Go.Proofs.YtaplkoimhecacaaDoor
