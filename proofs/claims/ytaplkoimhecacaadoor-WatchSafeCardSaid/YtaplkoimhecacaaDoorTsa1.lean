/-
  What the base lacks. Walks of the laws' own small functions: full, led. The walks of WatchSafe and WatchBetter.
-/
import Derived.Test.YtaplkoimhecacaaDoorB01
import Derived.Test.YtaplkoimhecacaaDoorB02
import Derived.Test.YtaplkoimhecacaaDoorB03
import Derived.Test.YtaplkoimhecacaaDoorB04
import Derived.Test.YtaplkoimhecacaaDoorB05
import Derived.Test.YtaplkoimhecacaaDoorB06
import Derived.Test.YtaplkoimhecacaaDoorB07
import Derived.Test.YtaplkoimhecacaaDoorB08
import Derived.Test.YtaplkoimhecacaaDoorB09
import Derived.Test.YtaplkoimhecacaaDoorB10
import Derived.Test.YtaplkoimhecacaaDoorB11
import Derived.Test.YtaplkoimhecacaaDoorB12
import Derived.Test.YtaplkoimhecacaaDoorB13
import Derived.Test.YtaplkoimhecacaaDoorB14
import Derived.Test.YtaplkoimhecacaaDoorB15
import Derived.Test.YtaplkoimhecacaaDoorB16
import Derived.Test.YtaplkoimhecacaaDoorB17
import Derived.Test.YtaplkoimhecacaaDoorB18
import Derived.Test.YtaplkoimhecacaaDoorB19
import Derived.Test.YtaplkoimhecacaaDoorB20
namespace Go.Proofs.YtaplkoimhecacaaDoor
open Go
set_option maxRecDepth 100000
section
open Go
theorem stAt_md (g : Lg) (ms : List Int) (n : Nat) : (stAt g ms (n + 1)).md = mdAt ms n := by
  simp only [stAt, afterP]; split <;> rfl
theorem quiet_le (g : Lg) (x : Sta) : quietP g x = -1 ∨ (1 ≤ quietP g x ∧ quietP g x ≤ g.w.pause) ∨ quietP g x ≤ 0 := by
  by_cases h1 : x.md = g.w.soft + 1
  · rw [quietP_full h1]; split <;> omega
  · by_cases h2 : 0 < x.qu
    · rw [quietP_qu h1 h2]; split <;> omega
    · rw [quietP_no h1 h2]; omega
/-- The search backwards for a full step before a pause: k steps are left, the pause ends before step T. -/
def pauseN (g : Lg) (ms : List Int) (T : Int) : Nat → Bool
  | 0 => false
  | k + 1 => if mdAt ms k ≠ 0 then decide (mdAt ms k = g.w.soft + 1) else if g.w.pause < T - k ∨ bAt g.d k = true ∨ lookB g k = false then false else pauseN g ms T k
theorem pauseN_iff (g : Lg) (hs : 0 ≤ g.w.soft) (hp : 0 ≤ g.w.pause) (ms : List Int) : ∀ (k : Nat) (T : Int), (k : Int) ≤ T → (pauseN g ms T k = true ↔ (stAt g ms k).md = g.w.soft + 1 ∨ ((stAt g ms k).md = 0 ∧ 0 < (stAt g ms k).qu ∧ T - k + (stAt g ms k).qu ≤ g.w.pause))
  | 0, T, _ => by
    simp only [pauseN, stAt, sta0]
    constructor
    · intro h; cases h
    · intro h; omega
  | k + 1, T, hT => by
    have ih := pauseN_iff g hs hp ms k T (by omega)
    rw [stAt_md]
    simp only [pauseN]
    by_cases hm : mdAt ms k ≠ 0
    · rw [if_pos hm, decide_eq_true_eq]
      constructor
      · exact fun h => .inl h
      · rintro (h | h)
        · exact h
        · exact absurd h.1 hm
    · rw [if_neg hm]
      have hm := Classical.not_not.1 hm
      rw [hm]
      by_cases hd : bAt g.d k = true ∨ lookB g k = false
      · rw [if_pos (.inr hd)]
        have : (stAt g ms (k + 1)).qu = -1 := by
          simp only [stAt, afterP, hm]; rw [if_pos (.inr hd)]
        rw [this]
        constructor
        · intro h; cases h
        · intro h; omega
      · have hq : (stAt g ms (k + 1)).qu = quietP g (stAt g ms k) := by
          simp only [stAt, afterP, hm]; rw [if_neg (by rintro (h | h); exact h rfl; exact hd h)]
        rw [hq]
        by_cases hlt : g.w.pause < T - k
        · rw [if_pos (.inl hlt)]
          constructor
          · intro h; cases h
          · rintro (h | ⟨_, h1, h2⟩)
            · omega
            · push_cast at h2; omega
        · rw [if_neg (by rintro (h | h); exact hlt h; exact hd h), ih]
          push_cast
          by_cases h1 : (stAt g ms k).md = g.w.soft + 1
          · rw [quietP_full h1]
            constructor
            · intro _
              right
              rw [if_neg (show ¬ g.w.pause < 1 by omega)]
              simp only [true_and]
              omega
            · exact fun _ => .inl h1
          · by_cases h2 : 0 < (stAt g ms k).qu
            · rw [quietP_qu h1 h2]
              have hmd : (stAt g ms k).md = 0 := by
                cases k with
                | zero => rfl
                | succ j =>
                  rw [stAt_md]
                  by_cases h3 : mdAt ms j = 0
                  · exact h3
                  · have : (stAt g ms (j + 1)).qu = -1 := by simp only [stAt, afterP]; rw [if_pos (.inl h3)]
                    omega
              by_cases h4 : g.w.pause < (stAt g ms k).qu + 1
              · rw [if_pos h4]; simp only [true_and]; omega
              · rw [if_neg h4]; simp only [true_and]; omega
            · rw [quietP_no h1 h2]
              simp only [true_and]
              omega
/-- The rule that the mode of a step breaks, as the reference says it. -/
def ruleF (g : Lg) (ms : List Int) (t : Nat) : Int :=
  let m := mdAt ms t
  let was := if t = 0 then 0 else mdAt ms (t - 1)
  if m = 0 then 0
  else if bAt g.d t = true then 1
  else if bAt g.s.eyes t = false ∧ bAt g.s.ears t = false then 2
  else if m = 1 ∧ startP g t = false then 3
  else if (if m = g.w.soft + 1 then was = g.w.soft ∨ was = g.w.soft + 1 ∨ pauseN g ms t t = true else was = m - 1) then 0 else 4
theorem ruleF_eq (g : Lg) (hs : 1 ≤ g.w.soft) (hp : 0 ≤ g.w.pause) (ms : List Int) (hm : ∀ m ∈ ms, 0 ≤ m ∧ m ≤ g.w.soft + 1) (t : Nat) : ruleF g ms t = brokenP g t (stAt g ms t) (mdAt ms t) := by
  have hb : ∀ j, 0 ≤ mdAt ms j ∧ mdAt ms j ≤ g.w.soft + 1 := by
    intro j
    unfold mdAt
    cases h : ms[j]? with
    | none => simp only [Option.getD_none]; omega
    | some m => simp only [Option.getD_some]; exact hm m (List.mem_of_getElem? h)
  have hwas : (if t = 0 then 0 else mdAt ms (t - 1)) = (stAt g ms t).md := by
    cases t with
    | zero => rfl
    | succ j => rw [stAt_md]; simp
  have hbt := hb t
  have hbm : 0 ≤ (stAt g ms t).md ∧ (stAt g ms t).md ≤ g.w.soft + 1 := by
    cases t with
    | zero => simp only [stAt, sta0]; omega
    | succ j => rw [stAt_md]; exact hb j
  have hpa := pauseN_iff g (by omega) hp ms t t (Int.le_refl _)
  have hqmd : 0 < (stAt g ms t).qu → (stAt g ms t).md = 0 ∧ (stAt g ms t).qu ≤ g.w.pause := by
    intro h
    cases t with
    | zero => simp only [stAt, sta0] at h; omega
    | succ j =>
      by_cases h3 : mdAt ms j ≠ 0 ∨ bAt g.d j = true ∨ lookB g j = false
      · have : (stAt g ms (j + 1)).qu = -1 := by simp only [stAt, afterP]; rw [if_pos h3]
        omega
      · have e : (stAt g ms (j + 1)).qu = quietP g (stAt g ms j) := by simp only [stAt, afterP]; rw [if_neg h3]
        rw [e] at h ⊢
        refine ⟨by rw [stAt_md]; exact Classical.not_not.1 fun h4 => h3 (.inl h4), ?_⟩
        rcases quiet_le g (stAt g ms j) with h4 | h4 | h4 <;> omega
  have hq0 : (stAt g ms t).qu ≠ 0 := by
    cases t with
    | zero => simp only [stAt, sta0]; omega
    | succ j =>
      simp only [stAt, afterP]
      split
      · simp only; omega
      · simp only [quietP]
        split
        · omega
        · split
          · omega
          · split <;> omega
  unfold ruleF brokenP
  simp only [hwas]
  generalize (stAt g ms t).md = md at *
  generalize (stAt g ms t).qu = qu at *
  generalize mdAt ms t = m at *
  by_cases h0 : m = 0
  · rw [if_pos h0, if_pos h0]
  rw [if_neg h0, if_neg h0]
  by_cases h1 : bAt g.d t = true
  · rw [if_pos h1, if_pos h1]
  rw [if_neg h1, if_neg h1]
  have hl : (bAt g.s.eyes t = false ∧ bAt g.s.ears t = false) ↔ lookB g t = false := by
    unfold lookB; rw [Bool.or_eq_false_iff]
  by_cases h2 : lookB g t = false
  · rw [if_pos (hl.2 h2), if_pos h2]
  rw [if_neg (fun h => h2 (hl.1 h)), if_neg h2]
  by_cases h3 : m = 1 ∧ startP g t = false
  · rw [if_pos h3, if_pos h3]
  rw [if_neg h3, if_neg h3]
  by_cases hf : m = g.w.soft + 1
  · rw [if_neg (show ¬ (m = 1 ∧ md ≠ 0 ∨ (1 < m ∧ m ≤ g.w.soft ∧ md ≠ m - 1)) by omega)]
    by_cases h4 : md = g.w.soft ∨ md = g.w.soft + 1 ∨ pauseN g ms t t = true
    · rw [if_pos (by rw [if_pos hf]; exact h4), if_neg]
      rintro ⟨_, h5, h6⟩
      rcases h4 with h4 | h4 | h4
      · omega
      · omega
      · rw [hpa] at h4; omega
    · rw [if_neg (by rw [if_pos hf]; exact h4), if_pos]
      refine ⟨hf, by omega, ?_⟩
      rcases Int.lt_or_le qu 0 with h5 | h5
      · exact h5
      · exfalso
        apply h4
        have := hqmd (by omega)
        exact .inr (.inr (hpa.2 (.inr ⟨this.1, by omega, by omega⟩)))
  · by_cases h4 : md = m - 1
    · rw [if_pos (by rw [if_neg hf]; exact h4), if_neg (by omega), if_neg (by omega)]
    · rw [if_neg (by rw [if_neg hf]; exact h4), if_pos (by omega)]
/-- The search backwards for a whole soft start. -/
def ledN (w : Wn) (ms : List Int) (k : Nat) : Nat → Int → Int → Bool
  | 0, _, _ => false
  | i + 1, want, silent =>
    if mdAt ms i = 0 ∧ want = w.soft + 1 ∧ silent < w.pause ∧ i < k then ledN w ms k i want (silent + 1)
    else if mdAt ms i = w.soft + 1 ∧ want = w.soft + 1 then ledN w ms k i want 0
    else if mdAt ms i = w.soft ∧ want = w.soft + 1 ∧ silent = 0 then (if w.soft = 1 then true else ledN w ms k i (w.soft - 1) silent)
    else if mdAt ms i = want ∧ want ≤ w.soft then (if want = 1 then true else ledN w ms k i (want - 1) silent)
    else false
theorem led_low (g : Lg) (hs : 1 ≤ g.w.soft) (ms : List Int) (k : Nat) : ∀ (i : Nat) (want silent : Int), okUp g ms i → 1 ≤ want → want ≤ g.w.soft → (stAt g ms i).md = want → ledN g.w ms k i want silent = true
  | 0, want, silent, _, h1, _, h3 => by simp only [stAt, sta0] at h3; omega
  | i + 1, want, silent, hok, h1, h2, h3 => by
    rw [stAt_md] at h3
    have hb := hok i (by omega)
    have ih := led_low g hs ms k i (want - 1) silent (fun t ht => hok t (by omega))
    simp only [ledN]
    rw [if_neg (by first | omega | (simp only [true_and, and_true]; omega)), if_neg (by first | omega | (simp only [true_and, and_true]; omega)), if_neg (by first | omega | (simp only [true_and, and_true]; omega)), if_pos ⟨h3, h2⟩]
    by_cases hw : want = 1
    · rw [if_pos hw]
    · rw [if_neg hw]
      refine ih (by omega) (by omega) ?_
      unfold brokenP at hb
      rw [h3, if_neg (by first | omega | (simp only [true_and, and_true]; omega))] at hb
      split at hb
      · omega
      · split at hb
        · omega
        · split at hb
          · omega
          · split at hb
            · omega
            · rename_i h4
              rcases Classical.em ((stAt g ms i).md = want - 1) with h5 | h5
              · exact h5
              · exact absurd (.inr ⟨by omega, h2, h5⟩) h4
theorem led_full (g : Lg) (hs : 1 ≤ g.w.soft) (hp : 0 ≤ g.w.pause) (ms : List Int) (hm : ∀ m ∈ ms, 0 ≤ m ∧ m ≤ g.w.soft + 1) (k : Nat) : ∀ (i : Nat) (silent : Int), okUp g ms i → 0 ≤ silent →
    ((i ≤ k + 1 ∧ (stAt g ms i).md = g.w.soft + 1) ∨ (i ≤ k ∧ (stAt g ms i).md = g.w.soft ∧ silent = 0) ∨ (i ≤ k ∧ (stAt g ms i).md = 0 ∧ 0 < (stAt g ms i).qu ∧ silent + (stAt g ms i).qu ≤ g.w.pause)) → ledN g.w ms k i (g.w.soft + 1) silent = true
  | 0, silent, _, _, h => by simp only [stAt, sta0] at h; omega
  | i + 1, silent, hok, h0, h => by
    rw [stAt_md] at h
    have hb := hok i (by omega)
    have ih := fun sl => led_full g hs hp ms hm k i sl (fun t ht => hok t (by omega))
    simp only [ledN]
    rcases h with ⟨h1, h2⟩ | ⟨h1, h2, h3⟩ | ⟨h1, h2, h3, h4⟩
    · rw [if_neg (by first | omega | (simp only [true_and, and_true]; omega)), if_pos (by first | omega | (simp only [true_and, and_true]; omega))]
      refine ih 0 (Int.le_refl _) ?_
      unfold brokenP at hb
      rw [h2, if_neg (by first | omega | (simp only [true_and, and_true]; omega))] at hb
      split at hb
      · omega
      · split at hb
        · omega
        · split at hb
          · omega
          · split at hb
            · omega
            · split at hb
              · omega
              · rename_i h5 h6
                have hbm : (stAt g ms i).md ≤ g.w.soft + 1 := by
                  cases i with
                  | zero => simp only [stAt, sta0]; omega
                  | succ j =>
                    rw [stAt_md]; unfold mdAt
                    cases h : ms[j]? with
                    | none => simp only [Option.getD_none]; omega
                    | some m => simp only [Option.getD_some]; exact (hm m (List.mem_of_getElem? h)).2
                rcases Int.lt_or_le (stAt g ms i).md g.w.soft with h7 | h7
                · have h8 : 0 ≤ (stAt g ms i).qu := by
                    rcases Int.lt_or_le (stAt g ms i).qu 0 with h9 | h9
                    · exact absurd ⟨by omega, h7, h9⟩ h6
                    · exact h9
                  cases i with
                  | zero => simp only [stAt, sta0] at h8; omega
                  | succ j =>
                    by_cases h3 : mdAt ms j ≠ 0 ∨ bAt g.d j = true ∨ lookB g j = false
                    · have : (stAt g ms (j + 1)).qu = -1 := by simp only [stAt, afterP]; rw [if_pos h3]
                      omega
                    · have e : (stAt g ms (j + 1)).qu = quietP g (stAt g ms j) := by simp only [stAt, afterP]; rw [if_neg h3]
                      have h10 : (stAt g ms (j + 1)).md = 0 := by rw [stAt_md]; exact Classical.not_not.1 fun h4 => h3 (.inl h4)
                      right; right
                      have h11 := quiet_q0 g (stAt g ms j)
                      rw [e] at h8 ⊢
                      rcases quiet_le g (stAt g ms j) with h4 | h4 | h4 <;> omega
                · rcases Int.lt_or_le g.w.soft (stAt g ms i).md with h9 | h9
                  · exact .inl ⟨by omega, by omega⟩
                  · exact .inr (.inl ⟨by omega, by omega, rfl⟩)
    · rw [if_neg (by first | omega | (simp only [true_and, and_true]; omega)), if_neg (by first | omega | (simp only [true_and, and_true]; omega)), if_pos (by first | omega | (simp only [true_and, and_true]; omega))]
      by_cases hs1 : g.w.soft = 1
      · rw [if_pos hs1]
      · rw [if_neg hs1]
        refine led_low g hs ms k i _ _ (fun t ht => hok t (by omega)) (by omega) (by omega) ?_
        unfold brokenP at hb
        rw [h2, if_neg (by first | omega | (simp only [true_and, and_true]; omega))] at hb
        split at hb
        · omega
        · split at hb
          · omega
          · split at hb
            · omega
            · split at hb
              · omega
              · rename_i h4
                rcases Classical.em ((stAt g ms i).md = g.w.soft - 1) with h5 | h5
                · exact h5
                · exact absurd (.inr ⟨by omega, by omega, h5⟩) h4
    · rw [if_pos (by first | omega | (simp only [true_and, and_true]; omega))]
      refine ih (silent + 1) (by omega) ?_
      have e : (stAt g ms (i + 1)).qu = quietP g (stAt g ms i) := by
        by_cases h5 : mdAt ms i ≠ 0 ∨ bAt g.d i = true ∨ lookB g i = false
        · have : (stAt g ms (i + 1)).qu = -1 := by simp only [stAt, afterP]; rw [if_pos h5]
          omega
        · simp only [stAt, afterP]; rw [if_neg h5]
      rw [e] at h3 h4
      by_cases h5 : (stAt g ms i).md = g.w.soft + 1
      · exact .inl ⟨by omega, h5⟩
      · by_cases h6 : 0 < (stAt g ms i).qu
        · rw [quietP_qu h5 h6] at h3 h4
          have hmd : (stAt g ms i).md = 0 := by
            cases i with
            | zero => rfl
            | succ j =>
              rw [stAt_md]
              by_cases h7 : mdAt ms j = 0
              · exact h7
              · have : (stAt g ms (j + 1)).qu = -1 := by simp only [stAt, afterP]; rw [if_pos (.inl h7)]
                omega
          split at h3
          · omega
          · rename_i h7
            rw [if_neg h7] at h4
            exact .inr (.inr ⟨by omega, hmd, h6, by omega⟩)
        · rw [quietP_no h5 h6] at h3
          omega
/-- A step that is not silent comes of a whole soft start. -/
theorem led_true (g : Lg) (hs : 1 ≤ g.w.soft) (hp : 0 ≤ g.w.pause) (ms : List Int) (hm : ∀ m ∈ ms, 0 ≤ m ∧ m ≤ g.w.soft + 1) (k : Nat) (hok : okUp g ms (k + 1)) (hne : mdAt ms k ≠ 0) : ledN g.w ms k (k + 1) (mdAt ms k) 0 = true := by
  have hb : 0 ≤ mdAt ms k ∧ mdAt ms k ≤ g.w.soft + 1 := by
    unfold mdAt
    cases h : ms[k]? with
    | none => simp only [Option.getD_none]; omega
    | some m => simp only [Option.getD_some]; exact hm m (List.mem_of_getElem? h)
  by_cases hf : mdAt ms k = g.w.soft + 1
  · rw [hf]
    exact led_full g hs hp ms hm k (k + 1) 0 hok (Int.le_refl _) (.inl ⟨by omega, by rw [stAt_md]; exact hf⟩)
  · exact led_low g hs ms k (k + 1) _ 0 hok (by omega) (by omega) (stAt_md g ms k)
end
section
open Go
open Go.ChangeShapes Go.WideShapes Go.ChangeAt Go.RowKit

variable {HH : Type} (enc : TypeId × Value → HH) (P : Program) (W : World)

variable {enc P W}
theorem allH_emb (W : World) : Emb (allH W) W := by
  refine ⟨?_, fun e he => ?_⟩
  · have : (allH W).map Prod.fst = List.range W.heap.size := by
      unfold allH
      rw [List.map_map]
      have : (Prod.fst ∘ fun p : Obj × Nat => (p.2, p.1)) = Prod.snd := rfl
      rw [this, List.zipIdx_map_snd, List.range_eq_range']
      simp
    rw [this]; exact List.nodup_range
  · exact allH_mem.1 he

/-- A contract at all blocks, in the library's form. -/
theorem calls_of {P : Program} {k : FuncId} {args : Array Value} {W : World} {v : Value} (h : VCall P k args (allH W) (fun o H' => o = .val v ∧ ∃ B, H' = B ++ allH W)) :
    Calls P k args W (fun e w' => e = .returned v ∧ Below W.heap.size W w') := by
  intro cs
  obtain ⟨o, w', m', H', ⟨rfl, B, rfl⟩, hF, hs, _, fr', rfl, h1, h2⟩ := h W cs (allH_emb W)
  refine ⟨.returned v, w', fr', ⟨rfl, hF.os, hF.tape, hF.output, hF.size, fun i hi => ?_⟩, hs, h1, h2⟩
  have hg : W.heap[i]? = some W.heap[i] := Array.getElem?_eq_getElem hi
  rw [hg]
  exact hF.emb.at_ (i, W.heap[i]) (List.mem_append_right _ (allH_mem.2 hg))

end
section
open Go
instance tFn22 : TFn Tryd.prog 22 := mkTFn Tryd.func22 (by kernel_rfl) rfl
end
end Go.Proofs.YtaplkoimhecacaaDoor
namespace Go.Proofs.YtaplkoimhecacaaDoor
open Go
set_option maxRecDepth 100000

attribute [local irreducible] tightP hullP rootP farP rows endsOf
theorem led_go {w : Wn} {ms : List Int} {k i z : Int} (hz : ms[i.toNat]? = some z) (hi : 0 ≤ i) (hk : 0 ≤ k) (want silent : Int) : ledN w ms k.toNat (i + 1).toNat want silent =
    if z = 0 ∧ want = w.soft + 1 ∧ silent < w.pause ∧ i < k then ledN w ms k.toNat i.toNat want (silent + 1)
    else if z = w.soft + 1 ∧ want = w.soft + 1 then ledN w ms k.toNat i.toNat want 0
    else if z = w.soft ∧ want = w.soft + 1 ∧ silent = 0 then (if w.soft = 1 then true else ledN w ms k.toNat i.toNat (w.soft - 1) silent)
    else if z = want ∧ want ≤ w.soft then (if want = 1 then true else ledN w ms k.toNat i.toNat (want - 1) silent)
    else false := by
  rw [show (i + 1).toNat = i.toNat + 1 by omega]
  simp only [ledN, mdAt_of hz]
  have e : (i.toNat < k.toNat) ↔ (i < k) := by omega
  simp only [e]
theorem oBl {a b : Bool} (h : a = b) : Out.val (.bool a) = Out.val (.bool b) := by rw [h]

section
variable {P : Program} {f : FuncId} {ro : Option Nat} {N : Nat} {k k' : List Item} {E E' : Env} {D : List Deferred} {H H' : Heap} {Q : Out → Heap → Prop}
/-- Where ways through a text meet again. -/
theorem vjoin {C : Prop} (h2 : (C → VRun P f ro N k' E' D H' Q) → VRun P f ro N k E D H Q) (h1 : C → VRun P f ro N k' E' D H' Q) : VRun P f ro N k E D H Q := h2 h1
end
/-- What the search backwards keeps. -/
structure LdI (w : Wn) (ms : List Int) (k zk : Int) (i want silent : Int) : Prop where
  ib : -1 ≤ i ∧ i ≤ k
  wtb : -1 ≤ want ∧ want ≤ w.soft + 1
  slb : 0 ≤ silent ∧ silent ≤ w.pause
  eb : ledN w ms k.toNat (i + 1).toNat want silent = ledN w ms k.toNat (k.toNat + 1) zk 0
theorem LdI.step {w : Wn} {ms : List Int} {k zk i want silent want' silent' : Int} (h : LdI w ms k zk i want silent) (hi : 0 ≤ i) (hw : -1 ≤ want' ∧ want' ≤ w.soft + 1) (hs : 0 ≤ silent' ∧ silent' ≤ w.pause) (he : ledN w ms k.toNat (i + 1).toNat want silent = ledN w ms k.toNat i.toNat want' silent') : LdI w ms k zk (i - 1) want' silent' :=
  ⟨by have := h.ib; omega, hw, hs, by rw [show i - 1 + 1 = i by omega]; exact he.symm.trans h.eb⟩
theorem ltn {a b : Int} (h : a.toNat < b.toNat := by omega) : a.toNat < b.toNat := h

set_option maxHeartbeats 1000000 in
/-- paravane/paravanelaw06.led -/
theorem c_led (w : Wn) (hw : okW w) (ms : List Int) (oa : Option Addr) (c : Nat) (H : Heap) [hms : SlO H oa 1 encI ms] (hmn : ms.length ≤ 9223372036854775807) (hm : ∀ m ∈ ms, 0 ≤ m ∧ m ≤ w.soft + 1) (k : Int) (hk : 0 ≤ k ∧ k < ms.length) : VHas Tryd.prog 22 [vWn w, .slice oa ms.length c, I k] (.bool (ledN w ms k.toNat (k.toNat + 1) (mdAt ms k.toNat) 0)) (H) (H) := by
  have hw' := hw
  unfold okW at hw'
  obtain ⟨zk, hzk⟩ := get_of_lt ms (i := k.toNat) (by omega)
  have hzkm := hm zk (List.mem_of_getElem? hzk)
  rw [mdAt_of hzk]
  refine vcall_of_vrun Tryd.func22 rfl (N := 103) rfl rfl ?_
  refine vseq ?_
  refine vregion ?_
  refine vone rfl (vxa (vbox rfl rfl) rfl rfl (fun b1 => ?_))
  refine vone rfl (vxq (vas rfl) rfl rfl ?_)
  refine vnil ?_
  refine vseq ?_
  refine vregion ?_
  refine vone rfl (vxq (vas rfl) rfl rfl ?_)
  refine vnil ?_
  refine vseq ?_
  refine vregion ?_
  refine vone rfl (vxq (vmv rfl) rfl rfl ?_)
  refine vone rfl (vxq (vmv rfl) rfl rfl ?_)
  refine vone rfl (vxq (visg (enc := encI) rfl rfl (by omega) hzk) rfl rfl ?_)
  refine vone rfl (vxq (vldS1 (enc := encI) rfl hzk rfl) rfl rfl ?_)
  refine vone rfl (vxq (vas rfl) rfl rfl ?_)
  refine vnil ?_
  refine vseq ?_
  refine vseq ?_
  refine vregion ?_
  refine vone rfl (vxq (vmv rfl) rfl rfl ?_)
  refine vone rfl (vxq (vas rfl) rfl rfl ?_)
  refine vnil ?_
  refine vblock ?_
  refine vwhile (σ := Int × Int × Int) (fun ⟨i, want, silent⟩ => (i + 1).toNat) (fun ⟨i, want, silent⟩ => [(1, .slice oa ms.length c), (2, I k), (3, ptr b1), (7, I silent), (8, I want), (9, I i)]) (fun ⟨i, want, silent⟩ => (b1, blk (clWn w) 23) :: H) (fun ⟨i, want, silent⟩ => LdI w ms k zk i want silent) (k, zk, 0) ⟨by omega, by omega, by omega, by rw [show (k + 1).toNat = k.toNat + 1 by omega]⟩ ⟨rfl, rfl, rfl, rfl, rfl, rfl, True.intro⟩ sb ?_
  rintro ⟨i, want, silent⟩ hI IH
  change VRun _ _ _ _ _ [(1, .slice oa ms.length c), (2, I k), (3, ptr b1), (7, I silent), (8, I want), (9, I i)] _ ((b1, blk (clWn w) 23) :: H) _
  obtain ⟨hi, hwt, hsl, hled⟩ := id hI
  refine vseq ?_
  refine vseq ?_
  refine vregion ?_
  refine vone rfl (vxq (vmv rfl) rfl rfl ?_)
  refine vone rfl (vxq (vgeq rfl rfl) rfl rfl ?_)
  refine vnil ?_
  refine vcondd rfl (fun h16 => ?_) (fun h16 => ?_)
  · skip
    obtain ⟨z, hz⟩ := get_of_lt ms (i := i.toNat) (by omega)
    have hzm := hm z (List.mem_of_getElem? hz)
    have hgo := led_go (w := w) (k := k) hz (by omega) hk.1 want silent
    refine vskip ?_
    refine vseq ?_
    refine vblock ?_
    refine vblock ?_
    refine vseq ?_
    apply vjoin (C := ¬ (z = 0 ∧ want = w.soft + 1 ∧ silent < w.pause ∧ i < k)) (E' := [(1, .slice oa ms.length c), (2, I k), (3, ptr b1), (7, I silent), (8, I want), (9, I i)]) (H' := (b1, blk (clWn w) 23) :: H)
    · intro hJ19
      refine vregion ?_
      refine vone rfl (vxq (vmv rfl) rfl rfl ?_)
      refine vone rfl (vxq (vmv rfl) rfl rfl ?_)
      refine vone rfl (vxq (visg (enc := encI) rfl rfl (by omega) hz) rfl rfl ?_)
      refine vone rfl (vxq (vldS1 (enc := encI) rfl hz rfl) rfl rfl ?_)
      refine vone rfl (vxq (veql rfl rfl) rfl rfl ?_)
      refine vone rfl (vxq (vmv rfl) rfl rfl ?_)
      refine vsplitd (d := 25) rfl (fun h25 => ?_) (fun h25 => ?_)
      · skip
        refine vyes rfl rfl rfl (vxq (vmv rfl) rfl rfl ?_)
        refine vyes rfl rfl rfl (vxq (vfa rfl) rfl rfl ?_)
        refine vyes rfl rfl rfl (vxq (vld1 rfl rfl) rfl rfl ?_)
        refine vyes rfl rfl rfl (vxq (vadd rfl rfl (by unfold InR; omega)) rfl rfl ?_)
        refine vyes rfl rfl rfl (vxq (veql rfl rfl) rfl rfl ?_)
        refine vone rfl (vxq (vpkt rfl rfl) rfl rfl ?_)
        refine vone rfl (vxq (vmv rfl) rfl rfl ?_)
        refine vsplitd (d := 32) rfl (fun h32 => ?_) (fun h32 => ?_)
        · skip
          refine vyes rfl rfl rfl (vxq (vmv rfl) rfl rfl ?_)
          refine vyes rfl rfl rfl (vxq (vfa rfl) rfl rfl ?_)
          refine vyes rfl rfl rfl (vxq (vld1 rfl rfl) rfl rfl ?_)
          refine vyes rfl rfl rfl (vxq (vlss rfl rfl) rfl rfl ?_)
          refine vone rfl (vxq (vpkt rfl rfl) rfl rfl ?_)
          refine vone rfl (vxq (vmv rfl) rfl rfl ?_)
          refine vsplitd (d := 38) rfl (fun h38 => ?_) (fun h38 => ?_)
          · skip
            refine vyes rfl rfl rfl (vxq (vmv rfl) rfl rfl ?_)
            refine vyes rfl rfl rfl (vxq (vmv rfl) rfl rfl ?_)
            refine vyes rfl rfl rfl (vxq (vlss rfl rfl) rfl rfl ?_)
            refine vone rfl (vxq (vpkt rfl rfl) rfl rfl ?_)
            refine vone rfl (vxq (vas rfl) rfl rfl ?_)
            refine vnil ?_
            refine vcondd rfl (fun h19 => ?_) (fun h19 => ?_)
            · skip
              refine vregion ?_
              refine vone rfl (vxq (vmv rfl) rfl rfl ?_)
              refine vone rfl (vxq (vadd rfl rfl (by unfold InR; omega)) rfl rfl ?_)
              refine vone rfl (vxq (vas rfl) rfl rfl ?_)
              refine vnil ?_
              refine vinblock ?_
              refine vinblock ?_
              refine vregion ?_
              refine vone rfl (vxq (vmv rfl) rfl rfl ?_)
              refine vone rfl (vxq (vsub rfl rfl (by unfold InR; omega)) rfl rfl ?_)
              refine vone rfl (vxq (vas rfl) rfl rfl ?_)
              refine vnil ?_
              first
                | (rw [if_pos (by omega)] at hgo; exact vback (IH (i - 1, want, silent + 1) (hI.step (by omega) (by omega) (by omega) hgo) ltn) ⟨rfl, rfl, rfl, rfl, rfl, rfl, True.intro⟩ sb)
                | (rw [if_neg (by omega), if_pos (by omega)] at hgo; exact vback (IH (i - 1, want, 0) (hI.step (by omega) (by omega) (by omega) hgo) ltn) ⟨rfl, rfl, rfl, rfl, rfl, rfl, True.intro⟩ sb)
                | (rw [if_neg (by omega), if_neg (by omega), if_pos (by omega), if_neg (by omega)] at hgo; exact vback (IH (i - 1, w.soft - 1, silent) (hI.step (by omega) (by omega) (by omega) hgo) ltn) ⟨rfl, rfl, rfl, rfl, rfl, rfl, True.intro⟩ sb)
                | (rw [if_neg (by omega), if_neg (by omega), if_neg (by omega), if_pos (by omega), if_neg (by omega)] at hgo; exact vback (IH (i - 1, want - 1, silent) (hI.step (by omega) (by omega) (by omega) hgo) ltn) ⟨rfl, rfl, rfl, rfl, rfl, rfl, True.intro⟩ sb)
            · skip
              exact vback (hJ19 (by omega)) ⟨rfl, rfl, rfl, rfl, rfl, rfl, True.intro⟩ sb
          · skip
            refine vno rfl rfl rfl rfl rfl ?_
            refine vno rfl rfl rfl rfl rfl ?_
            refine vno rfl rfl rfl rfl rfl ?_
            refine vone rfl (vxq (vpkf rfl rfl) rfl rfl ?_)
            refine vone rfl (vxq (vas rfl) rfl rfl ?_)
            refine vnil ?_
            refine vcondf rfl ?_
            exact vback (hJ19 (by omega)) ⟨rfl, rfl, rfl, rfl, rfl, rfl, True.intro⟩ sb
        · skip
          refine vno rfl rfl rfl rfl rfl ?_
          refine vno rfl rfl rfl rfl rfl ?_
          refine vno rfl rfl rfl rfl rfl ?_
          refine vno rfl rfl rfl rfl rfl ?_
          refine vone rfl (vxq (vpkf rfl rfl) rfl rfl ?_)
          refine vone rfl (vxq (vmv rfl) rfl rfl ?_)
          refine vno rfl rfl rfl rfl rfl ?_
          refine vno rfl rfl rfl rfl rfl ?_
          refine vno rfl rfl rfl rfl rfl ?_
          refine vone rfl (vxq (vpkf rfl rfl) rfl rfl ?_)
          refine vone rfl (vxq (vas rfl) rfl rfl ?_)
          refine vnil ?_
          refine vcondf rfl ?_
          exact vback (hJ19 (by omega)) ⟨rfl, rfl, rfl, rfl, rfl, rfl, True.intro⟩ sb
      · skip
        refine vno rfl rfl rfl rfl rfl ?_
        refine vno rfl rfl rfl rfl rfl ?_
        refine vno rfl rfl rfl rfl rfl ?_
        refine vno rfl rfl rfl rfl rfl ?_
        refine vno rfl rfl rfl rfl rfl ?_
        refine vone rfl (vxq (vpkf rfl rfl) rfl rfl ?_)
        refine vone rfl (vxq (vmv rfl) rfl rfl ?_)
        refine vno rfl rfl rfl rfl rfl ?_
        refine vno rfl rfl rfl rfl rfl ?_
        refine vno rfl rfl rfl rfl rfl ?_
        refine vno rfl rfl rfl rfl rfl ?_
        refine vone rfl (vxq (vpkf rfl rfl) rfl rfl ?_)
        refine vone rfl (vxq (vmv rfl) rfl rfl ?_)
        refine vno rfl rfl rfl rfl rfl ?_
        refine vno rfl rfl rfl rfl rfl ?_
        refine vno rfl rfl rfl rfl rfl ?_
        refine vone rfl (vxq (vpkf rfl rfl) rfl rfl ?_)
        refine vone rfl (vxq (vas rfl) rfl rfl ?_)
        refine vnil ?_
        refine vcondf rfl ?_
        exact vback (hJ19 (by omega)) ⟨rfl, rfl, rfl, rfl, rfl, rfl, True.intro⟩ sb
    · intro hC19
      refine vseq ?_
      apply vjoin (C := ¬ (z = w.soft + 1 ∧ want = w.soft + 1)) (E' := [(1, .slice oa ms.length c), (2, I k), (3, ptr b1), (7, I silent), (8, I want), (9, I i)]) (H' := (b1, blk (clWn w) 23) :: H)
      · intro hJ45
        refine vdraw0 [(.q, 0), (.q, 1), (.q, 2), (.q, 3), (.q, 4), (.q, 5), (.q, 6), (.q, 7), (.q, 8), (.q, 9), (.q, 10), (.q, 11), (.q, 12), (.q, 13), (.q, 14), (.q, 15)] Tryd.mixed (by kernel_rfl) (by kernel_rfl) ?_
        refine vdq (mone rfl) (vmv rfl) rfl rfl ?_
        refine vdq (mone rfl) (vmv rfl) rfl rfl ?_
        refine vdq (mone rfl) (visg (enc := encI) rfl rfl (by omega) hz) rfl rfl ?_
        refine vdq (mone rfl) (vldS1 (enc := encI) rfl hz rfl) rfl rfl ?_
        refine vdq (mone rfl) (vfa rfl) rfl rfl ?_
        refine vdq (mone rfl) (vld1 rfl rfl) rfl rfl ?_
        refine vdq (mone rfl) (vadd rfl rfl (by unfold InR; omega)) rfl rfl ?_
        refine vdq (mone rfl) (veql rfl rfl) rfl rfl ?_
        refine vdq (mone rfl) (vmv rfl) rfl rfl ?_
        refine vdsplitd (d := 54) rfl (fun h54 => ?_) (fun h54 => ?_)
        · skip
          refine vdq (myes rfl rfl rfl) (vmv rfl) rfl rfl ?_
          refine vdq (myes rfl rfl rfl) (vfa rfl) rfl rfl ?_
          refine vdq (myes rfl rfl rfl) (vld1 rfl rfl) rfl rfl ?_
          refine vdq (myes rfl rfl rfl) (vadd rfl rfl (by unfold InR; omega)) rfl rfl ?_
          refine vdq (myes rfl rfl rfl) (veql rfl rfl) rfl rfl ?_
          refine vdq (mone rfl) (vpkt rfl rfl) rfl rfl ?_
          refine vdq (mone rfl) (vas rfl) rfl rfl ?_
          refine vdend rfl ?_
          refine vcondd rfl (fun h45 => ?_) (fun h45 => ?_)
          · skip
            refine vregion ?_
            refine vone rfl (vxq (vas rfl) rfl rfl ?_)
            refine vnil ?_
            refine vinblock ?_
            refine vinblock ?_
            refine vregion ?_
            refine vone rfl (vxq (vmv rfl) rfl rfl ?_)
            refine vone rfl (vxq (vsub rfl rfl (by unfold InR; omega)) rfl rfl ?_)
            refine vone rfl (vxq (vas rfl) rfl rfl ?_)
            refine vnil ?_
            first
              | (rw [if_pos (by omega)] at hgo; exact vback (IH (i - 1, want, silent + 1) (hI.step (by omega) (by omega) (by omega) hgo) ltn) ⟨rfl, rfl, rfl, rfl, rfl, rfl, True.intro⟩ sb)
              | (rw [if_neg (by omega), if_pos (by omega)] at hgo; exact vback (IH (i - 1, want, 0) (hI.step (by omega) (by omega) (by omega) hgo) ltn) ⟨rfl, rfl, rfl, rfl, rfl, rfl, True.intro⟩ sb)
              | (rw [if_neg (by omega), if_neg (by omega), if_pos (by omega), if_neg (by omega)] at hgo; exact vback (IH (i - 1, w.soft - 1, silent) (hI.step (by omega) (by omega) (by omega) hgo) ltn) ⟨rfl, rfl, rfl, rfl, rfl, rfl, True.intro⟩ sb)
              | (rw [if_neg (by omega), if_neg (by omega), if_neg (by omega), if_pos (by omega), if_neg (by omega)] at hgo; exact vback (IH (i - 1, want - 1, silent) (hI.step (by omega) (by omega) (by omega) hgo) ltn) ⟨rfl, rfl, rfl, rfl, rfl, rfl, True.intro⟩ sb)
          · skip
            exact vback (hJ45 (by omega)) ⟨rfl, rfl, rfl, rfl, rfl, rfl, True.intro⟩ sb
        · skip
          refine vdno rfl rfl rfl rfl rfl ?_
          refine vdno rfl rfl rfl rfl rfl ?_
          refine vdno rfl rfl rfl rfl rfl ?_
          refine vdno rfl rfl rfl rfl rfl ?_
          refine vdno rfl rfl rfl rfl rfl ?_
          refine vdq (mone rfl) (vpkf rfl rfl) rfl rfl ?_
          refine vdq (mone rfl) (vas rfl) rfl rfl ?_
          refine vdend rfl ?_
          refine vcondf rfl ?_
          exact vback (hJ45 (by omega)) ⟨rfl, rfl, rfl, rfl, rfl, rfl, True.intro⟩ sb
      · intro hC45
        refine vseq ?_
        apply vjoin (C := ¬ (z = w.soft ∧ want = w.soft + 1 ∧ silent = 0)) (E' := [(1, .slice oa ms.length c), (2, I k), (3, ptr b1), (7, I silent), (8, I want), (9, I i)]) (H' := (b1, blk (clWn w) 23) :: H)
        · intro hJ61
          refine vdraw0 [(.q, 0), (.q, 1), (.q, 2), (.q, 3), (.q, 4), (.q, 5), (.q, 6), (.q, 7), (.q, 8), (.q, 9), (.q, 10), (.q, 11), (.q, 12), (.q, 13), (.q, 14), (.q, 15), (.q, 16), (.q, 17), (.q, 18)] Tryd.mixed (by kernel_rfl) (by kernel_rfl) ?_
          refine vdq (mone rfl) (vmv rfl) rfl rfl ?_
          refine vdq (mone rfl) (vmv rfl) rfl rfl ?_
          refine vdq (mone rfl) (visg (enc := encI) rfl rfl (by omega) hz) rfl rfl ?_
          refine vdq (mone rfl) (vldS1 (enc := encI) rfl hz rfl) rfl rfl ?_
          refine vdq (mone rfl) (vfa rfl) rfl rfl ?_
          refine vdq (mone rfl) (vld1 rfl rfl) rfl rfl ?_
          refine vdq (mone rfl) (veql rfl rfl) rfl rfl ?_
          refine vdq (mone rfl) (vmv rfl) rfl rfl ?_
          refine vdsplitd (d := 69) rfl (fun h69 => ?_) (fun h69 => ?_)
          · skip
            refine vdq (myes rfl rfl rfl) (vmv rfl) rfl rfl ?_
            refine vdq (myes rfl rfl rfl) (vfa rfl) rfl rfl ?_
            refine vdq (myes rfl rfl rfl) (vld1 rfl rfl) rfl rfl ?_
            refine vdq (myes rfl rfl rfl) (vadd rfl rfl (by unfold InR; omega)) rfl rfl ?_
            refine vdq (myes rfl rfl rfl) (veql rfl rfl) rfl rfl ?_
            refine vdq (mone rfl) (vpkt rfl rfl) rfl rfl ?_
            refine vdq (mone rfl) (vmv rfl) rfl rfl ?_
            refine vdsplitd (d := 76) rfl (fun h76 => ?_) (fun h76 => ?_)
            · skip
              refine vdq (myes rfl rfl rfl) (vmv rfl) rfl rfl ?_
              refine vdq (myes rfl rfl rfl) (veql rfl rfl) rfl rfl ?_
              refine vdq (mone rfl) (vpkt rfl rfl) rfl rfl ?_
              refine vdq (mone rfl) (vas rfl) rfl rfl ?_
              refine vdend rfl ?_
              refine vcondd rfl (fun h61 => ?_) (fun h61 => ?_)
              · skip
                refine vseq ?_
                refine vregion ?_
                refine vone rfl (vxq (vfa rfl) rfl rfl ?_)
                refine vone rfl (vxq (vld1 rfl rfl) rfl rfl ?_)
                refine vone rfl (vxq (vas rfl) rfl rfl ?_)
                refine vnil ?_
                refine vseq ?_
                refine vseq ?_
                refine vregion ?_
                refine vone rfl (vxq (vmv rfl) rfl rfl ?_)
                refine vone rfl (vxq (veql rfl rfl) rfl rfl ?_)
                refine vnil ?_
                refine vcondd rfl (fun h83 => ?_) (fun h83 => ?_)
                · skip
                  refine vseq ?_
                  refine vregion ?_
                  refine vone rfl (vxq (vas rfl) rfl rfl ?_)
                  refine vnil ?_
                  refine vret (vr1 (H' := H) Tryd.func22 rfl (.tmp rfl) sb ?_)
                  first | (rw [if_neg (by omega), if_neg (by omega), if_pos (by omega), if_pos (by omega)] at hgo; exact ⟨oBl (hgo.symm.trans hled), rfl⟩) | (rw [if_neg (by omega), if_neg (by omega), if_neg (by omega), if_pos (by omega), if_pos (by omega)] at hgo; exact ⟨oBl (hgo.symm.trans hled), rfl⟩) | (rw [if_neg (by omega), if_neg (by omega), if_neg (by omega), if_neg (by omega)] at hgo; exact ⟨oBl (hgo.symm.trans hled), rfl⟩) | (rw [show (i + 1).toNat = 0 by omega] at hled; exact ⟨oBl hled, rfl⟩)
                · skip
                  refine vskip ?_
                  refine vregion ?_
                  refine vone rfl (vxq (vmv rfl) rfl rfl ?_)
                  refine vone rfl (vxq (vsub rfl rfl (by unfold InR; omega)) rfl rfl ?_)
                  refine vone rfl (vxq (vas rfl) rfl rfl ?_)
                  refine vnil ?_
                  refine vinblock ?_
                  refine vinblock ?_
                  refine vregion ?_
                  refine vone rfl (vxq (vmv rfl) rfl rfl ?_)
                  refine vone rfl (vxq (vsub rfl rfl (by unfold InR; omega)) rfl rfl ?_)
                  refine vone rfl (vxq (vas rfl) rfl rfl ?_)
                  refine vnil ?_
                  first
                    | (rw [if_pos (by omega)] at hgo; exact vback (IH (i - 1, want, silent + 1) (hI.step (by omega) (by omega) (by omega) hgo) ltn) ⟨rfl, rfl, rfl, rfl, rfl, rfl, True.intro⟩ sb)
                    | (rw [if_neg (by omega), if_pos (by omega)] at hgo; exact vback (IH (i - 1, want, 0) (hI.step (by omega) (by omega) (by omega) hgo) ltn) ⟨rfl, rfl, rfl, rfl, rfl, rfl, True.intro⟩ sb)
                    | (rw [if_neg (by omega), if_neg (by omega), if_pos (by omega), if_neg (by omega)] at hgo; exact vback (IH (i - 1, w.soft - 1, silent) (hI.step (by omega) (by omega) (by omega) hgo) ltn) ⟨rfl, rfl, rfl, rfl, rfl, rfl, True.intro⟩ sb)
                    | (rw [if_neg (by omega), if_neg (by omega), if_neg (by omega), if_pos (by omega), if_neg (by omega)] at hgo; exact vback (IH (i - 1, want - 1, silent) (hI.step (by omega) (by omega) (by omega) hgo) ltn) ⟨rfl, rfl, rfl, rfl, rfl, rfl, True.intro⟩ sb)
              · skip
                exact vback (hJ61 (by omega)) ⟨rfl, rfl, rfl, rfl, rfl, rfl, True.intro⟩ sb
            · skip
              refine vdno rfl rfl rfl rfl rfl ?_
              refine vdno rfl rfl rfl rfl rfl ?_
              refine vdq (mone rfl) (vpkf rfl rfl) rfl rfl ?_
              refine vdq (mone rfl) (vas rfl) rfl rfl ?_
              refine vdend rfl ?_
              refine vcondf rfl ?_
              exact vback (hJ61 (by omega)) ⟨rfl, rfl, rfl, rfl, rfl, rfl, True.intro⟩ sb
          · skip
            refine vdno rfl rfl rfl rfl rfl ?_
            refine vdno rfl rfl rfl rfl rfl ?_
            refine vdno rfl rfl rfl rfl rfl ?_
            refine vdno rfl rfl rfl rfl rfl ?_
            refine vdno rfl rfl rfl rfl rfl ?_
            refine vdq (mone rfl) (vpkf rfl rfl) rfl rfl ?_
            refine vdq (mone rfl) (vmv rfl) rfl rfl ?_
            refine vdno rfl rfl rfl rfl rfl ?_
            refine vdno rfl rfl rfl rfl rfl ?_
            refine vdq (mone rfl) (vpkf rfl rfl) rfl rfl ?_
            refine vdq (mone rfl) (vas rfl) rfl rfl ?_
            refine vdend rfl ?_
            refine vcondf rfl ?_
            exact vback (hJ61 (by omega)) ⟨rfl, rfl, rfl, rfl, rfl, rfl, True.intro⟩ sb
        · intro hC61
          refine vseq ?_
          refine vregion ?_
          refine vone rfl (vxq (vmv rfl) rfl rfl ?_)
          refine vone rfl (vxq (vmv rfl) rfl rfl ?_)
          refine vone rfl (vxq (visg (enc := encI) rfl rfl (by omega) hz) rfl rfl ?_)
          refine vone rfl (vxq (vldS1 (enc := encI) rfl hz rfl) rfl rfl ?_)
          refine vone rfl (vxq (vmv rfl) rfl rfl ?_)
          refine vone rfl (vxq (veql rfl rfl) rfl rfl ?_)
          refine vone rfl (vxq (vmv rfl) rfl rfl ?_)
          refine vsplitd (d := 93) rfl (fun h93 => ?_) (fun h93 => ?_)
          · skip
            refine vyes rfl rfl rfl (vxq (vmv rfl) rfl rfl ?_)
            refine vyes rfl rfl rfl (vxq (vfa rfl) rfl rfl ?_)
            refine vyes rfl rfl rfl (vxq (vld1 rfl rfl) rfl rfl ?_)
            refine vyes rfl rfl rfl (vxq (vleq rfl rfl) rfl rfl ?_)
            refine vone rfl (vxq (vpkt rfl rfl) rfl rfl ?_)
            refine vone rfl (vxq (vas rfl) rfl rfl ?_)
            refine vnil ?_
            refine vcondd rfl (fun h86 => ?_) (fun h86 => ?_)
            · skip
              refine vseq ?_
              refine vseq ?_
              refine vregion ?_
              refine vone rfl (vxq (vmv rfl) rfl rfl ?_)
              refine vone rfl (vxq (veql rfl rfl) rfl rfl ?_)
              refine vnil ?_
              refine vcondd rfl (fun h100 => ?_) (fun h100 => ?_)
              · skip
                refine vseq ?_
                refine vregion ?_
                refine vone rfl (vxq (vas rfl) rfl rfl ?_)
                refine vnil ?_
                refine vret (vr1 (H' := H) Tryd.func22 rfl (.tmp rfl) sb ?_)
                first | (rw [if_neg (by omega), if_neg (by omega), if_pos (by omega), if_pos (by omega)] at hgo; exact ⟨oBl (hgo.symm.trans hled), rfl⟩) | (rw [if_neg (by omega), if_neg (by omega), if_neg (by omega), if_pos (by omega), if_pos (by omega)] at hgo; exact ⟨oBl (hgo.symm.trans hled), rfl⟩) | (rw [if_neg (by omega), if_neg (by omega), if_neg (by omega), if_neg (by omega)] at hgo; exact ⟨oBl (hgo.symm.trans hled), rfl⟩) | (rw [show (i + 1).toNat = 0 by omega] at hled; exact ⟨oBl hled, rfl⟩)
              · skip
                refine vskip ?_
                refine vregion ?_
                refine vone rfl (vxq (vmv rfl) rfl rfl ?_)
                refine vone rfl (vxq (vsub rfl rfl (by unfold InR; omega)) rfl rfl ?_)
                refine vone rfl (vxq (vas rfl) rfl rfl ?_)
                refine vnil ?_
                refine vinblock ?_
                refine vinblock ?_
                refine vregion ?_
                refine vone rfl (vxq (vmv rfl) rfl rfl ?_)
                refine vone rfl (vxq (vsub rfl rfl (by unfold InR; omega)) rfl rfl ?_)
                refine vone rfl (vxq (vas rfl) rfl rfl ?_)
                refine vnil ?_
                first
                  | (rw [if_pos (by omega)] at hgo; exact vback (IH (i - 1, want, silent + 1) (hI.step (by omega) (by omega) (by omega) hgo) ltn) ⟨rfl, rfl, rfl, rfl, rfl, rfl, True.intro⟩ sb)
                  | (rw [if_neg (by omega), if_pos (by omega)] at hgo; exact vback (IH (i - 1, want, 0) (hI.step (by omega) (by omega) (by omega) hgo) ltn) ⟨rfl, rfl, rfl, rfl, rfl, rfl, True.intro⟩ sb)
                  | (rw [if_neg (by omega), if_neg (by omega), if_pos (by omega), if_neg (by omega)] at hgo; exact vback (IH (i - 1, w.soft - 1, silent) (hI.step (by omega) (by omega) (by omega) hgo) ltn) ⟨rfl, rfl, rfl, rfl, rfl, rfl, True.intro⟩ sb)
                  | (rw [if_neg (by omega), if_neg (by omega), if_neg (by omega), if_pos (by omega), if_neg (by omega)] at hgo; exact vback (IH (i - 1, want - 1, silent) (hI.step (by omega) (by omega) (by omega) hgo) ltn) ⟨rfl, rfl, rfl, rfl, rfl, rfl, True.intro⟩ sb)
            · skip
              refine vseq ?_
              refine vregion ?_
              refine vone rfl (vxq (vas rfl) rfl rfl ?_)
              refine vnil ?_
              refine vret (vr1 (H' := H) Tryd.func22 rfl (.tmp rfl) sb ?_)
              first | (rw [if_neg (by omega), if_neg (by omega), if_pos (by omega), if_pos (by omega)] at hgo; exact ⟨oBl (hgo.symm.trans hled), rfl⟩) | (rw [if_neg (by omega), if_neg (by omega), if_neg (by omega), if_pos (by omega), if_pos (by omega)] at hgo; exact ⟨oBl (hgo.symm.trans hled), rfl⟩) | (rw [if_neg (by omega), if_neg (by omega), if_neg (by omega), if_neg (by omega)] at hgo; exact ⟨oBl (hgo.symm.trans hled), rfl⟩) | (rw [show (i + 1).toNat = 0 by omega] at hled; exact ⟨oBl hled, rfl⟩)
          · skip
            refine vno rfl rfl rfl rfl rfl ?_
            refine vno rfl rfl rfl rfl rfl ?_
            refine vno rfl rfl rfl rfl rfl ?_
            refine vno rfl rfl rfl rfl rfl ?_
            refine vone rfl (vxq (vpkf rfl rfl) rfl rfl ?_)
            refine vone rfl (vxq (vas rfl) rfl rfl ?_)
            refine vnil ?_
            refine vcondf rfl ?_
            refine vseq ?_
            refine vregion ?_
            refine vone rfl (vxq (vas rfl) rfl rfl ?_)
            refine vnil ?_
            refine vret (vr1 (H' := H) Tryd.func22 rfl (.tmp rfl) sb ?_)
            first | (rw [if_neg (by omega), if_neg (by omega), if_pos (by omega), if_pos (by omega)] at hgo; exact ⟨oBl (hgo.symm.trans hled), rfl⟩) | (rw [if_neg (by omega), if_neg (by omega), if_neg (by omega), if_pos (by omega), if_pos (by omega)] at hgo; exact ⟨oBl (hgo.symm.trans hled), rfl⟩) | (rw [if_neg (by omega), if_neg (by omega), if_neg (by omega), if_neg (by omega)] at hgo; exact ⟨oBl (hgo.symm.trans hled), rfl⟩) | (rw [show (i + 1).toNat = 0 by omega] at hled; exact ⟨oBl hled, rfl⟩)
  · skip
    refine vexit (k' := _) rfl ?_
    refine vseq ?_
    refine vregion ?_
    refine vone rfl (vxq (vas rfl) rfl rfl ?_)
    refine vnil ?_
    refine vret (vr1 (H' := H) Tryd.func22 rfl (.tmp rfl) sb ?_)
    first | (rw [if_neg (by omega), if_neg (by omega), if_pos (by omega), if_pos (by omega)] at hgo; exact ⟨oBl (hgo.symm.trans hled), rfl⟩) | (rw [if_neg (by omega), if_neg (by omega), if_neg (by omega), if_pos (by omega), if_pos (by omega)] at hgo; exact ⟨oBl (hgo.symm.trans hled), rfl⟩) | (rw [if_neg (by omega), if_neg (by omega), if_neg (by omega), if_neg (by omega)] at hgo; exact ⟨oBl (hgo.symm.trans hled), rfl⟩) | (rw [show (i + 1).toNat = 0 by omega] at hled; exact ⟨oBl hled, rfl⟩)
end Go.Proofs.YtaplkoimhecacaaDoor
namespace Go.Proofs.YtaplkoimhecacaaDoor
open Go
set_option maxRecDepth 100000

attribute [local irreducible] tightP hullP rootP farP rows endsOf
theorem bne_dec {a b : Prop} [Decidable a] [Decidable b] (h : a ↔ b) : (decide a != decide b) = false := by
  by_cases ha : a
  · rw [decide_eq_true ha, decide_eq_true (h.1 ha)]; rfl
  · rw [decide_eq_false ha, decide_eq_false (fun hb => ha (h.2 hb))]; rfl
theorem starts_e0 {w : Wn} {s : Sc} (h : (dangerE w s).2 = 0) : (startsE w s).2 = 0 ∧ (startsE w s).1 = startL (gOf w s) s.ship.length := by
  rw [starts_y (fun e => e h)]; exact ⟨rfl, rfl⟩
theorem judged_at {w : Wn} {s : Sc} {ms : List Int} {T : Nat} (hJ : Judged w s ms T) {k : Nat} (hk : k < T) : ∃ z zd ze zr zb, ms[k]? = some z ∧ (dangerE w s).1[k]? = some zd ∧ s.eyes[k]? = some ze ∧ s.ears[k]? = some zr ∧ (startsE w s).1[k]? = some zb ∧
    (z ≠ 0 → zd = false ∧ (ze || zr) = true ∧ (z = 1 → zb = true) ∧ ledN w ms k (k + 1) (mdAt ms k) 0 = true) := by
  have h1 := hJ.le
  have h2 := hJ.len
  have h3 := hJ.dlen
  have h4 := hJ.s0.2.2.1
  have h5 := hJ.s0.2.2.2.1
  obtain ⟨z, hz⟩ := get_of_lt ms (i := k) (by omega)
  obtain ⟨zd, hzd⟩ := get_of_lt (dangerE w s).1 (i := k) (by omega)
  obtain ⟨ze, hze⟩ := get_of_lt s.eyes (i := k) (by omega)
  obtain ⟨zr, hzr⟩ := get_of_lt s.ears (i := k) (by omega)
  have hs : (startsE w s).1[k]? = some (startP (gOf w s) k) := by
    rw [(starts_e0 hJ.d0).2]; unfold startL
    simp [List.getElem?_map, List.getElem?_range (show k < s.ship.length by omega)]
  refine ⟨z, zd, ze, zr, _, hz, hzd, hze, hzr, hs, fun h0 => ?_⟩
  obtain ⟨q1, q2, q3⟩ := okUp_at hJ.up hk hz h0
  have hw := hJ.w0
  unfold okW at hw
  refine ⟨?_, ?_, q3, ?_⟩
  · unfold bAt gOf at q1; rw [Int.toNat_natCast, hzd] at q1; exact q1
  · unfold lookB bAt gOf at q2; rw [Int.toNat_natCast, hze, hzr] at q2; exact q2
  · exact led_true (gOf w s) (by show 1 ≤ w.soft; omega) (by show 0 ≤ w.pause; omega) ms hJ.md k (fun t ht => hJ.up t (by omega)) (by rw [mdAt_of hz]; exact h0)
set_option maxHeartbeats 1000000 in
/-- paravane/paravanelaw06.WatchSafe -/
theorem w_Safe (w : Wn) (h : SH) (s : Sc) (ms : List Int) (oa : Option Addr) (c : Nat) (H : Heap) [hsc : ScO H h s] [hgl : Glob H] [hms : SlO H oa 1 encI ms] (hmn : ms.length ≤ 9223372036854775807) : VHas Tryd.prog 4 [vWn w, vSc h s, .slice oa ms.length c] (.bool true) (H) (H) := by
  refine vcall_of_vrun Tryd.func4 rfl (N := 148) rfl rfl ?_
  refine vseq ?_
  refine vregion ?_
  refine vone rfl (vxa (vbox rfl rfl) rfl rfl (fun b1 => ?_))
  refine vone rfl (vxa (vbox rfl rfl) rfl rfl (fun b2 => ?_))
  refine vone rfl (vxq (vas rfl) rfl rfl ?_)
  refine vnil ?_
  refine vseq ?_
  refine vregion ?_
  refine vone rfl (vxq (vldn rfl rfl) rfl rfl ?_)
  refine vone rfl (vxq (vldn rfl rfl) rfl rfl ?_)
  refine vone rfl (vxq (vmv rfl) rfl rfl ?_)
  refine vone rfl (vxq (vcq rfl rfl rfl (c_Judge w h s _ ms oa c hmn)) rfl rfl ?_)
  refine vone rfl (vxq (vmv rfl) rfl rfl ?_)
  refine vone rfl (vxq (vex rfl rfl) rfl rfl ?_)
  refine vone rfl (vxq (vex rfl rfl) rfl rfl ?_)
  refine vone rfl (vxq (vex rfl rfl) rfl rfl ?_)
  refine vone rfl (vxq (vas rfl) rfl rfl ?_)
  refine vone rfl (vxq (vas rfl) rfl rfl ?_)
  refine vone rfl (vxq (vas rfl) rfl rfl ?_)
  refine vnil ?_
  refine vseq ?_
  refine vseq ?_
  refine vregion ?_
  refine vone rfl (vxq (vmv rfl) rfl rfl ?_)
  refine vone rfl (vxq (vneq rfl rfl) rfl rfl ?_)
  refine vnil ?_
  refine vcondd rfl (fun h24 => ?_) (fun h24 => ?_)
  · skip
    refine vseq ?_
    refine vregion ?_
    refine vone rfl (vxq (vmv rfl) rfl rfl ?_)
    refine vone rfl (vxq (veql rfl rfl) rfl rfl ?_)
    refine vknow (d := 26) (b' := true) rfl (decide_eq_true ((judge_no h24).1)) ?_
    refine vone rfl (vxq (vmv rfl) rfl rfl ?_)
    refine vyes rfl rfl rfl (vxq (vmv rfl) rfl rfl ?_)
    refine vyes rfl rfl rfl (vxq (veql rfl rfl) rfl rfl ?_)
    refine vknow (d := 29) (b' := true) rfl (decide_eq_true ((judge_no h24).2)) ?_
    refine vone rfl (vxq (vpkt rfl rfl) rfl rfl ?_)
    refine vone rfl (vxq (vmv rfl) rfl rfl ?_)
    refine vyes rfl rfl rfl (vxq (vcq rfl rfl rfl (c_works _)) rfl rfl ?_)
    refine vknow (d := 32) (b' := true) rfl rfl ?_
    refine vone rfl (vxq (vpkt rfl rfl) rfl rfl ?_)
    refine vone rfl (vxq (vas rfl) rfl rfl ?_)
    refine vnil ?_
    refine vret (vr1 (H' := H) Tryd.func4 rfl (.tmp rfl) sb2 ?_)
    exact ⟨rfl, rfl⟩
  · skip
    obtain ⟨T, hJ⟩ := judge_yes (Classical.not_not.1 h24)
    have hw := hJ.w0
    have hTe := hJ.e
    have hTl := hJ.le
    refine vskip ?_
    refine vseq ?_
    refine vregion ?_
    refine vone rfl (vxq (vldn rfl rfl) rfl rfl ?_)
    refine vone rfl (vxq (vldn rfl rfl) rfl rfl ?_)
    refine vone rfl (vxg (vcg rfl rfl rfl (d_Danger w h s _) (fun o H' h => h)) rfl rfl ?_)
    rintro _ _ ⟨B1, rfl, ⟨oa1, c1, rfl, hle1, hk1⟩⟩
    refine vone rfl (vxq (vmv rfl) rfl rfl ?_)
    refine vone rfl (vxq (vex rfl rfl) rfl rfl ?_)
    refine vone rfl (vxq (vex rfl rfl) rfl rfl ?_)
    refine vone rfl (vxq (vas rfl) rfl rfl ?_)
    refine vone rfl (vxq (vas rfl) rfl rfl ?_)
    refine vnil ?_
    refine vseq ?_
    refine vregion ?_
    refine vone rfl (vxq (vldn rfl rfl) rfl rfl ?_)
    refine vone rfl (vxq (vldn rfl rfl) rfl rfl ?_)
    refine vone rfl (vxg (vcg rfl rfl rfl (d_Starts w h s _) (fun o H' h => h)) rfl rfl ?_)
    rintro _ _ ⟨B2, rfl, ⟨oa2, c2, rfl, hk2⟩⟩
    refine vone rfl (vxq (vmv rfl) rfl rfl ?_)
    refine vone rfl (vxq (vex rfl rfl) rfl rfl ?_)
    refine vone rfl (vxq (vex rfl rfl) rfl rfl ?_)
    refine vone rfl (vxq (vas rfl) rfl rfl ?_)
    refine vone rfl (vxq (vas rfl) rfl rfl ?_)
    refine vnil ?_
    refine vseq ?_
    refine vseq ?_
    refine vregion ?_
    refine vone rfl (vxq (vmv rfl) rfl rfl ?_)
    refine vone rfl (vxq (vneq rfl rfl) rfl rfl ?_)
    refine vknow (d := 47) (b' := false) rfl (decide_eq_false (fun e => e (hJ.d0))) ?_
    refine vone rfl (vxq (vmv rfl) rfl rfl ?_)
    refine vyes rfl rfl rfl (vxq (vmv rfl) rfl rfl ?_)
    refine vyes rfl rfl rfl (vxq (vneq rfl rfl) rfl rfl ?_)
    refine vknow (d := 50) (b' := false) rfl (decide_eq_false (fun e => e ((starts_e0 hJ.d0).1))) ?_
    refine vone rfl (vxq (vpkf rfl rfl) rfl rfl ?_)
    refine vone rfl (vxq (vmv rfl) rfl rfl ?_)
    refine vyes rfl rfl rfl (vxq (vmv rfl) rfl rfl ?_)
    refine vyes rfl rfl rfl (vxq (vlen rfl) rfl rfl ?_)
    refine vyes rfl rfl rfl (vxq (vmv rfl) rfl rfl ?_)
    refine vyes rfl rfl rfl (vxq (vlen rfl) rfl rfl ?_)
    refine vyes rfl rfl rfl (vxq (vneq rfl rfl) rfl rfl ?_)
    refine vknow (d := 57) (b' := false) rfl (decide_eq_false (fun e => e (by rw [hJ.dlen, hJ.len]))) ?_
    refine vone rfl (vxq (vpkf rfl rfl) rfl rfl ?_)
    refine vone rfl (vxq (vmv rfl) rfl rfl ?_)
    refine vyes rfl rfl rfl (vxq (vmv rfl) rfl rfl ?_)
    refine vyes rfl rfl rfl (vxq (vlen rfl) rfl rfl ?_)
    refine vyes rfl rfl rfl (vxq (vmv rfl) rfl rfl ?_)
    refine vyes rfl rfl rfl (vxq (vlen rfl) rfl rfl ?_)
    refine vyes rfl rfl rfl (vxq (vneq rfl rfl) rfl rfl ?_)
    refine vknow (d := 64) (b' := false) rfl (decide_eq_false (fun e => e (by rw [(starts_e0 hJ.d0).2, startL_len, hJ.len]))) ?_
    refine vone rfl (vxq (vpkf rfl rfl) rfl rfl ?_)
    refine vone rfl (vxq (vmv rfl) rfl rfl ?_)
    refine vyes rfl rfl rfl (vxq (vfa rfl) rfl rfl ?_)
    refine vyes rfl rfl rfl (vxq (vld1 rfl rfl) rfl rfl ?_)
    refine vyes rfl rfl rfl (vxq (vlen rfl) rfl rfl ?_)
    refine vyes rfl rfl rfl (vxq (vmv rfl) rfl rfl ?_)
    refine vyes rfl rfl rfl (vxq (vlen rfl) rfl rfl ?_)
    refine vyes rfl rfl rfl (vxq (vneq rfl rfl) rfl rfl ?_)
    refine vknow (d := 72) (b' := false) rfl (decide_eq_false (fun e => e (by rw [hJ.len, hJ.s0.2.2.1]))) ?_
    refine vone rfl (vxq (vpkf rfl rfl) rfl rfl ?_)
    refine vone rfl (vxq (vmv rfl) rfl rfl ?_)
    refine vyes rfl rfl rfl (vxq (vfa rfl) rfl rfl ?_)
    refine vyes rfl rfl rfl (vxq (vld1 rfl rfl) rfl rfl ?_)
    refine vyes rfl rfl rfl (vxq (vlen rfl) rfl rfl ?_)
    refine vyes rfl rfl rfl (vxq (vmv rfl) rfl rfl ?_)
    refine vyes rfl rfl rfl (vxq (vlen rfl) rfl rfl ?_)
    refine vyes rfl rfl rfl (vxq (vneq rfl rfl) rfl rfl ?_)
    refine vknow (d := 80) (b' := false) rfl (decide_eq_false (fun e => e (by rw [hJ.len, hJ.s0.2.2.2.1]))) ?_
    refine vone rfl (vxq (vpkf rfl rfl) rfl rfl ?_)
    refine vone rfl (vxq (vmv rfl) rfl rfl ?_)
    refine vyes rfl rfl rfl (vxq (vmv rfl) rfl rfl ?_)
    refine vyes rfl rfl rfl (vxq (vmv rfl) rfl rfl ?_)
    refine vyes rfl rfl rfl (vxq (vlen rfl) rfl rfl ?_)
    refine vyes rfl rfl rfl (vxq (vcp rfl rfl rfl (c_ref00_Between _ _ _)) rfl rfl ?_)
    refine vknow (d := 86) (b' := true) rfl (decide_eq_true (by rw [hTe]; omega)) ?_
    refine vyes rfl rfl rfl (vxq (vnot rfl) rfl rfl ?_)
    refine vone rfl (vxq (vpkf rfl rfl) rfl rfl ?_)
    refine vone rfl (vxq (vmv rfl) rfl rfl ?_)
    refine vyes rfl rfl rfl (vxq (vmv rfl) rfl rfl ?_)
    refine vyes rfl rfl rfl (vxq (vmv rfl) rfl rfl ?_)
    refine vyes rfl rfl rfl (vxq (vlen rfl) rfl rfl ?_)
    refine vyes rfl rfl rfl (vxq (veql rfl rfl) rfl rfl ?_)
    refine vyes rfl rfl rfl (vxq (vmv rfl) rfl rfl ?_)
    refine vyes rfl rfl rfl (vxq (veql rfl rfl) rfl rfl ?_)
    refine vyes rfl rfl rfl (vxq (vneqb (by kernel_rfl) rfl rfl) rfl rfl ?_)
    refine vknow (d := 96) (b' := false) rfl (bne_dec (by rw [hTe, ← hJ.rule]; omega)) ?_
    refine vone rfl (vxq (vpkf rfl rfl) rfl rfl ?_)
    refine vnil ?_
    refine vcondf rfl ?_
    refine vskip ?_
    refine vseq ?_
    refine vseq ?_
    refine vregion ?_
    refine vone rfl (vxq (vas rfl) rfl rfl ?_)
    refine vnil ?_
    refine vblock ?_
    refine vwhile (σ := Int) (fun k => (T - k).toNat) (fun k => [(2, .slice oa ms.length c), (3, ptr b1), (4, ptr b2), (7, I (judgeE w s ms).1), (10, .slice oa1 (dangerE w s).1.length c1), (11, .slice oa2 (startsE w s).1.length c2), (13, I k)]) (fun k => B2 ++ (B1 ++ ((b2, blk (clSc h s) 33) :: (b1, blk (clWn w) 23) :: H))) (fun k => 0 ≤ k ∧ k ≤ T) 0 ⟨by omega, by omega⟩ ⟨rfl, rfl, rfl, rfl, rfl, rfl, rfl, True.intro⟩ sb ?_
    rintro k ⟨hk0, hkT⟩ IH
    change VRun _ _ _ _ _ [(2, .slice oa ms.length c), (3, ptr b1), (4, ptr b2), (7, I (judgeE w s ms).1), (10, .slice oa1 (dangerE w s).1.length c1), (11, .slice oa2 (startsE w s).1.length c2), (13, I k)] _ (B2 ++ (B1 ++ ((b2, blk (clSc h s) 33) :: (b1, blk (clWn w) 23) :: H))) _
    refine vseq ?_
    refine vseq ?_
    refine vregion ?_
    refine vone rfl (vxq (vmv rfl) rfl rfl ?_)
    refine vone rfl (vxq (vmv rfl) rfl rfl ?_)
    refine vone rfl (vxq (vlss rfl rfl) rfl rfl ?_)
    refine vnil ?_
    refine vcondd rfl (fun h100 => ?_) (fun h100 => ?_)
    · skip
      obtain ⟨z, zd, ze, zr, zb, hz, hzd, hze, hzr, hzb, hq⟩ := judged_at hJ (k := k.toNat) (by omega)
      have lb1 := (List.getElem?_eq_some_iff.1 hzd).1
      have lb2 := (List.getElem?_eq_some_iff.1 hze).1
      have lb3 := (List.getElem?_eq_some_iff.1 hzr).1
      have lb4 := (List.getElem?_eq_some_iff.1 hzb).1
      refine vskip ?_
      refine vseq ?_
      refine vblock ?_
      refine vseq ?_
      refine vregion ?_
      refine vone rfl (vxq (vmv rfl) rfl rfl ?_)
      refine vone rfl (vxq (vmv rfl) rfl rfl ?_)
      refine vone rfl (vxq (visg (enc := encI) rfl rfl (by omega) hz) rfl rfl ?_)
      refine vone rfl (vxq (vldS1 (enc := encI) rfl hz rfl) rfl rfl ?_)
      refine vone rfl (vxq (vas rfl) rfl rfl ?_)
      refine vnil ?_
      refine vseq ?_
      refine vseq ?_
      refine vregion ?_
      refine vone rfl (vxq (vmv rfl) rfl rfl ?_)
      refine vone rfl (vxq (veql rfl rfl) rfl rfl ?_)
      refine vnil ?_
      refine vcondd rfl (fun h108 => ?_) (fun h108 => ?_)
      · skip
        refine vexit (k' := _) rfl ?_
        refine vregion ?_
        refine vone rfl (vxq (vmv rfl) rfl rfl ?_)
        refine vone rfl (vxq (vadd rfl rfl (by unfold InR; omega)) rfl rfl ?_)
        refine vone rfl (vxq (vas rfl) rfl rfl ?_)
        refine vnil ?_
        exact vback (IH (k + 1) ⟨by omega, by omega⟩ (by show (_ : Int).toNat < (_ : Int).toNat; omega)) ⟨rfl, rfl, rfl, rfl, rfl, rfl, rfl, True.intro⟩ sb2
      · skip
        obtain ⟨q1, q2, q3, q4⟩ := hq h108
        subst q1
        refine vskip ?_
        refine vseq ?_
        refine vregion ?_
        refine vone rfl (vxq (vmv rfl) rfl rfl ?_)
        refine vone rfl (vxq (vmv rfl) rfl rfl ?_)
        refine vone rfl (vxq (visg (enc := encB) rfl rfl (by omega) hzd) rfl rfl ?_)
        refine vone rfl (vxq (vldS1 (enc := encB) rfl hzd rfl) rfl rfl ?_)
        refine vknow (d := 112) (b' := false) rfl rfl ?_
        refine vone rfl (vxq (vmv rfl) rfl rfl ?_)
        refine vyes rfl rfl rfl (vxq (vfa rfl) rfl rfl ?_)
        refine vyes rfl rfl rfl (vxq (vld1 rfl rfl) rfl rfl ?_)
        refine vyes rfl rfl rfl (vxq (vmv rfl) rfl rfl ?_)
        refine vyes rfl rfl rfl (vxq (visg (enc := encB) rfl rfl (by omega) hze) rfl rfl ?_)
        refine vyes rfl rfl rfl (vxq (vldS1 (enc := encB) rfl hze rfl) rfl rfl ?_)
        rcases ze with _ | _
        · skip
          refine vyes rfl rfl rfl (vxq (vnot rfl) rfl rfl ?_)
          refine vyes rfl rfl rfl (vxq (vmv rfl) rfl rfl ?_)
          refine vyes rfl rfl rfl (vxq (vfa rfl) rfl rfl ?_)
          refine vyes rfl rfl rfl (vxq (vld1 rfl rfl) rfl rfl ?_)
          refine vyes rfl rfl rfl (vxq (vmv rfl) rfl rfl ?_)
          refine vyes rfl rfl rfl (vxq (visg (enc := encB) rfl rfl (by omega) hzr) rfl rfl ?_)
          refine vyes rfl rfl rfl (vxq (vldS1 (enc := encB) rfl hzr rfl) rfl rfl ?_)
          refine vknow (d := 125) (b' := true) rfl q2 ?_
          refine vyes rfl rfl rfl (vxq (vnot rfl) rfl rfl ?_)
          refine vyes rfl rfl rfl (vxq (vpkt rfl rfl) rfl rfl ?_)
          refine vone rfl (vxq (vpkf rfl rfl) rfl rfl ?_)
          refine vone rfl (vxq (vmv rfl) rfl rfl ?_)
          refine vyes rfl rfl rfl (vxq (vmv rfl) rfl rfl ?_)
          refine vyes rfl rfl rfl (vxq (veql rfl rfl) rfl rfl ?_)
          refine vyes rfl rfl rfl (vxq (vmv rfl) rfl rfl ?_)
          refine vsplitd (d := 132) rfl (fun h132 => ?_) (fun h132 => ?_)
          · skip
            refine vyes rfl rfl rfl (vxq (vmv rfl) rfl rfl ?_)
            refine vyes rfl rfl rfl (vxq (vmv rfl) rfl rfl ?_)
            refine vyes rfl rfl rfl (vxq (visg (enc := encB) rfl rfl (by omega) hzb) rfl rfl ?_)
            refine vyes rfl rfl rfl (vxq (vldS1 (enc := encB) rfl hzb rfl) rfl rfl ?_)
            refine vknow (d := 136) (b' := true) rfl (q3 h132) ?_
            refine vyes rfl rfl rfl (vxq (vnot rfl) rfl rfl ?_)
            refine vyes rfl rfl rfl (vxq (vpkt rfl rfl) rfl rfl ?_)
            refine vone rfl (vxq (vpkf rfl rfl) rfl rfl ?_)
            refine vone rfl (vxq (vmv rfl) rfl rfl ?_)
            refine vyes rfl rfl rfl (vxq (vldn rfl rfl) rfl rfl ?_)
            refine vyes rfl rfl rfl (vxq (vmv rfl) rfl rfl ?_)
            refine vyes rfl rfl rfl (vxq (vmv rfl) rfl rfl ?_)
            refine vyes rfl rfl rfl (vxq (vcq rfl rfl rfl (c_led w hw ms oa c _ hmn hJ.md k (by omega))) rfl rfl ?_)
            refine vknow (d := 144) (b' := true) rfl q4 ?_
            refine vyes rfl rfl rfl (vxq (vnot rfl) rfl rfl ?_)
            refine vone rfl (vxq (vpkf rfl rfl) rfl rfl ?_)
            refine vnil ?_
            refine vcondf rfl ?_
            refine vskip ?_
            refine vinblock ?_
            refine vregion ?_
            refine vone rfl (vxq (vmv rfl) rfl rfl ?_)
            refine vone rfl (vxq (vadd rfl rfl (by unfold InR; omega)) rfl rfl ?_)
            refine vone rfl (vxq (vas rfl) rfl rfl ?_)
            refine vnil ?_
            exact vback (IH (k + 1) ⟨by omega, by omega⟩ (by show (_ : Int).toNat < (_ : Int).toNat; omega)) ⟨rfl, rfl, rfl, rfl, rfl, rfl, rfl, True.intro⟩ sb2
          · skip
            refine vno rfl rfl rfl rfl rfl ?_
            refine vno rfl rfl rfl rfl rfl ?_
            refine vno rfl rfl rfl rfl rfl ?_
            refine vno rfl rfl rfl rfl rfl ?_
            refine vno rfl rfl rfl rfl rfl ?_
            refine vyes rfl rfl rfl (vxq (vpkf rfl rfl) rfl rfl ?_)
            refine vone rfl (vxq (vpkf rfl rfl) rfl rfl ?_)
            refine vone rfl (vxq (vmv rfl) rfl rfl ?_)
            refine vyes rfl rfl rfl (vxq (vldn rfl rfl) rfl rfl ?_)
            refine vyes rfl rfl rfl (vxq (vmv rfl) rfl rfl ?_)
            refine vyes rfl rfl rfl (vxq (vmv rfl) rfl rfl ?_)
            refine vyes rfl rfl rfl (vxq (vcq rfl rfl rfl (c_led w hw ms oa c _ hmn hJ.md k (by omega))) rfl rfl ?_)
            refine vknow (d := 144) (b' := true) rfl q4 ?_
            refine vyes rfl rfl rfl (vxq (vnot rfl) rfl rfl ?_)
            refine vone rfl (vxq (vpkf rfl rfl) rfl rfl ?_)
            refine vnil ?_
            refine vcondf rfl ?_
            refine vskip ?_
            refine vinblock ?_
            refine vregion ?_
            refine vone rfl (vxq (vmv rfl) rfl rfl ?_)
            refine vone rfl (vxq (vadd rfl rfl (by unfold InR; omega)) rfl rfl ?_)
            refine vone rfl (vxq (vas rfl) rfl rfl ?_)
            refine vnil ?_
            exact vback (IH (k + 1) ⟨by omega, by omega⟩ (by show (_ : Int).toNat < (_ : Int).toNat; omega)) ⟨rfl, rfl, rfl, rfl, rfl, rfl, rfl, True.intro⟩ sb2
        · skip
          refine vyes rfl rfl rfl (vxq (vnot rfl) rfl rfl ?_)
          refine vyes rfl rfl rfl (vxq (vmv rfl) rfl rfl ?_)
          refine vno rfl rfl rfl rfl rfl ?_
          refine vno rfl rfl rfl rfl rfl ?_
          refine vno rfl rfl rfl rfl rfl ?_
          refine vno rfl rfl rfl rfl rfl ?_
          refine vno rfl rfl rfl rfl rfl ?_
          refine vno rfl rfl rfl rfl rfl ?_
          refine vyes rfl rfl rfl (vxq (vpkf rfl rfl) rfl rfl ?_)
          refine vone rfl (vxq (vpkf rfl rfl) rfl rfl ?_)
          refine vone rfl (vxq (vmv rfl) rfl rfl ?_)
          refine vyes rfl rfl rfl (vxq (vmv rfl) rfl rfl ?_)
          refine vyes rfl rfl rfl (vxq (veql rfl rfl) rfl rfl ?_)
          refine vyes rfl rfl rfl (vxq (vmv rfl) rfl rfl ?_)
          refine vsplitd (d := 132) rfl (fun h132 => ?_) (fun h132 => ?_)
          · skip
            refine vyes rfl rfl rfl (vxq (vmv rfl) rfl rfl ?_)
            refine vyes rfl rfl rfl (vxq (vmv rfl) rfl rfl ?_)
            refine vyes rfl rfl rfl (vxq (visg (enc := encB) rfl rfl (by omega) hzb) rfl rfl ?_)
            refine vyes rfl rfl rfl (vxq (vldS1 (enc := encB) rfl hzb rfl) rfl rfl ?_)
            refine vknow (d := 136) (b' := true) rfl (q3 h132) ?_
            refine vyes rfl rfl rfl (vxq (vnot rfl) rfl rfl ?_)
            refine vyes rfl rfl rfl (vxq (vpkt rfl rfl) rfl rfl ?_)
            refine vone rfl (vxq (vpkf rfl rfl) rfl rfl ?_)
            refine vone rfl (vxq (vmv rfl) rfl rfl ?_)
            refine vyes rfl rfl rfl (vxq (vldn rfl rfl) rfl rfl ?_)
            refine vyes rfl rfl rfl (vxq (vmv rfl) rfl rfl ?_)
            refine vyes rfl rfl rfl (vxq (vmv rfl) rfl rfl ?_)
            refine vyes rfl rfl rfl (vxq (vcq rfl rfl rfl (c_led w hw ms oa c _ hmn hJ.md k (by omega))) rfl rfl ?_)
            refine vknow (d := 144) (b' := true) rfl q4 ?_
            refine vyes rfl rfl rfl (vxq (vnot rfl) rfl rfl ?_)
            refine vone rfl (vxq (vpkf rfl rfl) rfl rfl ?_)
            refine vnil ?_
            refine vcondf rfl ?_
            refine vskip ?_
            refine vinblock ?_
            refine vregion ?_
            refine vone rfl (vxq (vmv rfl) rfl rfl ?_)
            refine vone rfl (vxq (vadd rfl rfl (by unfold InR; omega)) rfl rfl ?_)
            refine vone rfl (vxq (vas rfl) rfl rfl ?_)
            refine vnil ?_
            exact vback (IH (k + 1) ⟨by omega, by omega⟩ (by show (_ : Int).toNat < (_ : Int).toNat; omega)) ⟨rfl, rfl, rfl, rfl, rfl, rfl, rfl, True.intro⟩ sb2
          · skip
            refine vno rfl rfl rfl rfl rfl ?_
            refine vno rfl rfl rfl rfl rfl ?_
            refine vno rfl rfl rfl rfl rfl ?_
            refine vno rfl rfl rfl rfl rfl ?_
            refine vno rfl rfl rfl rfl rfl ?_
            refine vyes rfl rfl rfl (vxq (vpkf rfl rfl) rfl rfl ?_)
            refine vone rfl (vxq (vpkf rfl rfl) rfl rfl ?_)
            refine vone rfl (vxq (vmv rfl) rfl rfl ?_)
            refine vyes rfl rfl rfl (vxq (vldn rfl rfl) rfl rfl ?_)
            refine vyes rfl rfl rfl (vxq (vmv rfl) rfl rfl ?_)
            refine vyes rfl rfl rfl (vxq (vmv rfl) rfl rfl ?_)
            refine vyes rfl rfl rfl (vxq (vcq rfl rfl rfl (c_led w hw ms oa c _ hmn hJ.md k (by omega))) rfl rfl ?_)
            refine vknow (d := 144) (b' := true) rfl q4 ?_
            refine vyes rfl rfl rfl (vxq (vnot rfl) rfl rfl ?_)
            refine vone rfl (vxq (vpkf rfl rfl) rfl rfl ?_)
            refine vnil ?_
            refine vcondf rfl ?_
            refine vskip ?_
            refine vinblock ?_
            refine vregion ?_
            refine vone rfl (vxq (vmv rfl) rfl rfl ?_)
            refine vone rfl (vxq (vadd rfl rfl (by unfold InR; omega)) rfl rfl ?_)
            refine vone rfl (vxq (vas rfl) rfl rfl ?_)
            refine vnil ?_
            exact vback (IH (k + 1) ⟨by omega, by omega⟩ (by show (_ : Int).toNat < (_ : Int).toNat; omega)) ⟨rfl, rfl, rfl, rfl, rfl, rfl, rfl, True.intro⟩ sb2
    · skip
      refine vexit (k' := _) rfl ?_
      refine vseq ?_
      refine vregion ?_
      refine vone rfl (vxq (vcq rfl rfl rfl (c_works _)) rfl rfl ?_)
      refine vknow (d := 147) (b' := true) rfl rfl ?_
      refine vone rfl (vxq (vas rfl) rfl rfl ?_)
      refine vnil ?_
      refine vret (vr1 (H' := H) Tryd.func4 rfl (.tmp rfl) sb2 ?_)
      exact ⟨rfl, rfl⟩
end Go.Proofs.YtaplkoimhecacaaDoor
