/-
  What the laws about watches say of the values of Judge, Danger, Starts, Best, in plain Lean. What the laws about watches say of gaps, of moved scenes and of a sighting more, in plain Lean.
-/
import Derived.Test.YtaplkoimhecacaaDoorTu18
import Derived.Test.YtaplkoimhecacaaDoorTu05
namespace Go.Proofs.YtaplkoimhecacaaDoor
open Go
set_option maxRecDepth 100000

attribute [local irreducible] tightP hullP rootP farP rows endsOf
theorem judge_cases (w : Wn) (s : Sc) (ms : List Int) : ((judgeE w s ms).2.2 ≠ 0 ∧ (judgeE w s ms).1 = 0 ∧ (judgeE w s ms).2.1 = 0) ∨
    (judgeE w s ms = ((judgeF (gOf w s) 0 sta0 ms).1, (judgeF (gOf w s) 0 sta0 ms).2, 0) ∧ (dangerE w s).2 = 0 ∧ ms.length = s.ship.length ∧ modesBad w ms = false) := by
  by_cases h1 : bothE w (chkS s) ≠ 0
  · rw [judge_e h1]; exact .inl ⟨h1, rfl, rfl⟩
  by_cases h2 : ms.length ≠ s.ship.length ∨ modesBad w ms = true
  · rw [judge_m h1 h2]; exact .inl ⟨by decide, rfl, rfl⟩
  by_cases h3 : (dangerE w s).2 ≠ 0
  · rw [judge_d h1 h2 h3]; exact .inl ⟨h3, rfl, rfl⟩
  · rw [judge_y h1 h2 h3 rfl]
    refine .inr ⟨rfl, Classical.not_not.1 h3, Classical.not_not.1 (fun e => h2 (.inl e)), ?_⟩
    cases hb : modesBad w ms with
    | false => rfl
    | true => exact absurd (.inr hb) h2
theorem modes_in {w : Wn} {ms : List Int} (h : modesBad w ms = false) : ∀ m ∈ ms, 0 ≤ m ∧ m ≤ w.soft + 1 := by
  intro m hm
  unfold modesBad at h
  have := List.any_eq_false.1 h m hm
  simpa using this
theorem modes_not {w : Wn} {ms : List Int} (h : ∀ m ∈ ms, 0 ≤ m ∧ m ≤ w.soft + 1) : modesBad w ms = false := by
  unfold modesBad
  rw [List.any_eq_false]
  intro m hm
  have := h m hm
  simp [this.1, this.2]
/-- What a judged plan is. -/
structure Judged (w : Wn) (s : Sc) (ms : List Int) (T : Nat) : Prop where
  w0 : okW w
  s0 : okSc s
  d0 : (dangerE w s).2 = 0
  len : ms.length = s.ship.length
  dlen : (dangerE w s).1.length = s.ship.length
  md : ∀ m ∈ ms, 0 ≤ m ∧ m ≤ w.soft + 1
  e : (judgeE w s ms).1 = T
  le : T ≤ ms.length
  up : okUp (gOf w s) ms T
  rule : T = ms.length ↔ (judgeE w s ms).2.1 = 0
theorem judge_yes {w : Wn} {s : Sc} {ms : List Int} (h : (judgeE w s ms).2.2 = 0) : ∃ T, Judged w s ms T := by
  rcases judge_cases w s ms with ⟨h1, _⟩ | ⟨h1, h2, h3, h4⟩
  · exact absurd h h1
  obtain ⟨hw, hs, _, hl⟩ := danger_0 h2
  have hm := modes_in h4
  obtain ⟨T, k1, k2, k3, k4, k5⟩ := judgeF_at (gOf w s) ms ms.length 0 (by omega) (fun t ht => by omega)
  rw [show stAt (gOf w s) ms 0 = sta0 from rfl, List.drop_zero] at k1 k4 k5
  refine ⟨T, hw, hs, h2, h3, hl, hm, by rw [h1]; exact k1, k2, k3, ?_⟩
  rw [h1]
  constructor
  · exact k5
  · intro hr
    by_cases e : T < ms.length
    · obtain ⟨g1, g2⟩ := k4 e
      have hr : (judgeF (gOf w s) 0 sta0 ms).2 = 0 := hr
      exact absurd (g1.symm.trans hr) g2
    · omega
theorem okUp_at {g : Lg} {ms : List Int} {T k : Nat} {m : Int} (h : okUp g ms T) (hk : k < T) (hm : ms[k]? = some m) (h0 : m ≠ 0) : bAt g.d k = false ∧ lookB g k = true ∧ (m = 1 → startP g k = true) := by
  have := h k hk
  rw [mdAt_of hm] at this
  unfold brokenP at this
  rw [if_neg h0] at this
  split at this
  · cases this
  rename_i h1
  split at this
  · cases this
  rename_i h2
  split at this
  · cases this
  rename_i h3
  refine ⟨by simpa using h1, by simpa using h2, fun e => ?_⟩
  cases hs : startP g k with
  | true => rfl
  | false => exact absurd ⟨e, hs⟩ h3
theorem best_e0 (w : Wn) (s : Sc) : (bestE w s).2.2 = (dangerE w s).2 := by
  by_cases h : (dangerE w s).2 ≠ 0
  · rw [best_e h]
  · rw [best_y h]; exact (Classical.not_not.1 h).symm
theorem best_yes {w : Wn} {s : Sc} (h : (bestE w s).2.2 = 0) : bestE w s = (bestF (gOf w s) s.ship.length 0 sta0, mostF (gOf w s) s.ship.length 0 sta0, 0) := by
  rw [best_e0] at h
  exact best_y (fun e => e h)
theorem valid_modes {g : Lg} : ∀ {l : List Int} {t : Int} {x : Sta}, validF g t x l → ∀ m ∈ l, 0 ≤ m ∧ m ≤ g.w.soft + 1
  | [], _, _, _, m, hm => by cases hm
  | a :: r, t, x, ⟨h1, _, h3⟩, m, hm => by
    rcases List.mem_cons.1 hm with rfl | hm
    · exact h1
    · exact valid_modes h3 m hm
/-- The best plan breaks no rule, and has as many full steps as it says. -/
theorem best_judge {w : Wn} {s : Sc} (h : (bestE w s).2.2 = 0) : judgeE w s (bestE w s).1 = (((bestE w s).1.length : Int), 0, 0) ∧ fullN w (bestE w s).1 = (bestE w s).2.1 ∧ (bestE w s).1.length = s.ship.length := by
  have h0 := h
  rw [best_e0] at h0
  obtain ⟨hw, hs, _, hl⟩ := danger_0 h0
  have hq : 0 ≤ (gOf w s).w.soft := by show 0 ≤ w.soft; unfold okW at hw; omega
  rw [best_yes h]
  have hv := bestF_valid (gOf w s) hq s.ship.length 0 sta0
  have hlen := bestF_len (gOf w s) s.ship.length 0 sta0
  have hj := judgeF_valid (gOf w s) _ 0 sta0 hv
  refine ⟨?_, bestF_full (gOf w s) hq s.ship.length 0 sta0, hlen⟩
  rcases judge_cases w s (bestF (gOf w s) s.ship.length 0 sta0) with ⟨h1, _⟩ | ⟨h1, _⟩
  · exfalso
    apply h1
    have hb : bothE w (chkS s) = 0 := by rw [bothE_s (chkW_z.2 hw)]; exact chkS_t hs
    have hm : modesBad w (bestF (gOf w s) s.ship.length 0 sta0) = false := modes_not (valid_modes hv)
    rw [judge_y (fun e => e hb) (fun e => e.elim (fun g => g hlen) (fun g => by rw [hm] at g; cases g)) (fun e => e h0) rfl]
  · rw [h1, hj]; simp
/-! ### Milder numbers -/
theorem risk_some {w : Wn} {s : Sc} {l : List Bool} (h : riskP w s = some l) : okAll w s s.ship.length = true ∧ l = riskL w s := by
  unfold riskP at h
  split at h
  · rename_i h1; cases h; exact ⟨h1, rfl⟩
  · cases h
end Go.Proofs.YtaplkoimhecacaaDoor
namespace Go.Proofs.YtaplkoimhecacaaDoor
open Go
set_option maxRecDepth 100000

attribute [local irreducible] tightP hullP rootP farP rows endsOf
theorem both_z {w : Wn} {s : Sc} (hw : okW w) (hs : okSc s) : ¬ bothE w (chkS s) ≠ 0 := by
  intro e; apply e; rw [bothE_s (chkW_z.2 hw)]; exact chkS_t hs
/-- What one gap says. -/
theorem risk_gapE {w : Wn} {s : Sc} {t : Nat} {k : Kn} {a : Rg × Int} (hk : k = some a) : riskAt w s t k = decide ((gapE (atR s.src t) a.1).1.lo ≤ w.zone * w.zone) := by
  subst hk
  obtain ⟨r, l⟩ := a
  show decide ((gapW r (atR s.src t)).lo ≤ w.zone * w.zone) = _
  unfold gapW
  rw [gap_comm]
/-! ### Moved scenes -/
/-- A scene whose ship and sources are moved. -/
structure MovedSc (v : Pt) (s s' : Sc) : Prop where
  eyes : s'.eyes = s.eyes
  ears : s'.ears = s.ears
  sg : s'.sg = s.sg
  len : s'.ship.length = s.ship.length
  len2 : s'.src.length = s.ship.length
  ship : ∀ t, t < s.ship.length → Mvd v (atR s.ship t) (atR s'.ship t)
  src : ∀ t, t < s.ship.length → Mvd v (atR s.src t) (atR s'.src t)
/-! ### A sighting more -/
end Go.Proofs.YtaplkoimhecacaaDoor
