/-
  What the laws about watches say of the values of Judge, Danger, Starts, Best, in plain Lean. What the laws about watches say of gaps, of moved scenes and of a sighting more, in plain Lean.
-/
import Derived.Test.YtaplkoimhecacaaDoorB18
import Derived.Test.YtaplkoimhecacaaDoorB05
namespace Go.Proofs.YtaplkoimhecacaaDoor
open Go
set_option maxRecDepth 100000

attribute [local irreducible] tightP hullP rootP farP rows endsOf
theorem judge_cases (w : Wn) (s : Sc) (ms : List Int) : ((judgeE w s ms).2.2 ≠ 0 ∧ (judgeE w s ms).1 = 0 ∧ (judgeE w s ms).2.1 = 0) ∨
    (judgeE w s ms = ((judgeF (gOf w s) 0 sta0 ms).1, (judgeF (gOf w s) 0 sta0 ms).2, 0) ∧ (dangerE w s).2 = 0 ∧ ms.length = s.ship.length ∧ modesBad w ms = false) := by
  by_cases h1 : bothE w (chkS s) ≠ 0
  · rw [judge_e h1]; exact .inl ⟨h1, rfl, rfl⟩
  by_cases h2 : ms.length ≠ s.ship.length ∨ modesBad w ms = true
  · rw [judge_m h1 h2]; exact .inl ⟨by decide, rfl, rfl⟩
  by_cases h3 : (dangerE w s).2 ≠ 0
  · rw [judge_d h1 h2 h3]; exact .inl ⟨h3, rfl, rfl⟩
  · rw [judge_y h1 h2 h3 rfl]
    refine .inr ⟨rfl, Classical.not_not.1 h3, Classical.not_not.1 (fun e => h2 (.inl e)), ?_⟩
    cases hb : modesBad w ms with
    | false => rfl
    | true => exact absurd (.inr hb) h2
theorem judge_no {w : Wn} {s : Sc} {ms : List Int} (h : (judgeE w s ms).2.2 ≠ 0) : (judgeE w s ms).1 = 0 ∧ (judgeE w s ms).2.1 = 0 := by
  rcases judge_cases w s ms with ⟨_, h2⟩ | ⟨h1, _⟩
  · exact h2
  · rw [h1] at h; exact absurd rfl h
theorem modes_in {w : Wn} {ms : List Int} (h : modesBad w ms = false) : ∀ m ∈ ms, 0 ≤ m ∧ m ≤ w.soft + 1 := by
  intro m hm
  unfold modesBad at h
  have := List.any_eq_false.1 h m hm
  simpa using this
theorem modes_not {w : Wn} {ms : List Int} (h : ∀ m ∈ ms, 0 ≤ m ∧ m ≤ w.soft + 1) : modesBad w ms = false := by
  unfold modesBad
  rw [List.any_eq_false]
  intro m hm
  have := h m hm
  simp [this.1, this.2]
/-- What a judged plan is. -/
structure Judged (w : Wn) (s : Sc) (ms : List Int) (T : Nat) : Prop where
  w0 : okW w
  s0 : okSc s
  d0 : (dangerE w s).2 = 0
  len : ms.length = s.ship.length
  dlen : (dangerE w s).1.length = s.ship.length
  md : ∀ m ∈ ms, 0 ≤ m ∧ m ≤ w.soft + 1
  e : (judgeE w s ms).1 = T
  le : T ≤ ms.length
  up : okUp (gOf w s) ms T
  rule : T = ms.length ↔ (judgeE w s ms).2.1 = 0
theorem judge_yes {w : Wn} {s : Sc} {ms : List Int} (h : (judgeE w s ms).2.2 = 0) : ∃ T, Judged w s ms T := by
  rcases judge_cases w s ms with ⟨h1, _⟩ | ⟨h1, h2, h3, h4⟩
  · exact absurd h h1
  obtain ⟨hw, hs, _, hl⟩ := danger_0 h2
  have hm := modes_in h4
  obtain ⟨T, k1, k2, k3, k4, k5⟩ := judgeF_at (gOf w s) ms ms.length 0 (by omega) (fun t ht => by omega)
  rw [show stAt (gOf w s) ms 0 = sta0 from rfl, List.drop_zero] at k1 k4 k5
  refine ⟨T, hw, hs, h2, h3, hl, hm, by rw [h1]; exact k1, k2, k3, ?_⟩
  rw [h1]
  constructor
  · exact k5
  · intro hr
    by_cases e : T < ms.length
    · obtain ⟨g1, g2⟩ := k4 e
      have hr : (judgeF (gOf w s) 0 sta0 ms).2 = 0 := hr
      exact absurd (g1.symm.trans hr) g2
    · omega
theorem okUp_at {g : Lg} {ms : List Int} {T k : Nat} {m : Int} (h : okUp g ms T) (hk : k < T) (hm : ms[k]? = some m) (h0 : m ≠ 0) : bAt g.d k = false ∧ lookB g k = true ∧ (m = 1 → startP g k = true) := by
  have := h k hk
  rw [mdAt_of hm] at this
  unfold brokenP at this
  rw [if_neg h0] at this
  split at this
  · cases this
  rename_i h1
  split at this
  · cases this
  rename_i h2
  split at this
  · cases this
  rename_i h3
  refine ⟨by simpa using h1, by simpa using h2, fun e => ?_⟩
  cases hs : startP g k with
  | true => rfl
  | false => exact absurd ⟨e, hs⟩ h3
theorem best_e0 (w : Wn) (s : Sc) : (bestE w s).2.2 = (dangerE w s).2 := by
  by_cases h : (dangerE w s).2 ≠ 0
  · rw [best_e h]
  · rw [best_y h]; exact (Classical.not_not.1 h).symm
theorem danger_no {w : Wn} {s : Sc} (h : (dangerE w s).2 ≠ 0) : (dangerE w s).1 = [] := by
  by_cases hb : bothE w (chkS s) ≠ 0
  · rw [danger_e hb]
  · cases hr : riskP w s with
    | none => rw [danger_n hb hr]
    | some l => rw [danger_y hb hr] at h; exact absurd rfl h
theorem best_no {w : Wn} {s : Sc} (h : (bestE w s).2.2 ≠ 0) : (bestE w s).1 = [] ∧ (bestE w s).2.1 = 0 := by
  rw [best_e0] at h
  rw [best_e h]; exact ⟨rfl, rfl⟩
theorem best_yes {w : Wn} {s : Sc} (h : (bestE w s).2.2 = 0) : bestE w s = (bestF (gOf w s) s.ship.length 0 sta0, mostF (gOf w s) s.ship.length 0 sta0, 0) := by
  rw [best_e0] at h
  exact best_y (fun e => e h)
theorem valid_modes {g : Lg} : ∀ {l : List Int} {t : Int} {x : Sta}, validF g t x l → ∀ m ∈ l, 0 ≤ m ∧ m ≤ g.w.soft + 1
  | [], _, _, _, m, hm => by cases hm
  | a :: r, t, x, ⟨h1, _, h3⟩, m, hm => by
    rcases List.mem_cons.1 hm with rfl | hm
    · exact h1
    · exact valid_modes h3 m hm
/-- The best plan breaks no rule, and has as many full steps as it says. -/
theorem best_judge {w : Wn} {s : Sc} (h : (bestE w s).2.2 = 0) : judgeE w s (bestE w s).1 = (((bestE w s).1.length : Int), 0, 0) ∧ fullN w (bestE w s).1 = (bestE w s).2.1 ∧ (bestE w s).1.length = s.ship.length := by
  have h0 := h
  rw [best_e0] at h0
  obtain ⟨hw, hs, _, hl⟩ := danger_0 h0
  have hq : 0 ≤ (gOf w s).w.soft := by show 0 ≤ w.soft; unfold okW at hw; omega
  rw [best_yes h]
  have hv := bestF_valid (gOf w s) hq s.ship.length 0 sta0
  have hlen := bestF_len (gOf w s) s.ship.length 0 sta0
  have hj := judgeF_valid (gOf w s) _ 0 sta0 hv
  refine ⟨?_, bestF_full (gOf w s) hq s.ship.length 0 sta0, hlen⟩
  rcases judge_cases w s (bestF (gOf w s) s.ship.length 0 sta0) with ⟨h1, _⟩ | ⟨h1, _⟩
  · exfalso
    apply h1
    have hb : bothE w (chkS s) = 0 := by rw [bothE_s (chkW_z.2 hw)]; exact chkS_t hs
    have hm : modesBad w (bestF (gOf w s) s.ship.length 0 sta0) = false := modes_not (valid_modes hv)
    rw [judge_y (fun e => e hb) (fun e => e.elim (fun g => g hlen) (fun g => by rw [hm] at g; cases g)) (fun e => e h0) rfl]
  · rw [h1, hj]; simp
theorem best_most {w : Wn} {s : Sc} {ms : List Int} (h : (bestE w s).2.2 = 0) (h1 : (judgeE w s ms).2.2 = 0) (h2 : (judgeE w s ms).2.1 = 0) : fullN w ms ≤ (bestE w s).2.1 := by
  have h0 := h
  rw [best_e0] at h0
  obtain ⟨hw, hs, _, hl⟩ := danger_0 h0
  have hq : 0 ≤ (gOf w s).w.soft := by show 0 ≤ w.soft; unfold okW at hw; omega
  rcases judge_cases w s ms with ⟨g1, _⟩ | ⟨g1, _, g3, g4⟩
  · exact absurd h1 g1
  · rw [g1] at h2
    have := valid_le (gOf w s) hq ms 0 sta0 (judgeF_zero (gOf w s) ms 0 sta0 (modes_in g4) h2)
    rw [best_yes h]
    rw [g3] at this; exact this
/-! ### Milder numbers -/
def mildW (w : Wn) (a b c d : Int) : Wn := { w with zone := restP a (w.zone + 1), delay := restP b (w.delay + 1), speed := restP c (w.speed + 1), pause := min 16 (w.pause + restP d 3) }
theorem mild_less {w : Wn} (hw : okW w) (a b c d : Int) : Less (mildW w a b c d) w ∧ okW (mildW w a b c d) := by
  unfold okW at hw
  have h1 := rest_bd (n := a) (m := w.zone + 1) (by omega)
  have h2 := rest_bd (n := b) (m := w.delay + 1) (by omega)
  have h3 := rest_bd (n := c) (m := w.speed + 1) (by omega)
  have h4 := rest_bd (n := d) (m := 3) (by omega)
  unfold mildW
  refine ⟨⟨?_, ?_, rfl, rfl, ?_, rfl, ?_⟩, ?_⟩
  · show 0 ≤ restP a (w.zone + 1) ∧ restP a (w.zone + 1) ≤ w.zone; omega
  · show 0 ≤ restP c (w.speed + 1) ∧ restP c (w.speed + 1) ≤ w.speed ∧ w.speed ≤ 32; omega
  · show 0 ≤ restP b (w.delay + 1) ∧ restP b (w.delay + 1) ≤ w.delay; omega
  · show w.pause ≤ min 16 (w.pause + restP d 3); omega
  · unfold okW; simp only; omega
theorem danger_codes {w : Wn} {s : Sc} (hw : okW w) (hs : okSc s) : (dangerE w s).2 = 0 ∨ (dangerE w s).2 = 62 := by
  have hb : bothE w (chkS s) = 0 := by rw [bothE_s (chkW_z.2 hw)]; exact chkS_t hs
  cases hr : riskP w s with
  | none => rw [danger_n (fun e => e hb) hr]; exact .inr rfl
  | some l => rw [danger_y (fun e => e hb) hr]; exact .inl rfl
theorem risk_some {w : Wn} {s : Sc} {l : List Bool} (h : riskP w s = some l) : okAll w s s.ship.length = true ∧ l = riskL w s := by
  unfold riskP at h
  split at h
  · rename_i h1; cases h; exact ⟨h1, rfl⟩
  · cases h
theorem okAll_same {w w' : Wn} {s : Sc} (hw : w'.speed = w.speed) (hh : w'.hold = w.hold) (n : Nat) : okAll w' s n = okAll w s n := by
  unfold okAll okT
  congr 1
  funext x
  rw [kst_same hw hh]
theorem mild_62 {w : Wn} {s : Sc} (h : (dangerE w s).2 = 0) {a b c d : Int} (h2 : (dangerE (mildW w a b c d) s).2 = 62) : (mildW w a b c d).speed ≠ w.speed := by
  intro e
  obtain ⟨hw, hs, hr, _⟩ := danger_0 h
  obtain ⟨k1, k2⟩ := risk_some hr
  have hb : bothE (mildW w a b c d) (chkS s) = 0 := by rw [bothE_s (chkW_z.2 (mild_less hw a b c d).2)]; exact chkS_t hs
  have hr' : riskP (mildW w a b c d) s = some (riskL (mildW w a b c d) s) := by unfold riskP; rw [okAll_same e rfl, if_pos k1]
  rw [danger_y (fun e => e hb) hr'] at h2
  cases h2
theorem mild_le {w : Wn} {s : Sc} (h : (dangerE w s).2 = 0) {a b c d : Int} (h2 : (dangerE (mildW w a b c d) s).2 = 0) : (∀ t : Nat, bAt (dangerE (mildW w a b c d) s).1 t = true → bAt (dangerE w s).1 t = true) ∧ (bestE w s).2.1 ≤ (bestE (mildW w a b c d) s).2.1 ∧ (dangerE (mildW w a b c d) s).1.length = (dangerE w s).1.length := by
  obtain ⟨hw, hs, hr, hl⟩ := danger_0 h
  obtain ⟨hw', _, hr', hl'⟩ := danger_0 h2
  obtain ⟨k1, k2⟩ := risk_some hr
  obtain ⟨k1', k2'⟩ := risk_some hr'
  have hless := (mild_less hw a b c d).1
  have hd : ∀ t : Nat, bAt (dangerE (mildW w a b c d) s).1 t = true → bAt (dangerE w s).1 t = true := by
    intro t ht
    rw [k2'] at ht; rw [k2]
    exact riskL_le hless hs k1' k1 ht
  refine ⟨hd, ?_, hl'.trans hl.symm⟩
  rw [best_yes (by rw [best_e0]; exact h), best_yes (by rw [best_e0]; exact h2)]
  refine most_mild (g' := gOf (mildW w a b c d) s) (g := gOf w s) ⟨hless, rfl, fun t ht => ?_⟩ (by show 0 ≤ w.soft; unfold okW at hw; omega) _
  have e : bAt (gOf w s).d t = bAt (dangerE w s).1 (t.toNat : Nat) := by unfold bAt gOf; rw [Int.toNat_natCast]
  have e' : bAt (gOf (mildW w a b c d) s).d t = bAt (dangerE (mildW w a b c d) s).1 (t.toNat : Nat) := by unfold bAt gOf; rw [Int.toNat_natCast]
  rw [e]; rw [e'] at ht; exact hd _ ht

end Go.Proofs.YtaplkoimhecacaaDoor
namespace Go.Proofs.YtaplkoimhecacaaDoor
open Go
set_option maxRecDepth 100000

attribute [local irreducible] tightP hullP rootP farP rows endsOf
theorem two_tgt {a b : Rg} (ha : smallR a) (hb : Tgt1 b) : ∃ t, tightP a = some t ∧ twoE a b = (t, b, 0) := by
  obtain ⟨t, ht⟩ := Option.isSome_iff_exists.1 ha.2.2.2
  refine ⟨t, ht, ?_⟩
  unfold twoE
  rw [if_pos (chk2_zero.2 ⟨ha.1, hb.ok⟩), ht, hb.tg]
theorem gap_e0 {a b : Rg} (ha : smallR a) (hb : Tgt1 b) : (gapE a b).2 = 0 := by
  obtain ⟨t, _, h⟩ := two_tgt ha hb
  unfold gapE
  rw [h, if_pos rfl]
/-- An animal of a valid scene is sighted in it. -/
theorem ofS_len {s : Sc} {x : Sg} (h : x ∈ s.sg) : ¬ (ofS s x.nm).sg.length = 0 := by
  intro e
  have : x ∈ (ofS s x.nm).sg := by unfold ofS; exact List.mem_filter.2 ⟨h, by simp⟩
  rw [List.length_eq_zero_iff.1 e] at this
  cases this
theorem both_z {w : Wn} {s : Sc} (hw : okW w) (hs : okSc s) : ¬ bothE w (chkS s) ≠ 0 := by
  intro e; apply e; rw [bothE_s (chkW_z.2 hw)]; exact chkS_t hs
theorem track_of {w : Wn} {s : Sc} (h : (dangerE w s).2 = 0) {x : Sg} (hx : x ∈ s.sg) : trackE w s x.nm = (knL w s x.nm s.ship.length, whL w s x.nm s.ship.length, 0) := by
  obtain ⟨hw, hs, hr, _⟩ := danger_0 h
  exact track_y (both_z hw hs) (ofS_len hx) (List.all_eq_true.1 (risk_some hr).1 x hx)
theorem kn_at {w : Wn} {s : Sc} {nm : ByteArray} {n t : Nat} (ht : t < n) : (knL w s nm n)[t]? = some (knAt w s nm (t + 1)).isSome := by unfold knL; simp [List.getElem?_map, List.getElem?_range ht]
theorem wh_at {w : Wn} {s : Sc} {nm : ByteArray} {n t : Nat} (ht : t < n) : (whL w s nm n)[t]? = some ((knAt w s nm (t + 1)).getD (zR, 0)).1 := by unfold whL; simp [List.getElem?_map, List.getElem?_range ht]
theorem src_small {s : Sc} (hs : okSc s) {t : Nat} (ht : t < s.ship.length) : ∃ r, s.src[t]? = some r ∧ smallR r ∧ atR s.src t = r := by
  have hl := hs.2.1
  obtain ⟨r, hr⟩ := get_of_lt s.src (i := t) (by omega)
  exact ⟨r, hr, hs.2.2.2.2.2.2.1 r (List.mem_of_getElem? hr), atR_of hr⟩
/-- In which steps the first sightings' animals are near. -/
def wantP (w : Wn) (s : Sc) (i t : Nat) : Bool := (s.sg.take i).any fun x => riskAt w s t (knAt w s x.nm (t + 1))
def wantL (w : Wn) (s : Sc) (i t : Nat) : List Bool := (List.range s.ship.length).map fun u => wantP w s (if u < t then i + 1 else i) u
theorem want_succ {w : Wn} {s : Sc} {i t : Nat} {x : Sg} (hx : s.sg[i]? = some x) : wantP w s (i + 1) t = (wantP w s i t || riskAt w s t (knAt w s x.nm (t + 1))) := by
  unfold wantP
  obtain ⟨h1, h2⟩ := List.getElem?_eq_some_iff.1 hx
  rw [List.take_succ_eq_append_getElem h1, List.any_append, h2]; simp
theorem wantL_len (w : Wn) (s : Sc) (i t : Nat) : (wantL w s i t).length = s.ship.length := by simp [wantL]
theorem wantL_at {w : Wn} {s : Sc} {i t u : Nat} (hu : u < s.ship.length) : (wantL w s i t)[u]? = some (wantP w s (if u < t then i + 1 else i) u) := by unfold wantL; simp [List.getElem?_map, List.getElem?_range hu]
theorem wantL_00 (w : Wn) (s : Sc) : wantL w s 0 0 = List.replicate s.ship.length false := by
  refine List.ext_getElem? fun u => ?_
  by_cases hu : u < s.ship.length
  · rw [wantL_at hu, List.getElem?_replicate, if_pos hu, if_neg (by omega)]; simp [wantP]
  · rw [List.getElem?_eq_none (by rw [wantL_len]; omega), List.getElem?_eq_none (by simp; omega)]
theorem wantL_next (w : Wn) (s : Sc) (i : Nat) : wantL w s i s.ship.length = wantL w s (i + 1) 0 := by
  refine List.ext_getElem? fun u => ?_
  by_cases hu : u < s.ship.length
  · rw [wantL_at hu, wantL_at hu, if_pos hu, if_neg (by omega)]
  · rw [List.getElem?_eq_none (by rw [wantL_len]; omega), List.getElem?_eq_none (by rw [wantL_len]; omega)]
theorem wantL_set {w : Wn} {s : Sc} {i t : Nat} (ht : t < s.ship.length) : (wantL w s i t).set t (wantP w s (i + 1) t) = wantL w s i (t + 1) := by
  refine List.ext_getElem? fun u => ?_
  rw [List.getElem?_set]
  by_cases e : t = u
  · subst e
    rw [if_pos rfl, if_pos (by rw [wantL_len]; exact ht), wantL_at ht, if_pos (by omega)]
  · rw [if_neg e]
    by_cases hu : u < s.ship.length
    · rw [wantL_at hu, wantL_at hu]
      by_cases h1 : u < t
      · rw [if_pos h1, if_pos (by omega)]
      · rw [if_neg h1, if_neg (by omega)]
    · rw [List.getElem?_eq_none (by rw [wantL_len]; omega), List.getElem?_eq_none (by rw [wantL_len]; omega)]
theorem wantL_skip {w : Wn} {s : Sc} {i t : Nat} (_ht : t < s.ship.length) (he : wantP w s (i + 1) t = wantP w s i t) : wantL w s i t = wantL w s i (t + 1) := by
  refine List.ext_getElem? fun u => ?_
  by_cases hu : u < s.ship.length
  · rw [wantL_at hu, wantL_at hu]
    by_cases e : t = u
    · subst e; rw [if_neg (by omega), if_pos (by omega), he]
    by_cases h1 : u < t
    · rw [if_pos h1, if_pos (by omega)]
    · rw [if_neg h1, if_neg (by omega)]
  · rw [List.getElem?_eq_none (by rw [wantL_len]; omega), List.getElem?_eq_none (by rw [wantL_len]; omega)]
theorem want_end {w : Wn} {s : Sc} (h : (dangerE w s).2 = 0) : (dangerE w s).1 = wantL w s s.sg.length 0 := by
  obtain ⟨hw, hs, hr, hl⟩ := danger_0 h
  rw [(risk_some hr).2]
  unfold riskL wantL wantP
  refine List.map_congr_left fun u _ => ?_
  rw [if_neg (by omega), List.take_length]
/-- What one gap says. -/
theorem risk_gapE {w : Wn} {s : Sc} {t : Nat} {k : Kn} {a : Rg × Int} (hk : k = some a) : riskAt w s t k = decide ((gapE (atR s.src t) a.1).1.lo ≤ w.zone * w.zone) := by
  subst hk
  obtain ⟨r, l⟩ := a
  show decide ((gapW r (atR s.src t)).lo ≤ w.zone * w.zone) = _
  unfold gapW
  rw [gap_comm]
theorem risk_none {w : Wn} {s : Sc} {t : Nat} : riskAt w s t none = false := rfl

/-! ### Moved scenes -/
theorem middle_of {r : Rg} (h : r.x.lo > -25000 ∧ r.x.hi < 25000 ∧ r.y.lo > -25000 ∧ r.y.hi < 25000) : Mid r 25000 := by unfold Mid; omega
theorem mvd_of {v : Pt} {r r' : Rg} (h : smallR r) (hm : moveE r v = (r', 0)) (h1 : Mid r 25000) (h2 : Mid r' 25000) : Mvd v r r' := by
  obtain ⟨t, ht⟩ := Option.isSome_iff_exists.1 h.2.2.2
  rcases move_cases h.1 ht v with ⟨e, _, _⟩ | e
  · rw [e] at hm
    cases hm
    exact ⟨h.1, ⟨t, ht, rfl⟩, h1, h2⟩
  · rw [e] at hm; cases hm
theorem tight_width {r t : Rg} (h : tightP r = some t) : (r.x.lo ≤ t.x.lo ∧ t.x.hi ≤ r.x.hi) ∧ r.y.lo ≤ t.y.lo ∧ t.y.hi ≤ r.y.hi := by
  have := tight_of_ends h (fun p hp => hp)
  omega
theorem mvd_small {v : Pt} {r r' : Rg} (h : smallR r) (hm : Mvd v r r') : smallR r' := by
  obtain ⟨_, h2, h3, _, _, _, h7, h8⟩ := hm.facts
  have hwd := tight_width h8
  obtain ⟨_, k2, k3, _⟩ := h
  refine ⟨h7.ok, ?_, ?_, by rw [h3]; rfl⟩
  · rw [h2]; unfold shR Rg.map2 Bd.plus ofP; simp only; omega
  · rw [h2]; unfold shR Rg.map2 Bd.plus ofP; simp only; omega
/-- A scene whose ship and sources are moved. -/
structure MovedSc (v : Pt) (s s' : Sc) : Prop where
  eyes : s'.eyes = s.eyes
  ears : s'.ears = s.ears
  sg : s'.sg = s.sg
  len : s'.ship.length = s.ship.length
  len2 : s'.src.length = s.ship.length
  ship : ∀ t, t < s.ship.length → Mvd v (atR s.ship t) (atR s'.ship t)
  src : ∀ t, t < s.ship.length → Mvd v (atR s.src t) (atR s'.src t)
theorem moved_ok {v : Pt} {s s' : Sc} (h : MovedSc v s s') (hs : okSc s) : okSc s' := by
  obtain ⟨a1, a2, a3, a4, a5, a6, a7, a8, a9⟩ := hs
  refine ⟨by rw [h.len]; exact a1, by rw [h.len, h.len2], by rw [h.len, h.eyes]; exact a3, by rw [h.len, h.ears]; exact a4, by rw [h.sg]; exact a5, fun r hr => ?_, fun r hr => ?_, fun x hx => ?_, by rw [h.sg]; exact a9⟩
  · obtain ⟨t, ht⟩ := List.getElem?_of_mem hr
    have hlt := (List.getElem?_eq_some_iff.1 ht).1
    rw [h.len] at hlt
    obtain ⟨r0, hr0⟩ := get_of_lt s.ship (i := t) hlt
    have := h.ship t hlt
    rw [atR_of ht, atR_of hr0] at this
    exact mvd_small (a6 r0 (List.mem_of_getElem? hr0)) this
  · obtain ⟨t, ht⟩ := List.getElem?_of_mem hr
    have hlt := (List.getElem?_eq_some_iff.1 ht).1
    rw [h.len2] at hlt
    obtain ⟨r0, hr0⟩ := get_of_lt s.src (i := t) (by omega)
    have := h.src t hlt
    rw [atR_of ht, atR_of hr0] at this
    exact mvd_small (a7 r0 (List.mem_of_getElem? hr0)) this
  · rw [h.sg] at hx
    obtain ⟨b1, b2, b3, b4⟩ := a8 x hx
    exact ⟨by rw [h.len]; exact b1, b2, b3, by rw [h.eyes, h.ears]; exact b4⟩
theorem moved_danger {v : Pt} {w : Wn} {s s' : Sc} (h : MovedSc v s s') (hw : okW w) (hs : okSc s) : dangerE w s' = dangerE w s := by
  have hr : riskP w s' = riskP w s := by
    have hw' := hw
    unfold okW at hw'
    refine risk_sh (v := v) (by omega) (by omega) ⟨h.sg, h.len, h.ship⟩ (fun x hx => ?_) h.src
    obtain ⟨b1, _, b3, _⟩ := hs.2.2.2.2.2.2.2.1 x hx
    omega
  cases hk : riskP w s with
  | none => rw [danger_n (both_z hw hs) hk, danger_n (both_z hw (moved_ok h hs)) (hr.trans hk)]
  | some l => rw [danger_y (both_z hw hs) hk, danger_y (both_z hw (moved_ok h hs)) (hr.trans hk)]

/-! ### A sighting more -/
/-- Sightings up to a step, one more, and the others. -/
def moreS (s : Sc) (a : Nat) (x : Sg) : Sc := { s with sg := s.sg.take a ++ [x] ++ s.sg.drop a }
theorem sorted_le {l : List Sg} (h : sortedS l) : ∀ (n i : Nat) {x y : Sg}, l[i]? = some x → l[i + n]? = some y → x.st ≤ y.st
  | 0, i, x, y, hx, hy => by rw [Nat.add_zero, hx] at hy; cases hy; exact Int.le_refl _
  | n + 1, i, x, y, hx, hy => by
    have hlt := (List.getElem?_eq_some_iff.1 hy).1
    obtain ⟨z, hz⟩ := get_of_lt l (i := i + n) (by omega)
    exact Int.le_trans (sorted_le h n i hx hz) (h (i + n) z y hz (by rw [show i + n + 1 = i + (n + 1) by omega]; exact hy))
theorem drop_later {s : Sc} (hs : okSc s) {a : Nat} {n : Int} (h : a = s.sg.length ∨ ∃ y, s.sg[a]? = some y ∧ n < y.st) : ∀ z ∈ s.sg.drop a, n < z.st := by
  intro z hz
  rcases h with rfl | ⟨y, hy, hn⟩
  · rw [List.drop_length] at hz; cases hz
  · obtain ⟨i, hi⟩ := List.getElem?_of_mem hz
    rw [List.getElem?_drop] at hi
    have := sorted_le hs.2.2.2.2.2.2.2.2 i a hy hi
    omega
theorem inStep_more {s : Sc} (hs : okSc s) {a : Nat} {x : Sg} (h : a = s.sg.length ∨ ∃ y, s.sg[a]? = some y ∧ x.st < y.st) :
    (∀ t : Nat, (t : Int) < x.st → inStep (moreS s a x) x.nm t = inStep s x.nm t) ∧ inStep (moreS s a x) x.nm x.st = inStep s x.nm x.st ++ [x] := by
  have hd := drop_later hs h
  have key : ∀ t : Int, t ≤ x.st → (s.sg.drop a).filter (fun y => decide (y.st = t) && decide (y.nm = x.nm)) = [] := fun t ht => by
    rw [List.filter_eq_nil_iff]
    intro z hz
    have := hd z hz
    have hne : ¬ z.st = t := by omega
    simp [hne]
  have hsplit : ∀ t : Int, t ≤ x.st → inStep s x.nm t = (s.sg.take a).filter (fun y => decide (y.st = t) && decide (y.nm = x.nm)) := fun t ht => by
    have e : s.sg = s.sg.take a ++ s.sg.drop a := (List.take_append_drop a s.sg).symm
    unfold inStep
    conv => lhs; rw [e, List.filter_append, key t ht, List.append_nil]
  refine ⟨fun t ht => ?_, ?_⟩
  · rw [hsplit t (by omega)]
    unfold inStep moreS
    rw [List.filter_append, List.filter_append, key t (by omega)]
    have hne : ¬ x.st = (t : Int) := by omega
    simp [hne]
  · rw [hsplit x.st (by omega)]
    unfold inStep moreS
    rw [List.filter_append, List.filter_append, key x.st (by omega)]
    simp
theorem track_cases {w : Wn} {s : Sc} {nm : ByteArray} (h : (trackE w s nm).2.2 = 0) : okW w ∧ okSc s ∧ okT w s nm s.ship.length = true ∧ trackE w s nm = (knL w s nm s.ship.length, whL w s nm s.ship.length, 0) := by
  by_cases h1 : bothE w (chkS s) ≠ 0
  · rw [track_e h1] at h; exact absurd h h1
  by_cases h2 : (ofS s nm).sg.length = 0
  · rw [track_4 h1 h2] at h; cases h
  cases h3 : okT w s nm s.ship.length with
  | false => rw [track_n h1 h2 h3] at h; cases h
  | true =>
    obtain ⟨hw, hs⟩ := both_ok h1
    exact ⟨hw, hs, rfl, track_y h1 h2 h3⟩
theorem more_mem (s : Sc) (a : Nat) (x : Sg) : x ∈ (moreS s a x).sg := by unfold moreS; simp
theorem more_codes {w : Wn} {s : Sc} {a : Nat} {x : Sg} (hw : okW w) (h : (trackE w (moreS s a x) x.nm).2.2 ≠ 0) : (trackE w (moreS s a x) x.nm).2.2 = 61 ∨ (trackE w (moreS s a x) x.nm).2.2 = 62 := by
  by_cases h1 : bothE w (chkS (moreS s a x)) ≠ 0
  · rw [track_e h1]
    left
    rw [bothE_s (chkW_z.2 hw)] at h1 ⊢
    exact chkS_f (fun hh => h1 (chkS_t hh))
  · have h2 := ofS_len (more_mem s a x)
    cases h3 : okT w (moreS s a x) x.nm (moreS s a x).ship.length with
    | false => rw [track_n h1 h2 h3]; exact .inr rfl
    | true => rw [track_y h1 h2 h3] at h; exact absurd rfl h
/-- What the law about a sighting more asks. -/
theorem more_near {w : Wn} {s : Sc} {a : Nat} {x : Sg} (h0 : (trackE w s x.nm).2.2 = 0) (ha : a ≤ s.sg.length) (h : a = s.sg.length ∨ ∃ y, s.sg[a]? = some y ∧ x.st < y.st) (hx : 0 ≤ x.st ∧ x.st < s.ship.length) (h1 : (trackE w (moreS s a x) x.nm).2.2 = 0) :
    ∃ m r, sightedE (moreS s a x) a = (r, 0) ∧ knAt w (moreS s a x) x.nm (x.st.toNat + 1) = some (m, x.st) ∧ meetE m r = (m, 0) ∧ ∀ b, knAt w s x.nm (x.st.toNat + 1) = some b → meetE m b.1 = (m, 0) := by
  obtain ⟨hw, hs, hk, _⟩ := track_cases h0
  obtain ⟨_, hs', hk', _⟩ := track_cases h1
  obtain ⟨i1, i2⟩ := inStep_more hs h
  have hw' := hw
  unfold okW at hw'
  obtain ⟨b1, b2, b3, b4⟩ := hs'.2.2.2.2.2.2.2.1 x (more_mem s a x)
  have hship : (moreS s a x).ship = s.ship := rfl
  have hsm : smallR (atR s.ship x.st.toNat) := by
    obtain ⟨r0, hr0⟩ := get_of_lt s.ship (i := x.st.toNat) (by omega)
    rw [atR_of hr0]; exact hs.2.2.2.2.2.1 r0 (List.mem_of_getElem? hr0)
  obtain ⟨m, r, k1, k2, k3, k4⟩ := nearer (w := w) (s := s) (s' := moreS s a x) (x := x) rfl hs.ships ⟨hsm, by omega⟩ hx.1 (by omega) (by omega) i1 i2 (okT_le hk' (by rw [hship]; omega)) (okT_le hk (by omega))
  refine ⟨m, r, ?_, k1, k3, k4⟩
  have hget : (moreS s a x).sg[((a : Int)).toNat]? = some x := by
    unfold moreS
    simp only [Int.toNat_natCast]
    rw [List.getElem?_append_left (by simp; omega), List.getElem?_append_right (by simp; omega)]
    simp [Nat.min_eq_left ha]
  rw [sightedE_x (fun e => e (chkS_t hs')) hget (by omega), k2]
  rfl

end Go.Proofs.YtaplkoimhecacaaDoor
