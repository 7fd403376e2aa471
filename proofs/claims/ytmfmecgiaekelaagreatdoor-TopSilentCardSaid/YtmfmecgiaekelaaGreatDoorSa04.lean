/-
  Parts of the proof: rules of the engine, walks of functions, plain Lean. No condition.
-/
import Derived.Test.YtmfmecgiaekelaaGreatDoorSa03
import Derived.Defers
namespace Go.Proofs.YtmfmecgiaekelaaGreatDoor
open Go
structure Rl where
  row : Int
  win : Int
  many : Int
  total : Int
def okRl (r : Rl) : Prop := (1 ≤ r.row ∧ r.row ≤ 12) ∧ (1 ≤ r.win ∧ r.win ≤ 12) ∧ (1 ≤ r.many ∧ r.many ≤ r.win) ∧ 1 ≤ r.total ∧ r.total ≤ 256
instance (r : Rl) : Decidable (okRl r) := by unfold okRl; exact inferInstance
def chkRl (r : Rl) : Int := if okRl r then 0 else 54
def cntI (l : List Int) : Nat → Int
  | 0 => 0
  | i + 1 => cntI l i + (if l[i]? = some 1 then 1 else 0)
theorem cntI_step (l : List Int) (i : Nat) : cntI l i ≤ cntI l (i + 1) ∧ cntI l (i + 1) ≤ cntI l i + 1 := by
  simp only [cntI]; split <;> omega
theorem cntI_mono (l : List Int) : ∀ (a d : Nat), cntI l a ≤ cntI l (a + d) ∧ cntI l (a + d) ≤ cntI l a + d
  | a, 0 => by simp
  | a, d + 1 => by
    have h1 := cntI_mono l a d
    have h2 := cntI_step l (a + d)
    rw [show a + (d + 1) = a + d + 1 by omega]; omega
theorem cntI_le (l : List Int) {a b : Nat} (h : a ≤ b) : cntI l a ≤ cntI l b ∧ cntI l b ≤ cntI l a + (b - a) := by
  have := cntI_mono l a (b - a)
  rw [show a + (b - a) = b by omega] at this; omega
theorem cntI_nn (l : List Int) (a : Nat) : 0 ≤ cntI l a ∧ cntI l a ≤ a := by
  have := cntI_mono l 0 a
  rw [Nat.zero_add] at this
  simp only [cntI] at this; omega
theorem cntI_one {l : List Int} {i : Nat} (h : l[i]? = some 1) : cntI l (i + 1) = cntI l i + 1 := by simp only [cntI]; rw [if_pos h]
theorem cntI_zero {l : List Int} {i : Nat} (h : l[i]? ≠ some 1) : cntI l (i + 1) = cntI l i := by simp only [cntI]; rw [if_neg h]; omega
def badT (l : List Int) : Int := cntI l l.length
def longE (r : Rl) (n rule : Int) : Option (Int × Int) := if rule = 1 then some (r.row, r.row - 1) else if rule = 2 then some (min r.win n, r.many - 1) else if rule = 3 then some (n, r.total - 1) else none
theorem long_bd {r : Rl} {n rule a b : Int} (hr : okRl r) (hn : 0 ≤ n ∧ n ≤ 256) (h : longE r n rule = some (a, b)) : 0 ≤ a ∧ a ≤ 256 ∧ 0 ≤ b ∧ b ≤ 256 := by
  unfold okRl at hr
  unfold longE at h
  repeat' split at h
  all_goals first | (cases h; omega) | cases h
def sumF (w : Nat → Int) : Nat → Int
  | 0 => 0
  | i + 1 => sumF w i + w i
theorem sumF_succ (w : Nat → Int) (i : Nat) : sumF w (i + 1) = sumF w i + w i := rfl
structure GoodW (r : Rl) (l : List Int) (w : Nat → Int) : Prop where
  bit : ∀ i, w i = 0 ∨ (w i = 1 ∧ l[i]? = some 1)
  cov : ∀ (rule long allows fr : Int), longE r l.length rule = some (long, allows) → 0 ≤ fr → fr + long ≤ l.length → cntI l (fr + long).toNat - cntI l fr.toNat - allows ≤ sumF w (fr + long).toNat - sumF w fr.toNat
structure Ed where
  a : Int
  b : Int
  least : Int
  rule : Int
  fr : Int
def edgesA : Nat → List Ed
  | 0 => []
  | i + 1 => edgesA i ++ [⟨i, (i : Int) + 1, 0, 0, 0⟩, ⟨(i : Int) + 1, i, -1, 0, 0⟩]
def edgeAt (l : List Int) (rule long allows fr : Int) : List Ed := if cntI l (fr + long).toNat - cntI l fr.toNat > allows then [⟨cntI l fr.toNat, cntI l (fr + long).toNat, cntI l (fr + long).toNat - cntI l fr.toNat - allows, rule, fr⟩] else []
def edgesB (l : List Int) (rule long allows : Int) : Nat → List Ed
  | 0 => []
  | j + 1 => edgesB l rule long allows j ++ edgeAt l rule long allows j
def edgesR (r : Rl) (l : List Int) (rule : Int) : List Ed := match longE r l.length rule with
  | some (long, allows) => edgesB l rule long allows ((l.length : Int) - long + 1).toNat
  | none => []
def edgesQ (r : Rl) (l : List Int) : Nat → List Ed
  | 0 => edgesA (badT l).toNat
  | q + 1 => edgesQ r l q ++ edgesR r l ((q : Int) + 1)
def edgesP (r : Rl) (l : List Int) : List Ed := edgesQ r l 3
def EdOk (N : Int) (e : Ed) : Prop := (0 ≤ e.a ∧ e.a ≤ N) ∧ (0 ≤ e.b ∧ e.b ≤ N) ∧ e.a + e.least ≤ e.b ∧ -1 ≤ e.least ∧ e.least ≤ N
theorem edA_ok {N : Int} : ∀ (i : Nat), (i : Int) ≤ N → ∀ e ∈ edgesA i, EdOk N e
  | 0, _, e, he => by cases he
  | i + 1, h, e, he => by
    simp only [edgesA, List.mem_append, List.mem_cons, List.not_mem_nil, or_false] at he
    rcases he with he | rfl | rfl
    · exact edA_ok i (by omega) e he
    · unfold EdOk; simp only; omega
    · unfold EdOk; simp only; omega
theorem edAt_ok {l : List Int} {rule long allows fr : Int} (hl : 0 ≤ long) (ha : 0 ≤ allows) (h0 : 0 ≤ fr) (h1 : fr + long ≤ l.length) : ∀ e ∈ edgeAt l rule long allows fr, EdOk (badT l) e := by
  intro e he
  unfold edgeAt at he
  split at he
  · rename_i hc
    rw [List.mem_singleton.1 he]
    have c1 := cntI_le l (a := fr.toNat) (b := (fr + long).toNat) (by omega)
    have c2 := cntI_le l (a := (fr + long).toNat) (b := l.length) (by omega)
    have c3 := cntI_nn l fr.toNat
    unfold EdOk badT; simp only; omega
  · cases he
theorem edB_ok {l : List Int} {rule long allows : Int} (hl : 0 ≤ long) (ha : 0 ≤ allows) : ∀ (j : Nat), (j : Int) ≤ (l.length : Int) - long + 1 → ∀ e ∈ edgesB l rule long allows j, EdOk (badT l) e
  | 0, _, e, he => by cases he
  | j + 1, h, e, he => by
    simp only [edgesB, List.mem_append] at he
    rcases he with he | he
    · exact edB_ok hl ha j (by omega) e he
    · exact edAt_ok hl ha (by omega) (by omega) e he
theorem edR_ok {r : Rl} {l : List Int} (hr : okRl r) (hn : l.length ≤ 256) (rule : Int) : ∀ e ∈ edgesR r l rule, EdOk (badT l) e := by
  intro e he
  unfold edgesR at he
  split at he
  · rename_i long allows hlo
    obtain ⟨g1, g2, g3, g4⟩ := long_bd hr ⟨by omega, by omega⟩ hlo
    by_cases hc : 0 ≤ (l.length : Int) - long + 1
    · exact edB_ok g1 g3 _ (by omega) e he
    · rw [show ((l.length : Int) - long + 1).toNat = 0 by omega] at he; cases he
  · cases he
theorem edQ_ok {r : Rl} {l : List Int} (hr : okRl r) (hn : l.length ≤ 256) : ∀ q, ∀ e ∈ edgesQ r l q, EdOk (badT l) e
  | 0, e, he => edA_ok _ (by have := cntI_nn l l.length; unfold badT; omega) e he
  | q + 1, e, he => by
    simp only [edgesQ, List.mem_append] at he
    rcases he with he | he
    · exact edQ_ok hr hn q e he
    · exact edR_ok hr hn _ e he
def valM (M : List Int) (i : Int) : Int := (M[i.toNat]?).getD 0
def wOf (M : List Int) (l : List Int) (i : Nat) : Int := valM M (cntI l (i + 1)) - valM M (cntI l i)
def fixM (M : List Int) (es : List Ed) : Prop := ∀ e ∈ es, valM M e.a + e.least ≤ valM M e.b
theorem edA_mem : ∀ (n i : Nat), i < n → (⟨i, (i : Int) + 1, 0, 0, 0⟩ : Ed) ∈ edgesA n ∧ (⟨(i : Int) + 1, i, -1, 0, 0⟩ : Ed) ∈ edgesA n
  | 0, i, h => by omega
  | n + 1, i, h => by
    simp only [edgesA, List.mem_append, List.mem_cons, List.not_mem_nil, or_false]
    by_cases e : i = n
    · subst e; exact ⟨.inr (.inl rfl), .inr (.inr rfl)⟩
    · obtain ⟨h1, h2⟩ := edA_mem n i (by omega); exact ⟨.inl h1, .inl h2⟩
theorem edB_mem {l : List Int} {rule long allows : Int} {e : Ed} : ∀ (n j : Nat), j < n → e ∈ edgeAt l rule long allows j → e ∈ edgesB l rule long allows n
  | 0, j, h, _ => by omega
  | n + 1, j, h, he => by
    simp only [edgesB, List.mem_append]
    by_cases e' : j = n
    · subst e'; exact .inr he
    · exact .inl (edB_mem n j (by omega) he)
theorem edP_a {r : Rl} {l : List Int} {e : Ed} (h : e ∈ edgesA (badT l).toNat) : e ∈ edgesP r l := by
  unfold edgesP; simp only [edgesQ, List.mem_append]; exact .inl (.inl (.inl h))
theorem edP_r {r : Rl} {l : List Int} {e : Ed} {rule : Int} (h : e ∈ edgesR r l rule) : e ∈ edgesP r l := by
  have hr : rule = 1 ∨ rule = 2 ∨ rule = 3 := by
    unfold edgesR at h
    split at h
    · rename_i hlo
      unfold longE at hlo
      repeat' split at hlo
      all_goals first | omega | cases hlo
    · cases h
  unfold edgesP; simp only [edgesQ, List.mem_append]
  rcases hr with rfl | rfl | rfl
  · exact .inl (.inl (.inr h))
  · exact .inl (.inr h)
  · exact .inr h
theorem fix_step {r : Rl} {l M : List Int} (hf : fixM M (edgesP r l)) (i : Nat) (hi : (i : Int) < badT l) : valM M i ≤ valM M ((i : Int) + 1) ∧ valM M ((i : Int) + 1) ≤ valM M i + 1 := by
  obtain ⟨h1, h2⟩ := edA_mem (badT l).toNat i (by omega)
  have g1 := hf _ (edP_a (r := r) h1)
  have g2 := hf _ (edP_a (r := r) h2)
  simp only at g1 g2
  omega
theorem fix_mono {r : Rl} {l M : List Int} (hf : fixM M (edgesP r l)) : ∀ (d i : Nat), ((i + d : Nat) : Int) ≤ badT l → valM M i ≤ valM M ((i + d : Nat) : Int)
  | 0, i, _ => Int.le_refl _
  | d + 1, i, h => by
    have h1 := fix_mono hf d i (by omega)
    have h2 := (fix_step hf (i + d) (by omega)).1
    have e : ((i + (d + 1) : Nat) : Int) = ((i + d : Nat) : Int) + 1 := by omega
    rw [e]; omega
theorem sum_wOf (M l : List Int) : ∀ i, sumF (wOf M l) i = valM M (cntI l i) - valM M 0
  | 0 => by simp [sumF, cntI]
  | i + 1 => by rw [sumF_succ, sum_wOf M l i]; unfold wOf; omega
theorem wOf_bit {r : Rl} {l M : List Int} (hf : fixM M (edgesP r l)) (i : Nat) (hi : i < l.length) : wOf M l i = 0 ∨ (wOf M l i = 1 ∧ l[i]? = some 1) := by
  by_cases h : l[i]? = some 1
  · have c := cntI_one h
    have c2 := cntI_le l (a := i + 1) (b := l.length) (by omega)
    have c3 := cntI_nn l i
    have := fix_step hf (cntI l i).toNat (by unfold badT; omega)
    rw [show ((cntI l i).toNat : Int) = cntI l i by omega] at this
    unfold wOf; rw [c]
    by_cases e : valM M (cntI l i + 1) - valM M (cntI l i) = 0
    · exact .inl e
    · exact .inr ⟨by omega, h⟩
  · left; unfold wOf; rw [cntI_zero h]; omega
theorem good_of_fix {r : Rl} {l M : List Int} (hr : okRl r) (hn : l.length ≤ 256) (hf : fixM M (edgesP r l)) : GoodW r l (fun i => if i < l.length then wOf M l i else 0) := by
  have hsum : ∀ i, i ≤ l.length → sumF (fun i => if i < l.length then wOf M l i else 0) i = sumF (wOf M l) i := by
    intro i
    induction i with
    | zero => intro _; rfl
    | succ i ih => intro h; rw [sumF_succ, sumF_succ, ih (by omega)]; rw [if_pos (by omega)]
  refine ⟨fun i => ?_, fun rule long allows fr hlo h0 h1 => ?_⟩
  · skip
    split
    · rename_i h; exact wOf_bit hf i h
    · exact .inl rfl
  · obtain ⟨g1, g2, g3, g4⟩ := long_bd hr ⟨by omega, by omega⟩ hlo
    rw [hsum _ (by omega), hsum _ (by omega), sum_wOf, sum_wOf]
    have c1 := cntI_le l (a := fr.toNat) (b := (fr + long).toNat) (by omega)
    have c2 := cntI_le l (a := (fr + long).toNat) (b := l.length) (by omega)
    have c3 := cntI_nn l fr.toNat
    by_cases hc : cntI l (fr + long).toNat - cntI l fr.toNat > allows
    · have hm : (⟨cntI l fr.toNat, cntI l (fr + long).toNat, cntI l (fr + long).toNat - cntI l fr.toNat - allows, rule, fr⟩ : Ed) ∈ edgesR r l rule := by
        unfold edgesR
        rw [hlo]
        refine edB_mem _ fr.toNat (by omega) ?_
        rw [show (fr.toNat : Int) = fr by omega]
        unfold edgeAt; rw [if_pos hc]; simp
      have := hf _ (edP_r hm)
      simp only at this
      omega
    · have := fix_mono hf ((cntI l (fr + long).toNat).toNat - (cntI l fr.toNat).toNat) (cntI l fr.toNat).toNat (by unfold badT; omega)
      rw [show (((cntI l fr.toNat).toNat + ((cntI l (fr + long).toNat).toNat - (cntI l fr.toNat).toNat) : Nat) : Int) = cntI l (fr + long).toNat by omega, show ((cntI l fr.toNat).toNat : Int) = cntI l fr.toNat by omega] at this
      omega
def phiM (M : List Int) : Int := sumF (fun i => (i : Int) - valM M i) M.length
theorem sumF_congr {w w' : Nat → Int} : ∀ {n : Nat}, (∀ i, i < n → w i = w' i) → sumF w n = sumF w' n
  | 0, _ => rfl
  | n + 1, h => by rw [sumF_succ, sumF_succ, sumF_congr (n := n) (fun i hi => h i (by omega)), h n (by omega)]
theorem sumF_upd {w w' : Nat → Int} {b : Nat} {x : Int} (hb : w' b = w b + x) (ho : ∀ i, i ≠ b → w' i = w i) : ∀ {n : Nat}, sumF w' n = sumF w n + (if b < n then x else 0)
  | 0 => by simp [sumF]
  | n + 1 => by
    rw [sumF_succ, sumF_succ, sumF_upd hb ho (n := n)]
    by_cases e : b = n
    · subst e; rw [hb, if_neg (by omega), if_pos (by omega)]; omega
    · rw [ho n (by omega)]
      by_cases e2 : b < n
      · rw [if_pos e2, if_pos (by omega)]; omega
      · rw [if_neg e2, if_neg (by omega)]; omega
theorem sumF_nn {w : Nat → Int} : ∀ {n : Nat}, (∀ i, i < n → 0 ≤ w i) → 0 ≤ sumF w n
  | 0, _ => Int.le_refl _
  | n + 1, h => by have h1 := sumF_nn (n := n) (fun i hi => h i (by omega)); have h2 := h n (by omega); rw [sumF_succ]; omega
theorem valM_set {M : List Int} {b : Nat} {x : Int} (hb : b < M.length) (i : Int) (hi : 0 ≤ i) : valM (M.set b x) i = if i = b then x else valM M i := by
  unfold valM
  rw [List.getElem?_set]
  by_cases e : i = b
  · rw [if_pos e, if_pos (by omega), if_pos (by omega)]; rfl
  · rw [if_neg e, if_neg (by omega)]
def OkM (N : Int) (M : List Int) : Prop := (M.length : Int) = N + 1 ∧ ∀ i : Nat, (i : Int) ≤ N → -N - 1 ≤ valM M i ∧ valM M i ≤ i
theorem phi_nn {N : Int} {M : List Int} (h : OkM N M) : 0 ≤ phiM M := sumF_nn fun i hi => by have := (h.2 i (by have := h.1; omega)).2; omega
theorem okM_set {N : Int} {M : List Int} {e : Ed} (h : OkM N M) (he : EdOk N e) (hc : valM M e.a + e.least > valM M e.b) : OkM N (M.set e.b.toNat (valM M e.a + e.least)) ∧ phiM (M.set e.b.toNat (valM M e.a + e.least)) < phiM M := by
  obtain ⟨h1, h2⟩ := h
  unfold EdOk at he
  have hb : e.b.toNat < M.length := by omega
  have ha := h2 e.a.toNat (by omega)
  have hbb := h2 e.b.toNat (by omega)
  rw [show (e.a.toNat : Int) = e.a by omega] at ha
  rw [show (e.b.toNat : Int) = e.b by omega] at hbb
  refine ⟨⟨by rw [List.length_set]; exact h1, fun i hi => ?_⟩, ?_⟩
  · rw [valM_set hb _ (by omega)]
    split
    · omega
    · exact h2 i hi
  · unfold phiM
    rw [List.length_set, sumF_upd (w := fun i => (i : Int) - valM M i) (b := e.b.toNat) (x := valM M e.b - (valM M e.a + e.least)) (by rw [valM_set hb _ (by omega), if_pos rfl, show ((e.b.toNat : Nat) : Int) = e.b by omega]; omega) (fun i hi => by rw [valM_set hb _ (by omega), if_neg (by omega)]), if_pos hb]
    omega
def dotF (K : List Int) (w : Nat → Int) (n : Nat) : Int := sumF (fun i => valM K i * w i) n
theorem dot_set {K : List Int} {b : Nat} {w : Nat → Int} (hb : b < K.length) (n : Nat) : dotF (K.set b (valM K b + 1)) w n = dotF K w n + (if b < n then w b else 0) := by
  unfold dotF
  exact sumF_upd (w := fun i => valM K i * w i) (b := b) (x := w b) (by rw [valM_set hb _ (by omega), if_pos rfl, Int.add_mul, Int.one_mul]) (fun i hi => by rw [valM_set hb _ (by omega), if_neg (by omega)])
structure BdI (r : Rl) (l : List Int) (j : Nat) (K : List Int) (nn : Int) : Prop where
  len : K.length = l.length
  kb : ∀ i : Nat, 0 ≤ valM K i ∧ valM K i ≤ j
  nb : -(257 * (j : Int)) ≤ nn ∧ nn ≤ 257 * j
  le : ∀ w, GoodW r l w → nn ≤ dotF K w l.length
structure BdJ (l : List Int) (j : Nat) (K0 K : List Int) (fr i : Nat) : Prop where
  len : K.length = l.length
  kb : ∀ t : Nat, 0 ≤ valM K t ∧ valM K t ≤ j + 1
  kc : ∀ t : Nat, i ≤ t → valM K t ≤ j
  ds : ∀ w, dotF K w l.length = dotF K0 w l.length + (sumF w i - sumF w fr)
theorem BdJ.first {r : Rl} {l : List Int} {j : Nat} {K : List Int} {nn : Int} (h : BdI r l j K nn) (fr : Nat) : BdJ l j K K fr fr :=
  ⟨h.len, fun t => by have := h.kb t; omega, fun t _ => (h.kb t).2, fun w => by omega⟩
theorem BdJ.next {l : List Int} {j : Nat} {K0 K : List Int} {fr i : Nat} (h : BdJ l j K0 K fr i) (hi : i < l.length) : BdJ l j K0 (K.set i (valM K i + 1)) fr (i + 1) := by
  have hl : i < K.length := by rw [h.len]; exact hi
  refine ⟨by rw [List.length_set]; exact h.len, fun t => ?_, fun t ht => ?_, fun w => ?_⟩
  · rw [valM_set hl _ (by omega)]
    have h1 := h.kb t
    have h2 := h.kb i
    have h3 := h.kc i (Nat.le_refl _)
    split <;> omega
  · rw [valM_set hl _ (by omega), if_neg (by omega)]; exact h.kc t (by omega)
  · rw [dot_set hl, if_pos hi, h.ds w, sumF_succ]; omega
theorem BdJ.last {r : Rl} {l : List Int} {j : Nat} {K0 K : List Int} {nn rule long allows fr : Int} (hr : okRl r) (hn : l.length ≤ 256) (h0 : BdI r l j K0 nn) (hlo : longE r l.length rule = some (long, allows)) (hf : 0 ≤ fr) (ht : fr + long ≤ l.length) (h : BdJ l j K0 K fr.toNat (fr + long).toNat) :
    BdI r l (j + 1) K (nn + (cntI l (fr + long).toNat - cntI l fr.toNat - allows)) := by
  obtain ⟨g1, g2, g3, g4⟩ := long_bd hr ⟨by omega, by omega⟩ hlo
  have c1 := cntI_le l (a := fr.toNat) (b := (fr + long).toNat) (by omega)
  have c2 := cntI_nn l (fr + long).toNat
  have c3 := cntI_nn l fr.toNat
  have hb := h0.nb
  refine ⟨h.len, fun i => by have := h.kb i; omega, ⟨by omega, by omega⟩, fun w hw => ?_⟩
  rw [h.ds w]
  have := h0.le w hw
  have := hw.cov rule long allows fr hlo hf ht
  omega
structure BdK (r : Rl) (l : List Int) (J : Nat) (K : List Int) (i : Nat) (n : Int) : Prop where
  nb : -(257 * (J : Int)) - (J : Int) * i ≤ n ∧ n ≤ 257 * J
  le : ∀ w, GoodW r l w → n ≤ sumF w i + (dotF K w l.length - dotF K w i)
theorem BdK.first {r : Rl} {l : List Int} {J : Nat} {K : List Int} {nn : Int} (h : BdI r l J K nn) : BdK r l J K 0 nn :=
  ⟨by have := h.nb; simp; omega, fun w hw => by have := h.le w hw; simp only [dotF, sumF] at *; omega⟩
theorem BdK.keep {r : Rl} {l : List Int} {J : Nat} {K : List Int} {i : Nat} {n nn : Int} (h0 : BdI r l J K nn) (h : BdK r l J K i n) (hc : ¬ (l[i]? = some 1 ∧ 0 < valM K i)) : BdK r l J K (i + 1) n := by
  refine ⟨?_, fun w hw => ?_⟩
  · have := h.nb
    have e : (J : Int) * ((i + 1 : Nat) : Int) = (J : Int) * i + J := by rw [show ((i + 1 : Nat) : Int) = (i : Int) + 1 by omega, Int.mul_add, Int.mul_one]
    rw [e]; omega
  · have h1 := h.le w hw
    have hk := h0.kb i
    have e : dotF K w (i + 1) = dotF K w i + valM K i * w i := rfl
    rw [sumF_succ, e]
    rcases hw.bit i with g | ⟨g, g2⟩
    · rw [g, Int.mul_zero]; omega
    · have : valM K i = 0 := by have : ¬ 0 < valM K i := fun hh => hc ⟨g2, hh⟩; omega
      rw [g, this, Int.zero_mul]; omega
theorem BdK.take {r : Rl} {l : List Int} {J : Nat} {K : List Int} {i : Nat} {n nn : Int} (h0 : BdI r l J K nn) (h : BdK r l J K i n) (hc : 0 < valM K i) : BdK r l J K (i + 1) (n - (valM K i - 1)) := by
  have hk := h0.kb i
  refine ⟨?_, fun w hw => ?_⟩
  · have := h.nb
    have e : (J : Int) * ((i + 1 : Nat) : Int) = (J : Int) * i + J := by rw [show ((i + 1 : Nat) : Int) = (i : Int) + 1 by omega, Int.mul_add, Int.mul_one]
    rw [e]; omega
  · have h1 := h.le w hw
    have e : dotF K w (i + 1) = dotF K w i + valM K i * w i := rfl
    rw [sumF_succ, e]
    rcases hw.bit i with g | ⟨g, g2⟩
    · rw [g, Int.mul_zero]; omega
    · rw [g, Int.mul_one]; omega
theorem BdK.last {r : Rl} {l : List Int} {J : Nat} {K : List Int} {n : Int} (h : BdK r l J K l.length n) : ∀ w, GoodW r l w → n ≤ sumF w l.length := fun w hw => by have := h.le w hw; omega
end Go.Proofs.YtmfmecgiaekelaaGreatDoor
namespace Go.Proofs.YtmfmecgiaekelaaGreatDoor
open Go
structure Ps where
  pt : Pt
  oc : Int
  deriving DecidableEq
structure Cz where
  lines : List (Pt × Pt)
  fields : List (List Pt)
  buoys : List Pt
  spread : Rg
  start : Ps
  speed : Int
  turn : Int
  opens : List (List Bd)
def okPs (p : Ps) : Prop := p.pt.ok ∧ 0 ≤ p.oc ∧ p.oc ≤ 7
instance (p : Ps) : Decidable (okPs p) := by unfold okPs; exact inferInstance
def winFrom : Int → List Bd → Bool
  | _, [] => true
  | h, b :: r => decide (0 ≤ b.lo ∧ h < b.lo ∧ b.lo ≤ b.hi ∧ b.hi ≤ 1048576) && winFrom b.hi r
def winB (l : List Bd) : Bool := decide (l.length ≤ 4) && winFrom (-1) l
def okCz (c : Cz) : Prop := (1 ≤ c.lines.length ∧ c.lines.length ≤ 5) ∧ c.fields.length ≤ 4 ∧ c.buoys.length ≤ 4 ∧ c.opens.length = c.lines.length ∧
  (∀ l ∈ c.lines, l.1.ok ∧ l.2.ok ∧ l.1 ≠ l.2) ∧ (∀ l ∈ c.opens, winB l = true) ∧ (∀ f ∈ c.fields, fieldB f = true) ∧ (∀ p ∈ c.buoys, p.ok) ∧ (tightE c.spread).2 = 0 ∧ c.spread.x.hi - c.spread.x.lo ≤ 256 ∧ c.spread.y.hi - c.spread.y.lo ≤ 256 ∧ okPs c.start ∧ (1 ≤ c.speed ∧ c.speed ≤ 1000) ∧ 0 ≤ c.turn ∧ c.turn ≤ 1000
def octV (v : Pt) : Int :=
  if ¬ ((-131072 ≤ v.x ∧ v.x ≤ 131072) ∧ -131072 ≤ v.y ∧ v.y ≤ 131072) then 0
  else if 0 ≤ v.y ∧ 0 ≤ v.x - v.y then 0 else if 0 ≤ v.x ∧ v.x - v.y ≤ 0 then 1 else if v.x ≤ 0 ∧ 0 ≤ v.x + v.y then 2 else if 0 ≤ v.y ∧ v.x + v.y ≤ 0 then 3
  else if v.y ≤ 0 ∧ v.x - v.y ≤ 0 then 4 else if v.x ≤ 0 ∧ 0 ≤ v.x - v.y then 5 else if 0 ≤ v.x ∧ v.x + v.y ≤ 0 then 6 else 7
theorem octV_bd (v : Pt) : 0 ≤ octV v ∧ octV v ≤ 7 := by
  unfold octV
  repeat' split
  all_goals omega
def turnE (a b : Int) : Int := min ((b - a + 8).tmod 8) (8 - (b - a + 8).tmod 8)
def subP (p q : Pt) : Pt := ⟨q.x - p.x, q.y - p.y⟩
def rootUp (q : Int) : Int := if (rootE q).1 * (rootE q).1 < q then (rootE q).1 + 1 else (rootE q).1
def stepsC (c : Cz) (a b : Pt) : Int := (rootUp (d2 a b) + c.speed - 1).tdiv c.speed
def clearB (c : Cz) (a b : Pt) : Bool := decide ((sweptE c.spread a b).2 = 0) && !c.fields.any fun f => decide ((hitE f (sweptE c.spread a b).1).2 = 0)
def costL (c : Cz) (to : Int) : Pt → List Pt → Int → Int → Option Int
  | _, [], o, n => some (n + c.turn * turnE o to)
  | p, q :: r, o, n => if p = q ∨ clearB c p q = false then none else costL c to q r (octV (subP p q)) (n + (stepsC c p q + c.turn * turnE o (octV (subP p q))))
def costP (c : Cz) (l : List Pt) (o to : Int) : Option Int := match l with
  | [] => some (0 + c.turn * turnE o to)
  | p :: r => costL c to p r o 0
def nextP (c : Cz) (b : Pt) : Nat → List Pt → Nat → List (List Pt)
  | 0, l, _ => [l ++ [b]]
  | k + 1, l, used => (l ++ [b]) :: (List.range c.buoys.length).flatMap fun i => if used.testBit i = true then [] else match c.buoys[i]? with | some p => nextP c b k (l ++ [p]) (used ||| 1 <<< i) | none => []
def triedP (c : Cz) (a b : Ps) : List (List Pt) := (if a.pt = b.pt then [[a.pt]] else []) ++ nextP c b.pt c.buoys.length [a.pt] 0
def passP (c : Cz) (a b : Ps) : List (List Pt × Int) := (triedP c a b).filterMap fun l => (costP c l a.oc b.oc).map fun n => (l, n)
def chain : Pt → List Pt → Prop
  | _, [] => True
  | p, q :: r => p ≠ q ∧ chain q r
theorem costL_chain {c : Cz} {to : Int} : ∀ {l : List Pt} {p : Pt} {o n m : Int}, costL c to p l o n = some m → chain p l
  | [], _, _, _, _, _ => True.intro
  | q :: r, p, o, n, m, h => by
    simp only [costL] at h
    split at h
    · cases h
    · rename_i hn
      exact ⟨fun e => hn (.inl e), costL_chain h⟩
theorem next_ok {c : Cz} {b : Pt} (hb : b.ok) (hu : ∀ p ∈ c.buoys, p.ok) : ∀ (k : Nat) (l : List Pt) (used : Nat), (∀ p ∈ l, p.ok) → ∀ m ∈ nextP c b k l used, ∀ p ∈ m, p.ok
  | 0, l, used, hl, m, hm, p, hp => by
    simp only [nextP, List.mem_singleton] at hm
    subst hm
    rcases List.mem_append.1 hp with h | h
    · exact hl p h
    · rw [List.mem_singleton.1 h]; exact hb
  | k + 1, l, used, hl, m, hm, p, hp => by
    simp only [nextP, List.mem_cons] at hm
    rcases hm with rfl | hm
    · rcases List.mem_append.1 hp with h | h
      · exact hl p h
      · rw [List.mem_singleton.1 h]; exact hb
    · obtain ⟨i, _, hi⟩ := List.mem_flatMap.1 hm
      split at hi
      · cases hi
      · split at hi
        · rename_i q hq
          refine next_ok hb hu k _ _ (fun z hz => ?_) m hi p hp
          rcases List.mem_append.1 hz with h | h
          · exact hl z h
          · rw [List.mem_singleton.1 h]; exact hu q (List.mem_of_getElem? hq)
        · cases hi
theorem pass_ok {c : Cz} {a b : Ps} (ha : a.pt.ok) (hb : b.pt.ok) (hu : ∀ p ∈ c.buoys, p.ok) {x : List Pt × Int} (hx : x ∈ passP c a b) : (∀ p ∈ x.1, p.ok) ∧ ∀ p r, x.1 = p :: r → chain p r := by
  obtain ⟨l, hl, hm⟩ := List.mem_filterMap.1 hx
  obtain ⟨n, hn, rfl⟩ := Option.map_eq_some_iff.1 hm
  refine ⟨fun p hp => ?_, fun p r hr => ?_⟩
  · rcases List.mem_append.1 hl with h | h
    · split at h
      · rw [List.mem_singleton.1 h] at hp; rw [List.mem_singleton.1 hp]; exact ha
      · cases h
    · exact next_ok hb hu _ _ _ (fun z hz => by rw [List.mem_singleton.1 hz]; exact ha) l h p hp
  · simp only at hr
    subst hr
    exact costL_chain hn
def beforeP (a b : Pt) : Int := if a.x ≠ b.x then a.x - b.x else a.y - b.y
def cmpP : List Pt → List Pt → Int
  | [], [] => 0
  | [], _ :: _ => -1
  | _ :: _, [] => 1
  | a :: r, b :: s => if beforeP a b ≠ 0 then beforeP a b else cmpP r s
def lessP (x y : List Pt × Int) : Bool := if x.2 ≠ y.2 then decide (x.2 < y.2) else if x.1.length ≠ y.1.length then decide (x.1.length < y.1.length) else decide (cmpP x.1 y.1 < 0)
def firstL {α : Type} (less : α → α → Bool) : Option α → List α → Option α
  | b, [] => b
  | none, x :: r => firstL less (some x) r
  | some b, x :: r => firstL less (some (if less x b = true then x else b)) r
def bestP (c : Cz) (a b : Ps) : Option (List Pt × Int) := firstL lessP none (passP c a b)
theorem firstL_mem {α : Type} {less : α → α → Bool} : ∀ {l : List α} {b : Option α} {x : α}, firstL less b l = some x → b = some x ∨ x ∈ l
  | [], b, x, h => .inl h
  | y :: r, none, x, h => by
    rcases firstL_mem (l := r) h with h | h
    · cases h; exact .inr (by simp)
    · exact .inr (by simp [h])
  | y :: r, some b, x, h => by
    rcases firstL_mem (l := r) h with h | h
    · by_cases hl : less y b = true
      · rw [if_pos hl] at h; cases h; exact .inr (by simp)
      · rw [if_neg hl] at h; exact .inl h
    · exact .inr (by simp [h])
theorem firstL_snoc {α : Type} {less : α → α → Bool} : ∀ (l : List α) (b : Option α) (x : α), firstL less b (l ++ [x]) = firstL less (firstL less b l) [x]
  | [], none, x => rfl
  | [], some b, x => rfl
  | y :: r, none, x => firstL_snoc r (some y) x
  | y :: r, some b, x => firstL_snoc r _ x
end Go.Proofs.YtmfmecgiaekelaaGreatDoor
namespace Go.Proofs.YtmfmecgiaekelaaGreatDoor
open Go
abbrev EnA := Ent ByteArray (Rg × Int)
def ageE (w : Wn) (s : Sc) (t : Int) (e : EnA) : Option EnA := (ageK w s t e.k (some e.v)).map fun v => ⟨e.k, v, e.b⟩
def stepE (w : Wn) (s : Sc) (t : Int) (seen : Array Nat) (e : EnA) : Option EnA := if seen.contains e.b = true then ageE w s t e else some e
def agedM (w : Wn) (s : Sc) (t : Int) (seen : Array Nat) (l : List EnA) : List EnA := l.filterMap (stepE w s t seen)
section
variable {w : Wn} {s : Sc} {t : Int} {seen : Array Nat}
theorem stepE_kb {e e' : EnA} (h : stepE w s t seen e = some e') : e'.k = e.k ∧ e'.b = e.b := by
  unfold stepE ageE at h
  split at h
  · obtain ⟨v, _, h2⟩ := Option.map_eq_some_iff.1 h
    subst h2; exact ⟨rfl, rfl⟩
  · cases h; exact ⟨rfl, rfl⟩
theorem agedM_cons (x : EnA) (l : List EnA) : agedM w s t seen (x :: l) = (match stepE w s t seen x with | some y => y :: agedM w s t seen l | none => agedM w s t seen l) := by
  unfold agedM; rw [List.filterMap_cons]; cases stepE w s t seen x <;> rfl
theorem agedM_nil (l : List EnA) : agedM w s t #[] l = l := by
  induction l with
  | nil => rfl
  | cons x l ih => rw [agedM_cons, ih]; simp [stepE]
theorem agedM_ks : ∀ (l : List EnA), ((agedM w s t seen l).map Ent.k).Sublist (l.map Ent.k) ∧ ((agedM w s t seen l).map Ent.b).Sublist (l.map Ent.b)
  | [] => ⟨.slnil, .slnil⟩
  | x :: l => by
    have ih := agedM_ks l
    rw [agedM_cons]
    cases h : stepE w s t seen x with
    | none => exact ⟨ih.1.cons _, ih.2.cons _⟩
    | some y =>
      obtain ⟨h1, h2⟩ := stepE_kb h
      simp only [List.map_cons, h1, h2]
      exact ⟨ih.1.cons_cons _, ih.2.cons_cons _⟩
theorem agedM_wf {l : List EnA} {c : Nat} (h : wfM l c) : wfM (agedM w s t seen l) c := by
  obtain ⟨h1, h2⟩ := agedM_ks (w := w) (s := s) (t := t) (seen := seen) l
  refine ⟨h.ks.sublist h1, h.bs.sublist h2, fun e he => ?_⟩
  have : e.b ∈ l.map Ent.b := h2.subset (List.mem_map.2 ⟨e, he, rfl⟩)
  obtain ⟨e', h3, h4⟩ := List.mem_map.1 this
  rw [← h4]; exact h.lt e' h3
theorem cont_push (a b : Nat) : (seen.push a).contains b = (seen.contains b || b == a) := Array.contains_push ..
theorem agedM_other {a : Nat} : ∀ {l : List EnA}, a ∉ l.map Ent.b → agedM w s t (seen.push a) l = agedM w s t seen l
  | [], _ => rfl
  | x :: l, h => by
    have hx : x.b ≠ a := fun e => h (by simp [e])
    rw [agedM_cons, agedM_cons, agedM_other (fun e => h (by simp [e]))]
    have : stepE w s t (seen.push a) x = stepE w s t seen x := by unfold stepE; rw [cont_push]; simp [hx]
    rw [this]
theorem agedM_mem {e : EnA} (h0 : seen.contains e.b = false) : ∀ {l : List EnA}, e ∈ agedM w s t seen l → e ∈ l
  | [], h => by cases h
  | x :: l, h => by
    rw [agedM_cons] at h
    cases hs : stepE w s t seen x with
    | none => rw [hs] at h; exact List.mem_cons_of_mem _ (agedM_mem h0 h)
    | some y =>
      rw [hs] at h
      rcases List.mem_cons.1 h with rfl | h
      · obtain ⟨_, h2⟩ := stepE_kb hs
        unfold stepE at hs
        rw [← h2, h0] at hs
        simp at hs
        simp [hs]
      · exact List.mem_cons_of_mem _ (agedM_mem h0 h)
theorem mem_agedM {e : EnA} (h0 : seen.contains e.b = false) {l : List EnA} (h : e ∈ l) : e ∈ agedM w s t seen l := by
  unfold agedM
  refine List.mem_filterMap.2 ⟨e, h, ?_⟩
  unfold stepE
  rw [h0]; simp
theorem agedM_push {e : EnA} (h0 : seen.contains e.b = false) (c : Nat) : ∀ {l : List EnA}, (l.map Ent.k).Nodup → (l.map Ent.b).Nodup → e ∈ l →
    agedM w s t (seen.push e.b) l = match ageK w s t e.k (some e.v) with | some v => mput e.k v c (agedM w s t seen l) | none => mdel e.k (agedM w s t seen l)
  | [], _, _, h => by cases h
  | x :: l, hk, hb, h => by
    simp only [List.map_cons, List.nodup_cons] at hk hb
    have hse : ∀ a, stepE w s t (seen.push a) e = stepE w s t (seen.push a) e := fun _ => rfl
    rw [agedM_cons, agedM_cons]
    rcases List.mem_cons.1 h with rfl | h
    · rw [agedM_other hb.1]
      have h1 : stepE w s t (seen.push e.b) e = ageE w s t e := by unfold stepE; rw [cont_push]; simp
      have h2 : stepE w s t seen e = some e := by unfold stepE; rw [h0]; simp
      rw [h1, h2]
      unfold ageE
      cases ageK w s t e.k (some e.v) with
      | none => simp [mdel]
      | some v => simp [mput]
    · have hxb : x.b ≠ e.b := fun he => hb.1 (he ▸ List.mem_map.2 ⟨e, h, rfl⟩)
      have hxk : x.k ≠ e.k := fun he => hk.1 (he ▸ List.mem_map.2 ⟨e, h, rfl⟩)
      have h1 : stepE w s t (seen.push e.b) x = stepE w s t seen x := by unfold stepE; rw [cont_push]; simp [hxb]
      rw [h1, agedM_push h0 c hk.2 hb.2 h]
      cases hs : stepE w s t seen x with
      | none => rfl
      | some y =>
        obtain ⟨hy, _⟩ := stepE_kb hs
        have hyk : ¬ e.k = y.k := fun he => hxk (by rw [← hy]; exact he.symm)
        cases ageK w s t e.k (some e.v) with
        | none => simp [mdel, hyk]
        | some v => simp [mput, hyk]
theorem filterMap_same {α β : Type} {f g : α → Option β} : ∀ {l : List α}, (∀ x ∈ l, f x = g x) → l.filterMap f = l.filterMap g
  | [], _ => rfl
  | x :: l, h => by rw [List.filterMap_cons, List.filterMap_cons, h x (by simp), filterMap_same (fun y hy => h y (by simp [hy]))]
theorem agedM_all {l : List EnA} (h : ∀ e ∈ agedM w s t seen l, seen.contains e.b = true) : agedM w s t seen l = l.filterMap (ageE w s t) := by
  unfold agedM
  refine filterMap_same fun e he => ?_
  unfold stepE
  cases hc : seen.contains e.b with
  | true => simp
  | false => have := h e (mem_agedM hc he); rw [hc] at this; cases this
theorem mget_aged (nm : ByteArray) : ∀ {l : List EnA}, (l.map Ent.k).Nodup → mget nm (l.filterMap (ageE w s t)) = ageK w s t nm (mget nm l)
  | [], _ => rfl
  | x :: l, hk => by
    simp only [List.map_cons, List.nodup_cons] at hk
    have ih := mget_aged nm hk.2
    rw [List.filterMap_cons, mget_cons]
    by_cases h : nm = x.k
    · rw [if_pos h]
      subst h
      have hno : mget x.k l = none := mget_none.2 hk.1
      cases ha : ageK w s t x.k (some x.v) with
      | none =>
        have hx : ageE w s t x = none := by unfold ageE; rw [ha]; rfl
        rw [hx]; simp only; rw [ih, hno]; rfl
      | some v =>
        have hx : ageE w s t x = some ⟨x.k, v, x.b⟩ := by unfold ageE; rw [ha]; rfl
        rw [hx]; simp only; rw [mget_cons, if_pos rfl]
    · rw [if_neg h]
      cases ha : ageE w s t x with
      | none => exact ih
      | some y =>
        have hy : y.k = x.k := by
          unfold ageE at ha
          obtain ⟨v, _, h2⟩ := Option.map_eq_some_iff.1 ha
          rw [← h2]
        simp only
        rw [mget_cons, if_neg (by rw [hy]; exact h)]
        exact ih
end
theorem unseen_lt {l : List EnA} {seen : Array Nat} {e : EnA} (he : e ∈ l) (h0 : seen.contains e.b = false) : (l.filter fun x => !(seen.push e.b).contains x.b).length < (l.filter fun x => !seen.contains x.b).length :=
  filter_lt (fun x : EnA => !seen.contains x.b) (fun x => !(seen.push e.b).contains x.b) (fun x hx => by
    rw [cont_push] at hx
    cases hc : seen.contains x.b with
    | false => rfl
    | true => rw [hc, Bool.true_or] at hx; exact absurd hx (by decide)) e (by rw [h0]; rfl) (by rw [cont_push, beq_self_eq_true, Bool.or_true]; rfl) l he
def flwF (w : Wn) (s : Sc) : Nat → Nat → List (Nat × Bool)
  | 0, _ => []
  | k + 1, t => match Kst w s (t + 1) with
    | some _ => (t, true) :: flwF w s k (t + 1)
    | none => [(t, false)]
def preL (t : Nat) : List (Nat × Bool) := (List.range t).map fun j => (j, true)
theorem preL_succ (t : Nat) : preL (t + 1) = preL t ++ [(t, true)] := by unfold preL; rw [List.range_succ]; simp
theorem Kst_le {w : Wn} {s : Sc} {n : Nat} {K : Kf} (h : Kst w s (n + 1) = some K) : ∃ K0, Kst w s n = some K0 := by
  simp only [Kst] at h
  cases hk : Kst w s n with
  | none => rw [hk] at h; cases h
  | some K0 => exact ⟨K0, rfl⟩
theorem flw_split {w : Wn} {s : Sc} {n : Nat} : ∀ {t : Nat} {K : Kf}, Kst w s t = some K → t ≤ n → flwF w s n 0 = preL t ++ flwF w s (n - t) t
  | 0, _, _, _ => by simp [preL]
  | t + 1, K, h, ht => by
    obtain ⟨K0, h0⟩ := Kst_le h
    rw [flw_split h0 (by omega), preL_succ, show n - t = (n - (t + 1)) + 1 by omega]
    simp only [flwF, h, List.append_assoc, List.singleton_append]
theorem flw_end {w : Wn} {s : Sc} {n : Nat} {K : Kf} (h : Kst w s n = some K) : flwF w s n 0 = preL n := by
  rw [flw_split h (Nat.le_refl n), Nat.sub_self]; simp [flwF]
theorem flw_at {w : Wn} {s : Sc} {n t : Nat} {K : Kf} (h : Kst w s t = some K) (ht : t < n) : ∃ post, flwF w s n 0 = preL t ++ (t, (Kst w s (t + 1)).isSome) :: post ∧ ((Kst w s (t + 1)).isSome = false → post = []) := by
  rw [flw_split h (by omega), show n - t = (n - (t + 1)) + 1 by omega]
  simp only [flwF]
  cases hk : Kst w s (t + 1) with
  | none => exact ⟨[], rfl, fun _ => rfl⟩
  | some K1 => exact ⟨_, rfl, fun e => by cases e⟩
theorem seeF_snoc {s : Sc} {t : Int} : ∀ (L : List Sg) (K : Kf) (x : Sg), seeF s t K (L ++ [x]) = match seeF s t K L with | none => none | some K' => seeF s t K' [x]
  | [], K, x => rfl
  | y :: r, K, x => by
    simp only [List.cons_append, seeF]
    split
    · exact seeF_snoc r K x
    · cases seeP s (K y.nm) y with
      | none => rfl
      | some k => exact seeF_snoc r _ x
theorem seeF_one {s : Sc} {t : Int} {K : Kf} {x : Sg} : seeF s t K [x] = if x.st ≠ t then some K else match seeP s (K x.nm) x with | none => none | some k => some (fun n => if n = x.nm then k else K n) := by
  simp only [seeF] <;> (split <;> first | rfl | (cases seeP s (K x.nm) x <;> rfl))
theorem seeF_known {s : Sc} {t : Int} {K K' : Kf} {L : List Sg} (h : seeF s t K L = some K') {x : Sg} (hx : x ∈ L) (ht : x.st = t) : ∃ a, K' x.nm = some a := by
  have h1 := seeF_some h x.nm
  have hne : inL L x.nm t ≠ [] := List.ne_nil_of_mem (mem_inL.2 ⟨hx, ht, rfl⟩)
  obtain ⟨r, hr⟩ := seesP_last hne (fun y hy => (mem_inL.1 hy).2.1) h1
  exact ⟨_, hr⟩
end Go.Proofs.YtmfmecgiaekelaaGreatDoor
namespace Go.Proofs.YtmfmecgiaekelaaGreatDoor
open Go
theorem sq_abs {y h : Int} (h1 : -h ≤ y ∧ y ≤ h) : y * y ≤ h * h := by
  rcases Int.le_total 0 y with g | g
  · exact Int.mul_le_mul h1.2 h1.2 g (by omega)
  · have := Int.mul_le_mul (show -y ≤ h by omega) (show -y ≤ h by omega) (show 0 ≤ -y by omega) (by omega)
    rwa [Int.neg_mul_neg] at this
end Go.Proofs.YtmfmecgiaekelaaGreatDoor
namespace Go.Proofs.YtmfmecgiaekelaaGreatDoor
open Go
theorem rootUp_spec {q : Int} (h0 : 0 ≤ q) (h1 : q ≤ 1099511627776) : 0 ≤ rootUp q ∧ q ≤ rootUp q * rootUp q ∧ (0 < q → 0 < rootUp q) ∧ rootUp q ≤ 1048577 := by
  have e0 : rootE q = (rootP q, 0) := by unfold rootE; rw [if_pos ⟨h0, h1⟩]
  unfold rootUp
  rw [e0]
  simp only
  have hr := rootP_is h0
  unfold IsRt at hr
  obtain ⟨h2, h3, h4⟩ := hr
  have hb : rootP q ≤ 1048576 := by
    rcases Int.lt_or_le 1048576 (rootP q) with h | h
    · have := Int.mul_le_mul (show (1048577 : Int) ≤ rootP q by omega) (show (1048577 : Int) ≤ rootP q by omega) (by omega) (by omega)
      omega
    · exact h
  split
  · refine ⟨by omega, ?_, fun _ => by omega, by omega⟩
    have : (rootP q + 1) * (rootP q + 1) = rootP q * rootP q + 2 * rootP q + 1 := by grind
    have : (rootP q + 1) * (rootP q + 1) > q := h4
    omega
  · refine ⟨h2, by omega, fun hq => ?_, by omega⟩
    rcases Int.lt_or_le 0 (rootP q) with h | h
    · exact h
    · have e : rootP q = 0 := by omega
      have e2 : rootP q * rootP q = 0 := by rw [e]; rfl
      omega
end Go.Proofs.YtmfmecgiaekelaaGreatDoor
namespace Go.Proofs.YtmfmecgiaekelaaGreatDoor
open Go
section
variable {P : Program} {f : FuncId} {ro : Option Nat} {N : Nat} {k : List Item} {E : Env} {D : List Deferred} {H : Heap} {Q : Out → Heap → Prop}
def VItK {α : Type} (P : Program) (kf : FuncId) (caps : List Value) (X : α → List Value → Heap → Prop) (xs : List α) (Hi : Heap) (R : Heap → Prop) : Prop :=
  ∀ (yf : Fn) (ya yc : Array Value) (J : List α → Heap → Prop) (Jx : Heap → Prop) (Hc : Heap), J [] Hc →
    (∀ pre x post, xs = pre ++ x :: post → ∀ vs Hx H1, X x vs Hx → J pre H1 → VY P (.func yf ya yc) vs (Hx ++ H1) (fun b H2 => if b = true then J (pre ++ [x]) H2 else Jx H2)) →
    VCall P kf (Value.func yf ya yc :: caps).toArray (Hi ++ Hc) (fun o H' => o = .val (.tuple #[]) ∧ ∃ Hi' Hc', H' = Hi' ++ Hc' ∧ R Hi' ∧ (J xs Hc' ∨ Jx Hc'))
theorem vrangeK {α : Type} {X : α → List Value → Heap → Prop} {xs : List α} {kf : FuncId} {caps : List Value} {Hi Hc : Heap} {R : Heap → Prop} {gop : Operand} {ps : List Nat} {as bd : Code} [TFn P kf] (I : List α → Heap → Prop) (Ix : Code → Heap → Prop)
    (hg : ev E gop = some (.func (.func kf) #[] caps.toArray)) (hit : VItK P kf caps X xs Hi R) (hp : H.Perm (Hi ++ Hc)) (h0 : I [] Hc) (hsz : ∀ x vs Hx, X x vs Hx → ps.length = vs.length) (hps : (ps.all fun p => Nat.blt p N) = true)
    (body : ∀ lp rec pre x post vs Hx H1, rec.state = .ready → xs = pre ++ x :: post → X x vs Hx → I pre H1 →
      VRun P f (some lp) N [.code as, .beginRound, .code bd] (parE ps vs E) [] ((lp, .loop rec) :: (Hx ++ H1)) (RQ lp rec (I (pre ++ [x])) Ix))
    (done : ∀ r Hi' H1, R Hi' → I xs H1 → VRun P f Option.none N k E (mark r :: D) ((r, .deferred (some [])) :: (Hi' ++ H1)) Q)
    (stop : ∀ r c Hi' H1, R Hi' → Ix c H1 → VRun P f Option.none N (.code c :: k) E (mark r :: D) ((r, .deferred (some [])) :: (Hi' ++ H1)) Q) :
    VRun P f Option.none N (.code (.rangeFunc gop ps.toArray as bd) :: k) E D H Q := by
  intro t w cs hA hE
  let rc : Loop := { state := .ready, pending := Option.none, fn := f, tmps := t, params := ps.toArray, assign := as, body := bd, defers := w.heap.size }
  let w1 : World := { w with heap := w.heap.push (.deferred (some [])) }
  let w2 : World := { w1 with heap := w1.heap.push (.loop rc) }
  have hF1 : Fr H w ((w.heap.size, .deferred (some [])) :: H) w1 := Fr.new hE _
  have hF2 : Fr ((w.heap.size, .deferred (some [])) :: H) w1 ((w.heap.size + 1, .loop rc) :: (w.heap.size, .deferred (some [])) :: H) w2 := by
    have h := Fr.new hF1.emb (.loop rc)
    rw [show w1.heap.size = w.heap.size + 1 from Array.size_push _] at h
    exact h
  have henter : (Instr.enterLoop f t ps.toArray as bd Option.none).run P w = .ok (w.heap.size + 1, [mark w.heap.size]) w2 := by
    simp only [w2, w1, rc, mark]
    rw [show w.heap.size + 1 = (w.heap.push (Obj.deferred (some []))).size from (Array.size_push _).symm]
    rfl
  have hst := range_steps (P := P) (D := D) (k := k) (cs := cs) (ro := Option.none) hA hg henter
  have hcall := hit (.yield (w.heap.size + 1)) #[] #[] (fun pre Hx => ∃ H1, Hx = (w.heap.size + 1, .loop rc) :: H1 ∧ I pre H1)
    (fun Hx => ∃ c H1, Hx = (w.heap.size + 1, .loop { rc with state := .done, pending := some c }) :: H1 ∧ Ix c H1) ((w.heap.size + 1, .loop rc) :: Hc) ⟨Hc, rfl, h0⟩
    (by
      rintro pre x post hx vs Hx H1' hX ⟨H1, rfl, hI⟩
      have h1 := round_VY (lp := w.heap.size + 1) (f := f) (t := t) (rec := rc) ⟨rfl, rfl, rfl, rfl, rfl, rfl, rfl⟩ hA (hsz x vs Hx hX) hps (body _ rc pre x post vs Hx H1 rfl hx hX hI)
      exact h1.perm List.perm_middle.symm)
  have hperm : ((w.heap.size + 1, Obj.loop rc) :: (w.heap.size, Obj.deferred (some [])) :: H).Perm ((Hi ++ (w.heap.size + 1, .loop rc) :: Hc) ++ [(w.heap.size, .deferred (some []))]) := by
    refine List.Perm.trans ?_ List.perm_append_comm
    refine List.Perm.trans (List.Perm.swap _ _ _) ?_
    refine List.Perm.cons _ ?_
    refine List.Perm.trans (List.Perm.cons _ hp) ?_
    exact List.perm_middle.symm
  obtain ⟨o, w3, m3, H3, hR, hF3, hs3, hfin⟩ := (hcall.frame (B := [(w.heap.size, .deferred (some []))])).perm hperm w2 ((bas f Option.none).atR ⟨t, [mark w.heap.size] ++ D⟩ (.inRangeFunc (w.heap.size + 1) :: k) :: cs) (hF1.trans hF2).emb
  obtain ⟨A', rfl, rfl, Hi', Hc', rfl, hRi, hJ⟩ := hR
  obtain ⟨_, fr', rfl, _, hleave⟩ := hfin
  have hback : Steps P (lone ((bas f Option.none).atR ⟨t, D⟩ (.code (.rangeFunc gop ps.toArray as bd) :: k)) cs w) (lone ((bas f Option.none).atR ⟨t, [mark w.heap.size] ++ D⟩ (.endRangeFunc (w.heap.size + 1) :: k)) cs w3) := by
    refine .head hst (hs3.trans (.one ?_))
    rw [← finish_atR_inRangeFunc (b := bas f Option.none) (a := ⟨t, [mark w.heap.size] ++ D⟩) (k := k) (w.heap.size + 1) (.tuple #[])]
    exact step_leave_returned hleave
  have hFall := (hF1.trans hF2).trans hF3
  have fin : ∀ (rc' : Loop) (H1 : Heap), Hc' = (w.heap.size + 1, .loop rc') :: H1 → rc'.state ≠ .busy → ∃ w4, (Instr.endLoop (w.heap.size + 1)).run P w3 = .ok rc'.pending w4 ∧ Fr H w ((w.heap.size, .deferred (some [])) :: (Hi' ++ H1)) w4 := by
    intro rc' H1 hH hb
    subst hH
    have hg : w3.heap[w.heap.size + 1]? = some (.loop rc') := hF3.emb.at_ (w.heap.size + 1, .loop rc') (by simp)
    have hpm : ((Hi' ++ (w.heap.size + 1, Obj.loop rc') :: H1) ++ [(w.heap.size, Obj.deferred (some []))]).Perm ((w.heap.size + 1, .loop rc') :: ((w.heap.size, .deferred (some [])) :: (Hi' ++ H1))) := by
      refine List.Perm.trans List.perm_append_comm ?_
      refine List.Perm.trans (List.Perm.cons _ List.perm_middle) ?_
      exact List.Perm.swap _ _ _
    have hE3 := hF3.emb.perm hpm
    have hset := (HOb.head (H := (w.heap.size, .deferred (some [])) :: (Hi' ++ H1)) (b := w.heap.size + 1) (o := .loop rc')).set hE3 (.loop { rc' with state := .exhausted })
    refine ⟨_, ?_, (hFall.perm (.refl _) hpm).trans (hset.sub (List.sublist_cons_self _ _))⟩
    simp [Instr.endLoop, Instr.getLoop, getObj, setObj, Sem.run, hg, Result.andThen, hb]
  rcases hJ with ⟨H1, hH, hI⟩ | ⟨c, H1, hH, hI⟩
  · obtain ⟨w4, hr, hF4⟩ := fin rc H1 hH (by simp [rc])
    obtain ⟨o, w5, m5, H5, hq, hF5, hs5, hfin5⟩ := done w.heap.size Hi' H1 hRi hI t w4 cs hA hF4.emb
    refine ⟨o, w5, m5, H5, hq, hF4.trans hF5, hback.trans (.head (stepR_endRangeFunc (b := bas f Option.none) hr) ?_), hfin5⟩
    simpa [rc] using hs5
  · obtain ⟨w4, hr, hF4⟩ := fin _ H1 hH (by simp)
    obtain ⟨o, w5, m5, H5, hq, hF5, hs5, hfin5⟩ := stop w.heap.size c Hi' H1 hRi hI t w4 cs hA hF4.emb
    refine ⟨o, w5, m5, H5, hq, hF4.trans hF5, hback.trans (.head (stepR_endRangeFunc (b := bas f Option.none) hr) ?_), hfin5⟩
    simpa using hs5
end
end Go.Proofs.YtmfmecgiaekelaaGreatDoor
namespace Go.Proofs.YtmfmecgiaekelaaGreatDoor
open Go
section
variable {P : Program} {f : FuncId} {ro : Option Nat} {N : Nat} {k : List Item} {E : Env} {D : List Deferred} {H : Heap} {Q : Out → Heap → Prop}
variable {ops : Array Oper} {l : List Oper}
variable {d : Nat} {x y : Operand} {T ty : TypeId} {pos : String} {af : Array Edge} {g : Option (Nat × Bool)}
theorem vxdef {gf : FuncId} {cl : Operand} {ats : Array TypeId} {caps : List Value} (hx : ev E cl = some (.func (.func gf) #[] caps.toArray))
    (hL : VL P f Option.none N ops l k E (⟨.fn (.func gf) caps.toArray, #[]⟩ :: D) H Q) :
    VX P f Option.none N ops ⟨Option.none, .defer ⟨.value cl, #[], ats⟩, ty, pos, af, g⟩ l k E D H Q := by
  intro i is hi his hw
  refine .stp fun t w cs hA hE => ⟨t, w, .inRegion ops is :: k, E, ⟨.fn (.func gf) caps.toArray, #[]⟩ :: D, H, .one (step_lone_go ?_), hA, Fr.refl hE, hL is his⟩
  rw [stepGR_op (P := P) (b := bas f Option.none) (a := ⟨t, D⟩) (k := k) (cs := cs) (w := w) (rest := is) hi (hw t hA)]
  have h1 := ev_eval (D := D) hA hx
  have h2 : (execOp (Act.eval ⟨t, D⟩) ⟨Option.none, .defer ⟨.value cl, #[], ats⟩, ty, pos, af, g⟩).run P w = .ok (.defer ⟨.fn (.func gf) caps.toArray, #[]⟩) w := by
    simp [execOp, resolve, Deferred.ofValue, h1]
  have h3 : (Oper.semAt (bas f Option.none).roundOf (Act.eval ⟨t, D⟩) ⟨Option.none, .defer ⟨.value cl, #[], ats⟩, ty, pos, af, g⟩) = execOp (Act.eval ⟨t, D⟩) ⟨Option.none, .defer ⟨.value cl, #[], ats⟩, ty, pos, af, g⟩ := rfl
  rw [h3]
  simp [stepG.apply, h2, Frame.atR, Frame.finish, hi, bas]
def VCallD (P : Program) (g : FuncId) (args : Array Value) (H : Heap) (R : Heap → Prop) : Prop :=
  ∀ (w : World) (c : Frame) (cs : List Frame), Emb H w → c.mode = .returning →
    ∃ w' H', R H' ∧ Fr H w H' w' ∧ Steps P (lone (Frame.enter P g args .deferred) (c :: cs) w) (lone c cs w')
theorem vret_def {gf : FuncId} {caps : List Value} {R : Heap → Prop} [hf : TFn P gf] (hc : VCallD P gf caps.toArray H R) (h : ∀ H', R H' → VRet P f N E D H' Q) :
    VRet P f N E (⟨.fn (.func gf) caps.toArray, #[]⟩ :: D) H Q := by
  intro t w cs k hA hE
  obtain ⟨w1, H1, hR, hF, hs⟩ := hc w { (bas f Option.none).atR ⟨t, D⟩ k with mode := .returning } cs hE rfl
  obtain ⟨o, w', m', H', hq, hF2, hs2, hfin⟩ := h H1 hR t w1 cs k hA hF.emb
  refine ⟨o, w', m', H', hq, hF.trans hF2, .head ?_ (hs.trans hs2), hfin⟩
  have hi : (invoke (.fn (.func gf) caps.toArray) #[]).run P w = .ok (.enter gf caps.toArray) w := by
    have e : (#[] : Array Value) ++ caps.toArray = caps.toArray := by simp
    simp only [invoke, e]
    exact run_callFunc _ w
  exact step_defer (P := P) (fr := { (bas f Option.none).atR ⟨t, ⟨.fn (.func gf) caps.toArray, #[]⟩ :: D⟩ k with mode := .returning }) (d := ⟨.fn (.func gf) caps.toArray, #[]⟩) (ds := D) (by simp) rfl rfl hi
theorem vinv {recv : Operand} {name : String} {al : List Operand} {ats : Array TypeId} {gf : FuncId} {T' : TypeId} {u u' : Value} {vs : List Value} {R : Value → Heap → Prop} {R0 : Out → Heap → Prop} [hf : TFn P gf]
    (hx : ev E recv = some (.iface T' u)) (hm : ∀ w, (method (P.types.size + Made.depth) T' u name).run P w = .ok (gf, u') w) (ha : evL E al = some vs)
    (hc : VCall P gf (u' :: vs).toArray H R0) (hv : ∀ o H', R0 o H' → ∃ v, o = .val v ∧ R v H') :
    OG P N E D H ⟨some d, .call ⟨.invoke recv name, al.toArray, ats⟩, ty, pos, af, g⟩ R := by
  refine ⟨by simp, fun t w hA hE => ⟨.enter gf (u' :: vs).toArray, w, ?_, fun c cs => ?_⟩⟩
  · have h1 := evL_map (D := D) hA al vs ha
    have h2 : (callMethod (.iface T' u) name vs.toArray).run P w = .ok (.enter gf (u' :: vs).toArray) w := by
      simp [callMethod, program, Sem.run, Sem.run_bind, hm, Result.andThen, run_callFunc]
    have h3 : al.toArray.map (Act.eval ⟨t, D⟩) = vs.toArray := by rw [← h1]; simp
    simp only [execOp, resolve, ev_eval hA hx, h3, Sem.run_bind, Sem.run_pure, Result.andThen, invoke]
    have e1 : (#[Value.iface T' u] ++ vs.toArray)[0]? = some (.iface T' u) := by simp
    have e2 : (#[Value.iface T' u] ++ vs.toArray).extract 1 (#[Value.iface T' u] ++ vs.toArray).size = vs.toArray := by
      apply Array.ext'; simp
    simp only [e1, e2]
    exact h2
  · obtain ⟨o, w', m', H', hR, hF, hs, hfin⟩ := hc w (c :: cs) hE
    obtain ⟨v, rfl, hv'⟩ := hv o H' hR
    obtain ⟨_, fr', rfl, _, hleave⟩ := hfin
    exact ⟨v, w', ⟨H', hF, hv'⟩, hs.trans (.one (step_leave_returned hleave))⟩
def notIfB (P : Program) (T : TypeId) : Bool := match P.underlying T with | some (.interface _) => false | some _ => true | Option.none => false
theorem vmki {v : Value} (hT : notIfB P T = true) (hx : ev E x = some v) : OQ P N E D H ⟨some d, .makeInterface T x, ty, pos, af, g⟩ (.iface T v) :=
  ov (by simp) (fun t w hA _ => by
    unfold notIfB at hT
    split at hT
    · cases hT
    · rename_i u hne hu
      simp only [execOp, ev_eval hA hx, Instr.makeInterface, Sem.run_bind, run_underlying hu, Result.andThen]
      cases u <;> first | rfl | exact absurd hT (by simp_all) | (exfalso; exact hne _ hu)
    · cases hT)
theorem vtay {v : Value} {T' : TypeId} (hT : notIfB P T = true) (hx : ev E x = some (.iface T v)) : OQ P N E D H ⟨some d, .typeAssert x T' T true, ty, pos, af, g⟩ (.tuple [v, .bool true].toArray) :=
  ov (by simp) (fun t w hA _ => by
    unfold notIfB at hT
    split at hT
    · cases hT
    · rename_i u hne hu
      simp only [execOp, ev_eval hA hx, Instr.typeAssert, Sem.run_bind, run_underlying hu, Result.andThen]
      cases u <;> first | simp [Sem.run_pure] | (exfalso; exact hne _ hu)
    · cases hT)
end
end Go.Proofs.YtmfmecgiaekelaaGreatDoor
