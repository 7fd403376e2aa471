/-
  Parts of the proof: rules of the engine, walks of functions, plain Lean. No condition.
-/
import Derived.Test.YtoebpndlbldfcaaGreatDoorTd03
import Derived.Defers
import Derived.Laws.Externs
import Derived.Laws.BytesArg
import Derived.Laws.Entries
import Derived.Lib.UnsafeStr
import Derived.Lib.Builder
namespace Go.Proofs.YtoebpndlbldfcaaGreatDoor
open Go
structure Rl where
  row : Int
  win : Int
  many : Int
  total : Int
def okRl (r : Rl) : Prop := (1 ≤ r.row ∧ r.row ≤ 12) ∧ (1 ≤ r.win ∧ r.win ≤ 12) ∧ (1 ≤ r.many ∧ r.many ≤ r.win) ∧ 1 ≤ r.total ∧ r.total ≤ 256
instance (r : Rl) : Decidable (okRl r) := by unfold okRl; exact inferInstance
def cntI (l : List Int) : Nat → Int
  | 0 => 0
  | i + 1 => cntI l i + (if l[i]? = some 1 then 1 else 0)
theorem cntI_step (l : List Int) (i : Nat) : cntI l i ≤ cntI l (i + 1) ∧ cntI l (i + 1) ≤ cntI l i + 1 := by
  simp only [cntI]; split <;> omega
theorem cntI_mono (l : List Int) : ∀ (a d : Nat), cntI l a ≤ cntI l (a + d) ∧ cntI l (a + d) ≤ cntI l a + d
  | a, 0 => by simp
  | a, d + 1 => by
    have h1 := cntI_mono l a d
    have h2 := cntI_step l (a + d)
    rw [show a + (d + 1) = a + d + 1 by omega]; omega
theorem cntI_le (l : List Int) {a b : Nat} (h : a ≤ b) : cntI l a ≤ cntI l b ∧ cntI l b ≤ cntI l a + (b - a) := by
  have := cntI_mono l a (b - a)
  rw [show a + (b - a) = b by omega] at this; omega
theorem cntI_nn (l : List Int) (a : Nat) : 0 ≤ cntI l a ∧ cntI l a ≤ a := by
  have := cntI_mono l 0 a
  rw [Nat.zero_add] at this
  simp only [cntI] at this; omega
def longE (r : Rl) (n rule : Int) : Option (Int × Int) := if rule = 1 then some (r.row, r.row - 1) else if rule = 2 then some (min r.win n, r.many - 1) else if rule = 3 then some (n, r.total - 1) else none
theorem long_bd {r : Rl} {n rule a b : Int} (hr : okRl r) (hn : 0 ≤ n ∧ n ≤ 256) (h : longE r n rule = some (a, b)) : 0 ≤ a ∧ a ≤ 256 ∧ 0 ≤ b ∧ b ≤ 256 := by
  unfold okRl at hr
  unfold longE at h
  repeat' split at h
  all_goals first | (cases h; omega) | cases h
def sumF (w : Nat → Int) : Nat → Int
  | 0 => 0
  | i + 1 => sumF w i + w i
theorem sumF_succ (w : Nat → Int) (i : Nat) : sumF w (i + 1) = sumF w i + w i := rfl
structure GoodW (r : Rl) (l : List Int) (w : Nat → Int) : Prop where
  bit : ∀ i, w i = 0 ∨ (w i = 1 ∧ l[i]? = some 1)
  cov : ∀ (rule long allows fr : Int), longE r l.length rule = some (long, allows) → 0 ≤ fr → fr + long ≤ l.length → cntI l (fr + long).toNat - cntI l fr.toNat - allows ≤ sumF w (fr + long).toNat - sumF w fr.toNat
structure Ed where
  a : Int
  b : Int
  least : Int
  rule : Int
  fr : Int
def valM (M : List Int) (i : Int) : Int := (M[i.toNat]?).getD 0
theorem sumF_upd {w w' : Nat → Int} {b : Nat} {x : Int} (hb : w' b = w b + x) (ho : ∀ i, i ≠ b → w' i = w i) : ∀ {n : Nat}, sumF w' n = sumF w n + (if b < n then x else 0)
  | 0 => by simp [sumF]
  | n + 1 => by
    rw [sumF_succ, sumF_succ, sumF_upd hb ho (n := n)]
    by_cases e : b = n
    · subst e; rw [hb, if_neg (by omega), if_pos (by omega)]; omega
    · rw [ho n (by omega)]
      by_cases e2 : b < n
      · rw [if_pos e2, if_pos (by omega)]; omega
      · rw [if_neg e2, if_neg (by omega)]; omega
theorem valM_set {M : List Int} {b : Nat} {x : Int} (hb : b < M.length) (i : Int) (hi : 0 ≤ i) : valM (M.set b x) i = if i = b then x else valM M i := by
  unfold valM
  rw [List.getElem?_set]
  by_cases e : i = b
  · rw [if_pos e, if_pos (by omega), if_pos (by omega)]; rfl
  · rw [if_neg e, if_neg (by omega)]
def dotF (K : List Int) (w : Nat → Int) (n : Nat) : Int := sumF (fun i => valM K i * w i) n
theorem dot_set {K : List Int} {b : Nat} {w : Nat → Int} (hb : b < K.length) (n : Nat) : dotF (K.set b (valM K b + 1)) w n = dotF K w n + (if b < n then w b else 0) := by
  unfold dotF
  exact sumF_upd (w := fun i => valM K i * w i) (b := b) (x := w b) (by rw [valM_set hb _ (by omega), if_pos rfl, Int.add_mul, Int.one_mul]) (fun i hi => by rw [valM_set hb _ (by omega), if_neg (by omega)])
structure BdI (r : Rl) (l : List Int) (j : Nat) (K : List Int) (nn : Int) : Prop where
  len : K.length = l.length
  kb : ∀ i : Nat, 0 ≤ valM K i ∧ valM K i ≤ j
  nb : -(257 * (j : Int)) ≤ nn ∧ nn ≤ 257 * j
  le : ∀ w, GoodW r l w → nn ≤ dotF K w l.length
structure BdJ (l : List Int) (j : Nat) (K0 K : List Int) (fr i : Nat) : Prop where
  len : K.length = l.length
  kb : ∀ t : Nat, 0 ≤ valM K t ∧ valM K t ≤ j + 1
  kc : ∀ t : Nat, i ≤ t → valM K t ≤ j
  ds : ∀ w, dotF K w l.length = dotF K0 w l.length + (sumF w i - sumF w fr)
theorem BdJ.first {r : Rl} {l : List Int} {j : Nat} {K : List Int} {nn : Int} (h : BdI r l j K nn) (fr : Nat) : BdJ l j K K fr fr :=
  ⟨h.len, fun t => by have := h.kb t; omega, fun t _ => (h.kb t).2, fun w => by omega⟩
theorem BdJ.next {l : List Int} {j : Nat} {K0 K : List Int} {fr i : Nat} (h : BdJ l j K0 K fr i) (hi : i < l.length) : BdJ l j K0 (K.set i (valM K i + 1)) fr (i + 1) := by
  have hl : i < K.length := by rw [h.len]; exact hi
  refine ⟨by rw [List.length_set]; exact h.len, fun t => ?_, fun t ht => ?_, fun w => ?_⟩
  · rw [valM_set hl _ (by omega)]
    have h1 := h.kb t
    have h2 := h.kb i
    have h3 := h.kc i (Nat.le_refl _)
    split <;> omega
  · rw [valM_set hl _ (by omega), if_neg (by omega)]; exact h.kc t (by omega)
  · rw [dot_set hl, if_pos hi, h.ds w, sumF_succ]; omega
theorem BdJ.last {r : Rl} {l : List Int} {j : Nat} {K0 K : List Int} {nn rule long allows fr : Int} (hr : okRl r) (hn : l.length ≤ 256) (h0 : BdI r l j K0 nn) (hlo : longE r l.length rule = some (long, allows)) (hf : 0 ≤ fr) (ht : fr + long ≤ l.length) (h : BdJ l j K0 K fr.toNat (fr + long).toNat) :
    BdI r l (j + 1) K (nn + (cntI l (fr + long).toNat - cntI l fr.toNat - allows)) := by
  obtain ⟨g1, g2, g3, g4⟩ := long_bd hr ⟨by omega, by omega⟩ hlo
  have c1 := cntI_le l (a := fr.toNat) (b := (fr + long).toNat) (by omega)
  have c2 := cntI_nn l (fr + long).toNat
  have c3 := cntI_nn l fr.toNat
  have hb := h0.nb
  refine ⟨h.len, fun i => by have := h.kb i; omega, ⟨by omega, by omega⟩, fun w hw => ?_⟩
  rw [h.ds w]
  have := h0.le w hw
  have := hw.cov rule long allows fr hlo hf ht
  omega
structure BdK (r : Rl) (l : List Int) (J : Nat) (K : List Int) (i : Nat) (n : Int) : Prop where
  nb : -(257 * (J : Int)) - (J : Int) * i ≤ n ∧ n ≤ 257 * J
  le : ∀ w, GoodW r l w → n ≤ sumF w i + (dotF K w l.length - dotF K w i)
theorem BdK.first {r : Rl} {l : List Int} {J : Nat} {K : List Int} {nn : Int} (h : BdI r l J K nn) : BdK r l J K 0 nn :=
  ⟨by have := h.nb; simp; omega, fun w hw => by have := h.le w hw; simp only [dotF, sumF] at *; omega⟩
theorem BdK.keep {r : Rl} {l : List Int} {J : Nat} {K : List Int} {i : Nat} {n nn : Int} (h0 : BdI r l J K nn) (h : BdK r l J K i n) (hc : ¬ (l[i]? = some 1 ∧ 0 < valM K i)) : BdK r l J K (i + 1) n := by
  refine ⟨?_, fun w hw => ?_⟩
  · have := h.nb
    have e : (J : Int) * ((i + 1 : Nat) : Int) = (J : Int) * i + J := by rw [show ((i + 1 : Nat) : Int) = (i : Int) + 1 by omega, Int.mul_add, Int.mul_one]
    rw [e]; omega
  · have h1 := h.le w hw
    have hk := h0.kb i
    have e : dotF K w (i + 1) = dotF K w i + valM K i * w i := rfl
    rw [sumF_succ, e]
    rcases hw.bit i with g | ⟨g, g2⟩
    · rw [g, Int.mul_zero]; omega
    · have : valM K i = 0 := by have : ¬ 0 < valM K i := fun hh => hc ⟨g2, hh⟩; omega
      rw [g, this, Int.zero_mul]; omega
theorem BdK.take {r : Rl} {l : List Int} {J : Nat} {K : List Int} {i : Nat} {n nn : Int} (h0 : BdI r l J K nn) (h : BdK r l J K i n) (hc : 0 < valM K i) : BdK r l J K (i + 1) (n - (valM K i - 1)) := by
  have hk := h0.kb i
  refine ⟨?_, fun w hw => ?_⟩
  · have := h.nb
    have e : (J : Int) * ((i + 1 : Nat) : Int) = (J : Int) * i + J := by rw [show ((i + 1 : Nat) : Int) = (i : Int) + 1 by omega, Int.mul_add, Int.mul_one]
    rw [e]; omega
  · have h1 := h.le w hw
    have e : dotF K w (i + 1) = dotF K w i + valM K i * w i := rfl
    rw [sumF_succ, e]
    rcases hw.bit i with g | ⟨g, g2⟩
    · rw [g, Int.mul_zero]; omega
    · rw [g, Int.mul_one]; omega
theorem BdK.last {r : Rl} {l : List Int} {J : Nat} {K : List Int} {n : Int} (h : BdK r l J K l.length n) : ∀ w, GoodW r l w → n ≤ sumF w l.length := fun w hw => by have := h.le w hw; omega
end Go.Proofs.YtoebpndlbldfcaaGreatDoor
namespace Go.Proofs.YtoebpndlbldfcaaGreatDoor
open Go
def addR (q : Int) (M : List Int) (p t : Nat) : Int := if p ≤ t then (q * valM M ((t - p : Nat) : Int)) / 64 else 0
def ringF (l : List Int) (p : Nat) (q : Int) : Nat → List Int
  | 0 => []
  | t + 1 => ringF l p q t ++ [valM l (t : Int) + addR q (ringF l p q t) p t]
theorem ring_len (l : List Int) (p : Nat) (q : Int) : ∀ t, (ringF l p q t).length = t
  | 0 => rfl
  | t + 1 => by simp [ringF, ring_len l p q t]
theorem valM_app {A B : List Int} {i : Nat} (h : i < A.length) : valM (A ++ B) (i : Int) = valM A (i : Int) := by unfold valM; rw [Int.toNat_natCast, List.getElem?_append_left h]
theorem valM_last (A : List Int) (x : Int) : valM (A ++ [x]) (A.length : Int) = x := by unfold valM; rw [Int.toNat_natCast, List.getElem?_append_right (Nat.le_refl _)]; simp
theorem ring_at (l : List Int) (p : Nat) (q : Int) {i : Nat} : ∀ {t : Nat}, i < t → valM (ringF l p q t) (i : Int) = valM (ringF l p q (i + 1)) (i : Int)
  | 0, h => by omega
  | t + 1, h => by
    by_cases e : i = t
    · subst e; rfl
    · have : i < t := by omega
      rw [show ringF l p q (t + 1) = ringF l p q t ++ [valM l (t : Int) + addR q (ringF l p q t) p t] from rfl, valM_app (by rw [ring_len]; exact this), ring_at l p q this]
theorem ring_new (l : List Int) (p : Nat) (q : Int) (t : Nat) : valM (ringF l p q (t + 1)) (t : Int) = valM l (t : Int) + addR q (ringF l p q t) p t := by
  rw [show ringF l p q (t + 1) = ringF l p q t ++ [valM l (t : Int) + addR q (ringF l p q t) p t] from rfl]
  have := valM_last (ringF l p q t) (valM l (t : Int) + addR q (ringF l p q t) p t)
  rwa [ring_len] at this
def unF (l : List Int) (p : Nat) (q : Int) : Nat → List Int
  | 0 => []
  | t + 1 => unF l p q t ++ [valM l (t : Int) - addR q l p t]
theorem un_len (l : List Int) (p : Nat) (q : Int) : ∀ t, (unF l p q t).length = t
  | 0 => rfl
  | t + 1 => by simp [unF, un_len l p q t]
def allB (m : Int) (l : List Int) : Prop := ∀ n ∈ l, -m ≤ n ∧ n ≤ m
instance (m : Int) (l : List Int) : Decidable (allB m l) := by unfold allB; exact inferInstance
def rgOk (most : Int) (l : List Int) (p q : Int) : Prop := l.length ≤ 64 ∧ (1 ≤ p ∧ p ≤ 64) ∧ (-63 ≤ q ∧ q ≤ 63) ∧ allB most l
instance (m : Int) (l : List Int) (p q : Int) : Decidable (rgOk m l p q) := by unfold rgOk; exact inferInstance
def stOk (l : List Int) (p q : Int) : Prop := (1 ≤ l.length ∧ l.length ≤ 64) ∧ allB 65536 l ∧ (1 ≤ p ∧ p ≤ 63) ∧ -64 ≤ q ∧ q ≤ 64
instance (l : List Int) (p q : Int) : Decidable (stOk l p q) := by unfold stOk; exact inferInstance
theorem allB_val {m : Int} {l : List Int} (h : allB m l) (hm : 0 ≤ m) (i : Int) : -m ≤ valM l i ∧ valM l i ≤ m := by
  unfold valM
  cases hz : l[i.toNat]? with
  | none => simp only [Option.getD_none]; omega
  | some z => exact h z (List.mem_of_getElem? hz)
theorem allB_snoc {m : Int} {l : List Int} {x : Int} (h : allB m l) (hx : -m ≤ x ∧ x ≤ m) : allB m (l ++ [x]) := fun n hn => by
  rcases List.mem_append.1 hn with hn | hn
  · exact h n hn
  · rw [List.mem_singleton.1 hn]; exact hx
theorem ring_bad {m : Int} {l : List Int} {p : Nat} {q : Int} {t : Nat} (ht : t < l.length) (h : ¬ (-m ≤ valM l (t : Int) + addR q (ringF l p q t) p t ∧ valM l (t : Int) + addR q (ringF l p q t) p t ≤ m)) : ¬ allB m (ringF l p q l.length) := fun ha => by
  have hl := ring_len l p q l.length
  have := ring_at l p q (i := t) ht
  rw [ring_new] at this
  have h2 : valM (ringF l p q l.length) (t : Int) ∈ ringF l p q l.length := by
    unfold valM
    rw [Int.toNat_natCast, List.getElem?_eq_getElem (show t < (ringF l p q l.length).length by omega)]
    exact List.getElem_mem _
  have h3 := ha _ h2
  rw [this] at h3
  exact h h3
theorem mul_q {q x m : Int} (hq : -64 ≤ q ∧ q ≤ 64) (hm : 0 ≤ m) (hx : -m ≤ x ∧ x ≤ m) : -(64 * m) ≤ q * x ∧ q * x ≤ 64 * m := by
  have h1 := Int.mul_le_mul (show q ≤ 64 by omega) (show (m + x) ≤ 2 * m by omega) (by omega) (by omega)
  rcases Int.le_total 0 q with g | g <;> rcases Int.le_total 0 x with k | k
  · have := Int.mul_le_mul hq.2 hx.2 k (by omega); have := Int.mul_nonneg g k; omega
  · have := Int.mul_le_mul hq.2 (show -x ≤ m by omega) (by omega) (by omega); have := Int.mul_nonneg g (show 0 ≤ -x by omega); have e : q * -x = -(q * x) := Int.mul_neg q x; omega
  · have := Int.mul_le_mul (show -q ≤ 64 by omega) hx.2 k (by omega); have := Int.mul_nonneg (show 0 ≤ -q by omega) k; have e : -q * x = -(q * x) := Int.neg_mul q x; omega
  · have := Int.mul_le_mul (show -q ≤ 64 by omega) (show -x ≤ m by omega) (by omega) (by omega); have := Int.mul_nonneg (show 0 ≤ -q by omega) (show 0 ≤ -x by omega); have e : -q * -x = q * x := Int.neg_mul_neg q x; omega
end Go.Proofs.YtoebpndlbldfcaaGreatDoor
namespace Go.Proofs.YtoebpndlbldfcaaGreatDoor
open Go
section
variable {P : Program} {N : Nat} {E : Env} {D : List Deferred} {H : Heap} {d : Nat} {x y : Operand} {T ty T' : TypeId} {pos : String} {af : Array Edge} {g : Option (Nat × Bool)} {u v r : Value}
theorem vbinK {b : BinOp} (hx : ev E x = some u) (hy : ev E y = some v) (h1 : ∀ w, (eqGuard b T x y u v).run P w = .ok () w) (h2 : ∀ w, (binOp b T u v).run P w = .ok r w) : OQ P N E D H ⟨some d, .binOp b T x y T', ty, pos, af, g⟩ r :=
  ov (by simp) (fun t w hA hE => by
    simp only [execOp, ev_eval hA hx, ev_eval hA hy, Sem.run_bind, h1, Result.andThen, h2, Sem.run_pure])
theorem vunK {b : UnOp} (hx : ev E x = some u) (h2 : ∀ w, (Op.unary b u).run P w = .ok r w) : OQ P N E D H ⟨some d, .unOp b T x, ty, pos, af, g⟩ r :=
  ov (by simp) (fun t w hA hE => by
    simp only [execOp, ev_eval hA hx, Sem.run_bind, Result.andThen, h2, Sem.run_pure])
theorem vcvK (hx : ev E x = some u) (h2 : ∀ w, (convert T T' u).run P w = .ok r w) : OQ P N E D H ⟨some d, .convert T T' x, ty, pos, af, g⟩ r :=
  ov (by simp) (fun t w hA hE => by
    simp only [execOp, ev_eval hA hx, Sem.run_bind, Result.andThen, h2, Sem.run_pure])
theorem vixK (hx : ev E x = some u) (hy : ev E y = some v) (h2 : ∀ w, (Instr.index T u v).run P w = .ok r w) : OQ P N E D H ⟨some d, .index T x y, ty, pos, af, g⟩ r :=
  ov (by simp) (fun t w hA hE => by
    simp only [execOp, ev_eval hA hx, ev_eval hA hy, Sem.run_bind, Result.andThen, h2, Sem.run_pure])
theorem vslK {lo hi : Operand} {l m : Value} (hx : ev E x = some u) (hl : ev E lo = some l) (hh : ev E hi = some m) (h2 : ∀ w, (Instr.sliceAt T u (some l) (some m) Option.none).run P w = .ok r w) : OQ P N E D H ⟨some d, .slice T x (some lo) (some hi) Option.none, ty, pos, af, g⟩ r :=
  ov (by simp) (fun t w hA hE => by
    simp only [execOp, ev_eval hA hx, Option.map_some, Option.map_none, ev_eval hA hl, ev_eval hA hh, Sem.run_bind, Result.andThen, h2, Sem.run_pure])
theorem vslKH {hi : Operand} {m : Value} (hx : ev E x = some u) (hh : ev E hi = some m) (h2 : ∀ w, (Instr.sliceAt T u Option.none (some m) Option.none).run P w = .ok r w) : OQ P N E D H ⟨some d, .slice T x Option.none (some hi) Option.none, ty, pos, af, g⟩ r :=
  ov (by simp) (fun t w hA hE => by
    simp only [execOp, ev_eval hA hx, Option.map_some, Option.map_none, ev_eval hA hh, Sem.run_bind, Result.andThen, h2, Sem.run_pure])
theorem vslKL {lo : Operand} {l : Value} (hx : ev E x = some u) (hl : ev E lo = some l) (h2 : ∀ w, (Instr.sliceAt T u (some l) Option.none Option.none).run P w = .ok r w) : OQ P N E D H ⟨some d, .slice T x (some lo) Option.none Option.none, ty, pos, af, g⟩ r :=
  ov (by simp) (fun t w hA hE => by
    simp only [execOp, ev_eval hA hx, Option.map_some, Option.map_none, ev_eval hA hl, Sem.run_bind, Result.andThen, h2, Sem.run_pure])
end
end Go.Proofs.YtoebpndlbldfcaaGreatDoor
namespace Go.Proofs.YtoebpndlbldfcaaGreatDoor
open Go
section
variable {P : Program} {f : FuncId} {ro : Option Nat} {N : Nat} {k : List Item} {E : Env} {D : List Deferred} {G H : Heap} {Q : Out → Heap → Prop} {ops : Array Oper} {l : List Oper}
variable {d : Nat} {x y : Operand} {T ty T' : TypeId} {pos : String} {af : Array Edge} {u v : Value}
theorem QKb {b : BinOp} (r : Value) (hL : VL P f ro N ops l k ((d, r) :: E) D H Q) (hx : ev E x = some u := by exact rfl) (hy : ev E y = some v := by exact rfl) (h1 : ∀ w, (eqGuard b T x y u v).run P w = .ok () w := by exact fun _ => by kernel_rfl) (h2 : ∀ w, (binOp b T u v).run P w = .ok r w := by exact fun _ => by kernel_rfl) (hN : Nat.blt d N = true := by exact rfl) : VL P f ro N ops (⟨some d, .binOp b T x y T', ty, pos, af, Option.none⟩ :: l) k E D H Q := vone rfl (vxq (vbinK hx hy h1 h2) rfl hN hL)
theorem QKc (r : Value) (hL : VL P f ro N ops l k ((d, r) :: E) D H Q) (hx : ev E x = some u := by exact rfl) (h2 : ∀ w, (convert T T' u).run P w = .ok r w := by exact fun _ => by kernel_rfl) (hN : Nat.blt d N = true := by exact rfl) : VL P f ro N ops (⟨some d, .convert T T' x, ty, pos, af, Option.none⟩ :: l) k E D H Q := vone rfl (vxq (vcvK hx h2) rfl hN hL)
theorem QKi (r : Value) (hL : VL P f ro N ops l k ((d, r) :: E) D H Q) (hx : ev E x = some u := by exact rfl) (hy : ev E y = some v := by exact rfl) (h2 : ∀ w, (Instr.index T u v).run P w = .ok r w := by exact fun _ => by kernel_rfl) (hN : Nat.blt d N = true := by exact rfl) : VL P f ro N ops (⟨some d, .index T x y, ty, pos, af, Option.none⟩ :: l) k E D H Q := vone rfl (vxq (vixK hx hy h2) rfl hN hL)
end
end Go.Proofs.YtoebpndlbldfcaaGreatDoor
namespace Go.Proofs.YtoebpndlbldfcaaGreatDoor
open Go
abbrev EnA := Ent ByteArray (Rg × Int)
def ageE (w : Wn) (s : Sc) (t : Int) (e : EnA) : Option EnA := (ageK w s t e.k (some e.v)).map fun v => ⟨e.k, v, e.b⟩
def stepE (w : Wn) (s : Sc) (t : Int) (seen : Array Nat) (e : EnA) : Option EnA := if seen.contains e.b = true then ageE w s t e else some e
def agedM (w : Wn) (s : Sc) (t : Int) (seen : Array Nat) (l : List EnA) : List EnA := l.filterMap (stepE w s t seen)
section
variable {w : Wn} {s : Sc} {t : Int} {seen : Array Nat}
theorem stepE_kb {e e' : EnA} (h : stepE w s t seen e = some e') : e'.k = e.k ∧ e'.b = e.b := by
  unfold stepE ageE at h
  split at h
  · obtain ⟨v, _, h2⟩ := Option.map_eq_some_iff.1 h
    subst h2; exact ⟨rfl, rfl⟩
  · cases h; exact ⟨rfl, rfl⟩
theorem agedM_cons (x : EnA) (l : List EnA) : agedM w s t seen (x :: l) = (match stepE w s t seen x with | some y => y :: agedM w s t seen l | none => agedM w s t seen l) := by
  unfold agedM; rw [List.filterMap_cons]; cases stepE w s t seen x <;> rfl
theorem agedM_nil (l : List EnA) : agedM w s t #[] l = l := by
  induction l with
  | nil => rfl
  | cons x l ih => rw [agedM_cons, ih]; simp [stepE]
theorem agedM_ks : ∀ (l : List EnA), ((agedM w s t seen l).map Ent.k).Sublist (l.map Ent.k) ∧ ((agedM w s t seen l).map Ent.b).Sublist (l.map Ent.b)
  | [] => ⟨.slnil, .slnil⟩
  | x :: l => by
    have ih := agedM_ks l
    rw [agedM_cons]
    cases h : stepE w s t seen x with
    | none => exact ⟨ih.1.cons _, ih.2.cons _⟩
    | some y =>
      obtain ⟨h1, h2⟩ := stepE_kb h
      simp only [List.map_cons, h1, h2]
      exact ⟨ih.1.cons_cons _, ih.2.cons_cons _⟩
theorem agedM_wf {l : List EnA} {c : Nat} (h : wfM l c) : wfM (agedM w s t seen l) c := by
  obtain ⟨h1, h2⟩ := agedM_ks (w := w) (s := s) (t := t) (seen := seen) l
  refine ⟨h.ks.sublist h1, h.bs.sublist h2, fun e he => ?_⟩
  have : e.b ∈ l.map Ent.b := h2.subset (List.mem_map.2 ⟨e, he, rfl⟩)
  obtain ⟨e', h3, h4⟩ := List.mem_map.1 this
  rw [← h4]; exact h.lt e' h3
theorem cont_push (a b : Nat) : (seen.push a).contains b = (seen.contains b || b == a) := Array.contains_push ..
theorem agedM_other {a : Nat} : ∀ {l : List EnA}, a ∉ l.map Ent.b → agedM w s t (seen.push a) l = agedM w s t seen l
  | [], _ => rfl
  | x :: l, h => by
    have hx : x.b ≠ a := fun e => h (by simp [e])
    rw [agedM_cons, agedM_cons, agedM_other (fun e => h (by simp [e]))]
    have : stepE w s t (seen.push a) x = stepE w s t seen x := by unfold stepE; rw [cont_push]; simp [hx]
    rw [this]
theorem agedM_mem {e : EnA} (h0 : seen.contains e.b = false) : ∀ {l : List EnA}, e ∈ agedM w s t seen l → e ∈ l
  | [], h => by cases h
  | x :: l, h => by
    rw [agedM_cons] at h
    cases hs : stepE w s t seen x with
    | none => rw [hs] at h; exact List.mem_cons_of_mem _ (agedM_mem h0 h)
    | some y =>
      rw [hs] at h
      rcases List.mem_cons.1 h with rfl | h
      · obtain ⟨_, h2⟩ := stepE_kb hs
        unfold stepE at hs
        rw [← h2, h0] at hs
        simp at hs
        simp [hs]
      · exact List.mem_cons_of_mem _ (agedM_mem h0 h)
theorem mem_agedM {e : EnA} (h0 : seen.contains e.b = false) {l : List EnA} (h : e ∈ l) : e ∈ agedM w s t seen l := by
  unfold agedM
  refine List.mem_filterMap.2 ⟨e, h, ?_⟩
  unfold stepE
  rw [h0]; simp
theorem agedM_push {e : EnA} (h0 : seen.contains e.b = false) (c : Nat) : ∀ {l : List EnA}, (l.map Ent.k).Nodup → (l.map Ent.b).Nodup → e ∈ l →
    agedM w s t (seen.push e.b) l = match ageK w s t e.k (some e.v) with | some v => mput e.k v c (agedM w s t seen l) | none => mdel e.k (agedM w s t seen l)
  | [], _, _, h => by cases h
  | x :: l, hk, hb, h => by
    simp only [List.map_cons, List.nodup_cons] at hk hb
    have hse : ∀ a, stepE w s t (seen.push a) e = stepE w s t (seen.push a) e := fun _ => rfl
    rw [agedM_cons, agedM_cons]
    rcases List.mem_cons.1 h with rfl | h
    · rw [agedM_other hb.1]
      have h1 : stepE w s t (seen.push e.b) e = ageE w s t e := by unfold stepE; rw [cont_push]; simp
      have h2 : stepE w s t seen e = some e := by unfold stepE; rw [h0]; simp
      rw [h1, h2]
      unfold ageE
      cases ageK w s t e.k (some e.v) with
      | none => simp [mdel]
      | some v => simp [mput]
    · have hxb : x.b ≠ e.b := fun he => hb.1 (he ▸ List.mem_map.2 ⟨e, h, rfl⟩)
      have hxk : x.k ≠ e.k := fun he => hk.1 (he ▸ List.mem_map.2 ⟨e, h, rfl⟩)
      have h1 : stepE w s t (seen.push e.b) x = stepE w s t seen x := by unfold stepE; rw [cont_push]; simp [hxb]
      rw [h1, agedM_push h0 c hk.2 hb.2 h]
      cases hs : stepE w s t seen x with
      | none => rfl
      | some y =>
        obtain ⟨hy, _⟩ := stepE_kb hs
        have hyk : ¬ e.k = y.k := fun he => hxk (by rw [← hy]; exact he.symm)
        cases ageK w s t e.k (some e.v) with
        | none => simp [mdel, hyk]
        | some v => simp [mput, hyk]
theorem filterMap_same {α β : Type} {f g : α → Option β} : ∀ {l : List α}, (∀ x ∈ l, f x = g x) → l.filterMap f = l.filterMap g
  | [], _ => rfl
  | x :: l, h => by rw [List.filterMap_cons, List.filterMap_cons, h x (by simp), filterMap_same (fun y hy => h y (by simp [hy]))]
theorem agedM_all {l : List EnA} (h : ∀ e ∈ agedM w s t seen l, seen.contains e.b = true) : agedM w s t seen l = l.filterMap (ageE w s t) := by
  unfold agedM
  refine filterMap_same fun e he => ?_
  unfold stepE
  cases hc : seen.contains e.b with
  | true => simp
  | false => have := h e (mem_agedM hc he); rw [hc] at this; cases this
theorem mget_aged (nm : ByteArray) : ∀ {l : List EnA}, (l.map Ent.k).Nodup → mget nm (l.filterMap (ageE w s t)) = ageK w s t nm (mget nm l)
  | [], _ => rfl
  | x :: l, hk => by
    simp only [List.map_cons, List.nodup_cons] at hk
    have ih := mget_aged nm hk.2
    rw [List.filterMap_cons, mget_cons]
    by_cases h : nm = x.k
    · rw [if_pos h]
      subst h
      have hno : mget x.k l = none := mget_none.2 hk.1
      cases ha : ageK w s t x.k (some x.v) with
      | none =>
        have hx : ageE w s t x = none := by unfold ageE; rw [ha]; rfl
        rw [hx]; simp only; rw [ih, hno]; rfl
      | some v =>
        have hx : ageE w s t x = some ⟨x.k, v, x.b⟩ := by unfold ageE; rw [ha]; rfl
        rw [hx]; simp only; rw [mget_cons, if_pos rfl]
    · rw [if_neg h]
      cases ha : ageE w s t x with
      | none => exact ih
      | some y =>
        have hy : y.k = x.k := by
          unfold ageE at ha
          obtain ⟨v, _, h2⟩ := Option.map_eq_some_iff.1 ha
          rw [← h2]
        simp only
        rw [mget_cons, if_neg (by rw [hy]; exact h)]
        exact ih
end
theorem unseen_lt {l : List EnA} {seen : Array Nat} {e : EnA} (he : e ∈ l) (h0 : seen.contains e.b = false) : (l.filter fun x => !(seen.push e.b).contains x.b).length < (l.filter fun x => !seen.contains x.b).length :=
  filter_lt (fun x : EnA => !seen.contains x.b) (fun x => !(seen.push e.b).contains x.b) (fun x hx => by
    rw [cont_push] at hx
    cases hc : seen.contains x.b with
    | false => rfl
    | true => rw [hc, Bool.true_or] at hx; exact absurd hx (by decide)) e (by rw [h0]; rfl) (by rw [cont_push, beq_self_eq_true, Bool.or_true]; rfl) l he
def flwF (w : Wn) (s : Sc) : Nat → Nat → List (Nat × Bool)
  | 0, _ => []
  | k + 1, t => match Kst w s (t + 1) with
    | some _ => (t, true) :: flwF w s k (t + 1)
    | none => [(t, false)]
def preL (t : Nat) : List (Nat × Bool) := (List.range t).map fun j => (j, true)
theorem preL_succ (t : Nat) : preL (t + 1) = preL t ++ [(t, true)] := by unfold preL; rw [List.range_succ]; simp
theorem Kst_le {w : Wn} {s : Sc} {n : Nat} {K : Kf} (h : Kst w s (n + 1) = some K) : ∃ K0, Kst w s n = some K0 := by
  simp only [Kst] at h
  cases hk : Kst w s n with
  | none => rw [hk] at h; cases h
  | some K0 => exact ⟨K0, rfl⟩
theorem flw_split {w : Wn} {s : Sc} {n : Nat} : ∀ {t : Nat} {K : Kf}, Kst w s t = some K → t ≤ n → flwF w s n 0 = preL t ++ flwF w s (n - t) t
  | 0, _, _, _ => by simp [preL]
  | t + 1, K, h, ht => by
    obtain ⟨K0, h0⟩ := Kst_le h
    rw [flw_split h0 (by omega), preL_succ, show n - t = (n - (t + 1)) + 1 by omega]
    simp only [flwF, h, List.append_assoc, List.singleton_append]
theorem flw_end {w : Wn} {s : Sc} {n : Nat} {K : Kf} (h : Kst w s n = some K) : flwF w s n 0 = preL n := by
  rw [flw_split h (Nat.le_refl n), Nat.sub_self]; simp [flwF]
theorem flw_at {w : Wn} {s : Sc} {n t : Nat} {K : Kf} (h : Kst w s t = some K) (ht : t < n) : ∃ post, flwF w s n 0 = preL t ++ (t, (Kst w s (t + 1)).isSome) :: post ∧ ((Kst w s (t + 1)).isSome = false → post = []) := by
  rw [flw_split h (by omega), show n - t = (n - (t + 1)) + 1 by omega]
  simp only [flwF]
  cases hk : Kst w s (t + 1) with
  | none => exact ⟨[], rfl, fun _ => rfl⟩
  | some K1 => exact ⟨_, rfl, fun e => by cases e⟩
theorem seeF_snoc {s : Sc} {t : Int} : ∀ (L : List Sg) (K : Kf) (x : Sg), seeF s t K (L ++ [x]) = match seeF s t K L with | none => none | some K' => seeF s t K' [x]
  | [], K, x => rfl
  | y :: r, K, x => by
    simp only [List.cons_append, seeF]
    split
    · exact seeF_snoc r K x
    · cases seeP s (K y.nm) y with
      | none => rfl
      | some k => exact seeF_snoc r _ x
theorem seeF_one {s : Sc} {t : Int} {K : Kf} {x : Sg} : seeF s t K [x] = if x.st ≠ t then some K else match seeP s (K x.nm) x with | none => none | some k => some (fun n => if n = x.nm then k else K n) := by
  simp only [seeF] <;> (split <;> first | rfl | (cases seeP s (K x.nm) x <;> rfl))
theorem seeF_known {s : Sc} {t : Int} {K K' : Kf} {L : List Sg} (h : seeF s t K L = some K') {x : Sg} (hx : x ∈ L) (ht : x.st = t) : ∃ a, K' x.nm = some a := by
  have h1 := seeF_some h x.nm
  have hne : inL L x.nm t ≠ [] := List.ne_nil_of_mem (mem_inL.2 ⟨hx, ht, rfl⟩)
  obtain ⟨r, hr⟩ := seesP_last hne (fun y hy => (mem_inL.1 hy).2.1) h1
  exact ⟨_, hr⟩
end Go.Proofs.YtoebpndlbldfcaaGreatDoor
namespace Go.Proofs.YtoebpndlbldfcaaGreatDoor
open Go
structure Ps where
  pt : Pt
  oc : Int
  deriving DecidableEq
structure Cz where
  lines : List (Pt × Pt)
  fields : List (List Pt)
  buoys : List Pt
  spread : Rg
  start : Ps
  speed : Int
  turn : Int
  opens : List (List Bd)
def okPs (p : Ps) : Prop := p.pt.ok ∧ 0 ≤ p.oc ∧ p.oc ≤ 7
instance (p : Ps) : Decidable (okPs p) := by unfold okPs; exact inferInstance
def winFrom : Int → List Bd → Bool
  | _, [] => true
  | h, b :: r => decide (0 ≤ b.lo ∧ h < b.lo ∧ b.lo ≤ b.hi ∧ b.hi ≤ 1048576) && winFrom b.hi r
def winB (l : List Bd) : Bool := decide (l.length ≤ 4) && winFrom (-1) l
def okCz (c : Cz) : Prop := (1 ≤ c.lines.length ∧ c.lines.length ≤ 5) ∧ c.fields.length ≤ 4 ∧ c.buoys.length ≤ 4 ∧ c.opens.length = c.lines.length ∧
  (∀ l ∈ c.lines, l.1.ok ∧ l.2.ok ∧ l.1 ≠ l.2) ∧ (∀ l ∈ c.opens, winB l = true) ∧ (∀ f ∈ c.fields, fieldB f = true) ∧ (∀ p ∈ c.buoys, p.ok) ∧ (tightE c.spread).2 = 0 ∧ c.spread.x.hi - c.spread.x.lo ≤ 256 ∧ c.spread.y.hi - c.spread.y.lo ≤ 256 ∧ okPs c.start ∧ (1 ≤ c.speed ∧ c.speed ≤ 1000) ∧ 0 ≤ c.turn ∧ c.turn ≤ 1000
def octV (v : Pt) : Int :=
  if ¬ ((-131072 ≤ v.x ∧ v.x ≤ 131072) ∧ -131072 ≤ v.y ∧ v.y ≤ 131072) then 0
  else if 0 ≤ v.y ∧ 0 ≤ v.x - v.y then 0 else if 0 ≤ v.x ∧ v.x - v.y ≤ 0 then 1 else if v.x ≤ 0 ∧ 0 ≤ v.x + v.y then 2 else if 0 ≤ v.y ∧ v.x + v.y ≤ 0 then 3
  else if v.y ≤ 0 ∧ v.x - v.y ≤ 0 then 4 else if v.x ≤ 0 ∧ 0 ≤ v.x - v.y then 5 else if 0 ≤ v.x ∧ v.x + v.y ≤ 0 then 6 else 7
theorem octV_bd (v : Pt) : 0 ≤ octV v ∧ octV v ≤ 7 := by
  unfold octV
  repeat' split
  all_goals omega
def turnE (a b : Int) : Int := min ((b - a + 8).tmod 8) (8 - (b - a + 8).tmod 8)
def subP (p q : Pt) : Pt := ⟨q.x - p.x, q.y - p.y⟩
def rootUp (q : Int) : Int := if (rootE q).1 * (rootE q).1 < q then (rootE q).1 + 1 else (rootE q).1
def stepsC (c : Cz) (a b : Pt) : Int := (rootUp (d2 a b) + c.speed - 1).tdiv c.speed
def clearB (c : Cz) (a b : Pt) : Bool := decide ((sweptE c.spread a b).2 = 0) && !c.fields.any fun f => decide ((hitE f (sweptE c.spread a b).1).2 = 0)
def costL (c : Cz) (to : Int) : Pt → List Pt → Int → Int → Option Int
  | _, [], o, n => some (n + c.turn * turnE o to)
  | p, q :: r, o, n => if p = q ∨ clearB c p q = false then none else costL c to q r (octV (subP p q)) (n + (stepsC c p q + c.turn * turnE o (octV (subP p q))))
def costP (c : Cz) (l : List Pt) (o to : Int) : Option Int := match l with
  | [] => some (0 + c.turn * turnE o to)
  | p :: r => costL c to p r o 0
def nextP (c : Cz) (b : Pt) : Nat → List Pt → Nat → List (List Pt)
  | 0, l, _ => [l ++ [b]]
  | k + 1, l, used => (l ++ [b]) :: (List.range c.buoys.length).flatMap fun i => if used.testBit i = true then [] else match c.buoys[i]? with | some p => nextP c b k (l ++ [p]) (used ||| 1 <<< i) | none => []
def triedP (c : Cz) (a b : Ps) : List (List Pt) := (if a.pt = b.pt then [[a.pt]] else []) ++ nextP c b.pt c.buoys.length [a.pt] 0
def passP (c : Cz) (a b : Ps) : List (List Pt × Int) := (triedP c a b).filterMap fun l => (costP c l a.oc b.oc).map fun n => (l, n)
def chain : Pt → List Pt → Prop
  | _, [] => True
  | p, q :: r => p ≠ q ∧ chain q r
theorem costL_chain {c : Cz} {to : Int} : ∀ {l : List Pt} {p : Pt} {o n m : Int}, costL c to p l o n = some m → chain p l
  | [], _, _, _, _, _ => True.intro
  | q :: r, p, o, n, m, h => by
    simp only [costL] at h
    split at h
    · cases h
    · rename_i hn
      exact ⟨fun e => hn (.inl e), costL_chain h⟩
theorem next_ok {c : Cz} {b : Pt} (hb : b.ok) (hu : ∀ p ∈ c.buoys, p.ok) : ∀ (k : Nat) (l : List Pt) (used : Nat), (∀ p ∈ l, p.ok) → ∀ m ∈ nextP c b k l used, ∀ p ∈ m, p.ok
  | 0, l, used, hl, m, hm, p, hp => by
    simp only [nextP, List.mem_singleton] at hm
    subst hm
    rcases List.mem_append.1 hp with h | h
    · exact hl p h
    · rw [List.mem_singleton.1 h]; exact hb
  | k + 1, l, used, hl, m, hm, p, hp => by
    simp only [nextP, List.mem_cons] at hm
    rcases hm with rfl | hm
    · rcases List.mem_append.1 hp with h | h
      · exact hl p h
      · rw [List.mem_singleton.1 h]; exact hb
    · obtain ⟨i, _, hi⟩ := List.mem_flatMap.1 hm
      split at hi
      · cases hi
      · split at hi
        · rename_i q hq
          refine next_ok hb hu k _ _ (fun z hz => ?_) m hi p hp
          rcases List.mem_append.1 hz with h | h
          · exact hl z h
          · rw [List.mem_singleton.1 h]; exact hu q (List.mem_of_getElem? hq)
        · cases hi
theorem pass_ok {c : Cz} {a b : Ps} (ha : a.pt.ok) (hb : b.pt.ok) (hu : ∀ p ∈ c.buoys, p.ok) {x : List Pt × Int} (hx : x ∈ passP c a b) : (∀ p ∈ x.1, p.ok) ∧ ∀ p r, x.1 = p :: r → chain p r := by
  obtain ⟨l, hl, hm⟩ := List.mem_filterMap.1 hx
  obtain ⟨n, hn, rfl⟩ := Option.map_eq_some_iff.1 hm
  refine ⟨fun p hp => ?_, fun p r hr => ?_⟩
  · rcases List.mem_append.1 hl with h | h
    · split at h
      · rw [List.mem_singleton.1 h] at hp; rw [List.mem_singleton.1 hp]; exact ha
      · cases h
    · exact next_ok hb hu _ _ _ (fun z hz => by rw [List.mem_singleton.1 hz]; exact ha) l h p hp
  · simp only at hr
    subst hr
    exact costL_chain hn
def beforeP (a b : Pt) : Int := if a.x ≠ b.x then a.x - b.x else a.y - b.y
def cmpP : List Pt → List Pt → Int
  | [], [] => 0
  | [], _ :: _ => -1
  | _ :: _, [] => 1
  | a :: r, b :: s => if beforeP a b ≠ 0 then beforeP a b else cmpP r s
def lessP (x y : List Pt × Int) : Bool := if x.2 ≠ y.2 then decide (x.2 < y.2) else if x.1.length ≠ y.1.length then decide (x.1.length < y.1.length) else decide (cmpP x.1 y.1 < 0)
def firstL {α : Type} (less : α → α → Bool) : Option α → List α → Option α
  | b, [] => b
  | none, x :: r => firstL less (some x) r
  | some b, x :: r => firstL less (some (if less x b = true then x else b)) r
def bestP (c : Cz) (a b : Ps) : Option (List Pt × Int) := firstL lessP none (passP c a b)
theorem firstL_mem {α : Type} {less : α → α → Bool} : ∀ {l : List α} {b : Option α} {x : α}, firstL less b l = some x → b = some x ∨ x ∈ l
  | [], b, x, h => .inl h
  | y :: r, none, x, h => by
    rcases firstL_mem (l := r) h with h | h
    · cases h; exact .inr (by simp)
    · exact .inr (by simp [h])
  | y :: r, some b, x, h => by
    rcases firstL_mem (l := r) h with h | h
    · by_cases hl : less y b = true
      · rw [if_pos hl] at h; cases h; exact .inr (by simp)
      · rw [if_neg hl] at h; exact .inl h
    · exact .inr (by simp [h])
theorem firstL_snoc {α : Type} {less : α → α → Bool} : ∀ (l : List α) (b : Option α) (x : α), firstL less b (l ++ [x]) = firstL less (firstL less b l) [x]
  | [], none, x => rfl
  | [], some b, x => rfl
  | y :: r, none, x => firstL_snoc r (some y) x
  | y :: r, some b, x => firstL_snoc r _ x
end Go.Proofs.YtoebpndlbldfcaaGreatDoor
namespace Go.Proofs.YtoebpndlbldfcaaGreatDoor
open Go
theorem sq_abs {y h : Int} (h1 : -h ≤ y ∧ y ≤ h) : y * y ≤ h * h := by
  rcases Int.le_total 0 y with g | g
  · exact Int.mul_le_mul h1.2 h1.2 g (by omega)
  · have := Int.mul_le_mul (show -y ≤ h by omega) (show -y ≤ h by omega) (show 0 ≤ -y by omega) (by omega)
    rwa [Int.neg_mul_neg] at this
end Go.Proofs.YtoebpndlbldfcaaGreatDoor
namespace Go.Proofs.YtoebpndlbldfcaaGreatDoor
open Go
theorem rootUp_spec {q : Int} (h0 : 0 ≤ q) (h1 : q ≤ 1099511627776) : 0 ≤ rootUp q ∧ q ≤ rootUp q * rootUp q ∧ (0 < q → 0 < rootUp q) ∧ rootUp q ≤ 1048577 := by
  have e0 : rootE q = (rootP q, 0) := by unfold rootE; rw [if_pos ⟨h0, h1⟩]
  unfold rootUp
  rw [e0]
  simp only
  have hr := rootP_is h0
  unfold IsRt at hr
  obtain ⟨h2, h3, h4⟩ := hr
  have hb : rootP q ≤ 1048576 := by
    rcases Int.lt_or_le 1048576 (rootP q) with h | h
    · have := Int.mul_le_mul (show (1048577 : Int) ≤ rootP q by omega) (show (1048577 : Int) ≤ rootP q by omega) (by omega) (by omega)
      omega
    · exact h
  split
  · refine ⟨by omega, ?_, fun _ => by omega, by omega⟩
    have : (rootP q + 1) * (rootP q + 1) = rootP q * rootP q + 2 * rootP q + 1 := by grind
    have : (rootP q + 1) * (rootP q + 1) > q := h4
    omega
  · refine ⟨h2, by omega, fun hq => ?_, by omega⟩
    rcases Int.lt_or_le 0 (rootP q) with h | h
    · exact h
    · have e : rootP q = 0 := by omega
      have e2 : rootP q * rootP q = 0 := by rw [e]; rfl
      omega
end Go.Proofs.YtoebpndlbldfcaaGreatDoor
namespace Go.Proofs.YtoebpndlbldfcaaGreatDoor
open Go
section
variable {P : Program} {f : FuncId} {ro : Option Nat} {N : Nat} {k : List Item} {E : Env} {D : List Deferred} {H : Heap} {Q : Out → Heap → Prop}
def VItK {α : Type} (P : Program) (kf : FuncId) (caps : List Value) (X : α → List Value → Heap → Prop) (xs : List α) (Hi : Heap) (R : Heap → Prop) : Prop :=
  ∀ (yf : Fn) (ya yc : Array Value) (J : List α → Heap → Prop) (Jx : Heap → Prop) (Hc : Heap), J [] Hc →
    (∀ pre x post, xs = pre ++ x :: post → ∀ vs Hx H1, X x vs Hx → J pre H1 → VY P (.func yf ya yc) vs (Hx ++ H1) (fun b H2 => if b = true then J (pre ++ [x]) H2 else Jx H2)) →
    VCall P kf (Value.func yf ya yc :: caps).toArray (Hi ++ Hc) (fun o H' => o = .val (.tuple #[]) ∧ ∃ Hi' Hc', H' = Hi' ++ Hc' ∧ R Hi' ∧ (J xs Hc' ∨ Jx Hc'))
theorem vrangeK {α : Type} {X : α → List Value → Heap → Prop} {xs : List α} {kf : FuncId} {caps : List Value} {Hi Hc : Heap} {R : Heap → Prop} {gop : Operand} {ps : List Nat} {as bd : Code} [TFn P kf] (I : List α → Heap → Prop) (Ix : Code → Heap → Prop)
    (hg : ev E gop = some (.func (.func kf) #[] caps.toArray)) (hit : VItK P kf caps X xs Hi R) (hp : H.Perm (Hi ++ Hc)) (h0 : I [] Hc) (hsz : ∀ x vs Hx, X x vs Hx → ps.length = vs.length) (hps : (ps.all fun p => Nat.blt p N) = true)
    (body : ∀ lp rec pre x post vs Hx H1, rec.state = .ready → xs = pre ++ x :: post → X x vs Hx → I pre H1 →
      VRun P f (some lp) N [.code as, .beginRound, .code bd] (parE ps vs E) [] ((lp, .loop rec) :: (Hx ++ H1)) (RQ lp rec (I (pre ++ [x])) Ix))
    (done : ∀ r Hi' H1, R Hi' → I xs H1 → VRun P f Option.none N k E (mark r :: D) ((r, .deferred (some [])) :: (Hi' ++ H1)) Q)
    (stop : ∀ r c Hi' H1, R Hi' → Ix c H1 → VRun P f Option.none N (.code c :: k) E (mark r :: D) ((r, .deferred (some [])) :: (Hi' ++ H1)) Q) :
    VRun P f Option.none N (.code (.rangeFunc gop ps.toArray as bd) :: k) E D H Q := by
  intro t w cs hA hE
  let rc : Loop := { state := .ready, pending := Option.none, fn := f, tmps := t, params := ps.toArray, assign := as, body := bd, defers := w.heap.size }
  let w1 : World := { w with heap := w.heap.push (.deferred (some [])) }
  let w2 : World := { w1 with heap := w1.heap.push (.loop rc) }
  have hF1 : Fr H w ((w.heap.size, .deferred (some [])) :: H) w1 := Fr.new hE _
  have hF2 : Fr ((w.heap.size, .deferred (some [])) :: H) w1 ((w.heap.size + 1, .loop rc) :: (w.heap.size, .deferred (some [])) :: H) w2 := by
    have h := Fr.new hF1.emb (.loop rc)
    rw [show w1.heap.size = w.heap.size + 1 from Array.size_push _] at h
    exact h
  have henter : (Instr.enterLoop f t ps.toArray as bd Option.none).run P w = .ok (w.heap.size + 1, [mark w.heap.size]) w2 := by
    simp only [w2, w1, rc, mark]
    rw [show w.heap.size + 1 = (w.heap.push (Obj.deferred (some []))).size from (Array.size_push _).symm]
    rfl
  have hst := range_steps (P := P) (D := D) (k := k) (cs := cs) (ro := Option.none) hA hg henter
  have hcall := hit (.yield (w.heap.size + 1)) #[] #[] (fun pre Hx => ∃ H1, Hx = (w.heap.size + 1, .loop rc) :: H1 ∧ I pre H1)
    (fun Hx => ∃ c H1, Hx = (w.heap.size + 1, .loop { rc with state := .done, pending := some c }) :: H1 ∧ Ix c H1) ((w.heap.size + 1, .loop rc) :: Hc) ⟨Hc, rfl, h0⟩
    (by
      rintro pre x post hx vs Hx H1' hX ⟨H1, rfl, hI⟩
      have h1 := round_VY (lp := w.heap.size + 1) (f := f) (t := t) (rec := rc) ⟨rfl, rfl, rfl, rfl, rfl, rfl, rfl⟩ hA (hsz x vs Hx hX) hps (body _ rc pre x post vs Hx H1 rfl hx hX hI)
      exact h1.perm List.perm_middle.symm)
  have hperm : ((w.heap.size + 1, Obj.loop rc) :: (w.heap.size, Obj.deferred (some [])) :: H).Perm ((Hi ++ (w.heap.size + 1, .loop rc) :: Hc) ++ [(w.heap.size, .deferred (some []))]) := by
    refine List.Perm.trans ?_ List.perm_append_comm
    refine List.Perm.trans (List.Perm.swap _ _ _) ?_
    refine List.Perm.cons _ ?_
    refine List.Perm.trans (List.Perm.cons _ hp) ?_
    exact List.perm_middle.symm
  obtain ⟨o, w3, m3, H3, hR, hF3, hs3, hfin⟩ := (hcall.frame (B := [(w.heap.size, .deferred (some []))])).perm hperm w2 ((bas f Option.none).atR ⟨t, [mark w.heap.size] ++ D⟩ (.inRangeFunc (w.heap.size + 1) :: k) :: cs) (hF1.trans hF2).emb
  obtain ⟨A', rfl, rfl, Hi', Hc', rfl, hRi, hJ⟩ := hR
  obtain ⟨_, fr', rfl, _, hleave⟩ := hfin
  have hback : Steps P (lone ((bas f Option.none).atR ⟨t, D⟩ (.code (.rangeFunc gop ps.toArray as bd) :: k)) cs w) (lone ((bas f Option.none).atR ⟨t, [mark w.heap.size] ++ D⟩ (.endRangeFunc (w.heap.size + 1) :: k)) cs w3) := by
    refine .head hst (hs3.trans (.one ?_))
    rw [← finish_atR_inRangeFunc (b := bas f Option.none) (a := ⟨t, [mark w.heap.size] ++ D⟩) (k := k) (w.heap.size + 1) (.tuple #[])]
    exact step_leave_returned hleave
  have hFall := (hF1.trans hF2).trans hF3
  have fin : ∀ (rc' : Loop) (H1 : Heap), Hc' = (w.heap.size + 1, .loop rc') :: H1 → rc'.state ≠ .busy → ∃ w4, (Instr.endLoop (w.heap.size + 1)).run P w3 = .ok rc'.pending w4 ∧ Fr H w ((w.heap.size, .deferred (some [])) :: (Hi' ++ H1)) w4 := by
    intro rc' H1 hH hb
    subst hH
    have hg : w3.heap[w.heap.size + 1]? = some (.loop rc') := hF3.emb.at_ (w.heap.size + 1, .loop rc') (by simp)
    have hpm : ((Hi' ++ (w.heap.size + 1, Obj.loop rc') :: H1) ++ [(w.heap.size, Obj.deferred (some []))]).Perm ((w.heap.size + 1, .loop rc') :: ((w.heap.size, .deferred (some [])) :: (Hi' ++ H1))) := by
      refine List.Perm.trans List.perm_append_comm ?_
      refine List.Perm.trans (List.Perm.cons _ List.perm_middle) ?_
      exact List.Perm.swap _ _ _
    have hE3 := hF3.emb.perm hpm
    have hset := (HOb.head (H := (w.heap.size, .deferred (some [])) :: (Hi' ++ H1)) (b := w.heap.size + 1) (o := .loop rc')).set hE3 (.loop { rc' with state := .exhausted })
    refine ⟨_, ?_, (hFall.perm (.refl _) hpm).trans (hset.sub (List.sublist_cons_self _ _))⟩
    simp [Instr.endLoop, Instr.getLoop, getObj, setObj, Sem.run, hg, Result.andThen, hb]
  rcases hJ with ⟨H1, hH, hI⟩ | ⟨c, H1, hH, hI⟩
  · obtain ⟨w4, hr, hF4⟩ := fin rc H1 hH (by simp [rc])
    obtain ⟨o, w5, m5, H5, hq, hF5, hs5, hfin5⟩ := done w.heap.size Hi' H1 hRi hI t w4 cs hA hF4.emb
    refine ⟨o, w5, m5, H5, hq, hF4.trans hF5, hback.trans (.head (stepR_endRangeFunc (b := bas f Option.none) hr) ?_), hfin5⟩
    simpa [rc] using hs5
  · obtain ⟨w4, hr, hF4⟩ := fin _ H1 hH (by simp)
    obtain ⟨o, w5, m5, H5, hq, hF5, hs5, hfin5⟩ := stop w.heap.size c Hi' H1 hRi hI t w4 cs hA hF4.emb
    refine ⟨o, w5, m5, H5, hq, hF4.trans hF5, hback.trans (.head (stepR_endRangeFunc (b := bas f Option.none) hr) ?_), hfin5⟩
    simpa using hs5
end
end Go.Proofs.YtoebpndlbldfcaaGreatDoor
namespace Go.Proofs.YtoebpndlbldfcaaGreatDoor
open Go
section
variable {P : Program} {f : FuncId} {ro : Option Nat} {N : Nat} {k : List Item} {E : Env} {D : List Deferred} {H : Heap} {Q : Out → Heap → Prop}
variable {ops : Array Oper} {l : List Oper}
variable {d : Nat} {x y : Operand} {T ty : TypeId} {pos : String} {af : Array Edge} {g : Option (Nat × Bool)}
theorem vxdef {gf : FuncId} {cl : Operand} {ats : Array TypeId} {caps : List Value} (hx : ev E cl = some (.func (.func gf) #[] caps.toArray))
    (hL : VL P f Option.none N ops l k E (⟨.fn (.func gf) caps.toArray, #[]⟩ :: D) H Q) :
    VX P f Option.none N ops ⟨Option.none, .defer ⟨.value cl, #[], ats⟩, ty, pos, af, g⟩ l k E D H Q := by
  intro i is hi his hw
  refine .stp fun t w cs hA hE => ⟨t, w, .inRegion ops is :: k, E, ⟨.fn (.func gf) caps.toArray, #[]⟩ :: D, H, .one (step_lone_go ?_), hA, Fr.refl hE, hL is his⟩
  rw [stepGR_op (P := P) (b := bas f Option.none) (a := ⟨t, D⟩) (k := k) (cs := cs) (w := w) (rest := is) hi (hw t hA)]
  have h1 := ev_eval (D := D) hA hx
  have h2 : (execOp (Act.eval ⟨t, D⟩) ⟨Option.none, .defer ⟨.value cl, #[], ats⟩, ty, pos, af, g⟩).run P w = .ok (.defer ⟨.fn (.func gf) caps.toArray, #[]⟩) w := by
    simp [execOp, resolve, Deferred.ofValue, h1]
  have h3 : (Oper.semAt (bas f Option.none).roundOf (Act.eval ⟨t, D⟩) ⟨Option.none, .defer ⟨.value cl, #[], ats⟩, ty, pos, af, g⟩) = execOp (Act.eval ⟨t, D⟩) ⟨Option.none, .defer ⟨.value cl, #[], ats⟩, ty, pos, af, g⟩ := rfl
  rw [h3]
  simp [stepG.apply, h2, Frame.atR, Frame.finish, hi, bas]
def VCallD (P : Program) (g : FuncId) (args : Array Value) (H : Heap) (R : Heap → Prop) : Prop :=
  ∀ (w : World) (c : Frame) (cs : List Frame), Emb H w → c.mode = .returning →
    ∃ w' H', R H' ∧ Fr H w H' w' ∧ Steps P (lone (Frame.enter P g args .deferred) (c :: cs) w) (lone c cs w')
theorem vret_def {gf : FuncId} {caps : List Value} {R : Heap → Prop} [hf : TFn P gf] (hc : VCallD P gf caps.toArray H R) (h : ∀ H', R H' → VRet P f N E D H' Q) :
    VRet P f N E (⟨.fn (.func gf) caps.toArray, #[]⟩ :: D) H Q := by
  intro t w cs k hA hE
  obtain ⟨w1, H1, hR, hF, hs⟩ := hc w { (bas f Option.none).atR ⟨t, D⟩ k with mode := .returning } cs hE rfl
  obtain ⟨o, w', m', H', hq, hF2, hs2, hfin⟩ := h H1 hR t w1 cs k hA hF.emb
  refine ⟨o, w', m', H', hq, hF.trans hF2, .head ?_ (hs.trans hs2), hfin⟩
  have hi : (invoke (.fn (.func gf) caps.toArray) #[]).run P w = .ok (.enter gf caps.toArray) w := by
    have e : (#[] : Array Value) ++ caps.toArray = caps.toArray := by simp
    simp only [invoke, e]
    exact run_callFunc _ w
  exact step_defer (P := P) (fr := { (bas f Option.none).atR ⟨t, ⟨.fn (.func gf) caps.toArray, #[]⟩ :: D⟩ k with mode := .returning }) (d := ⟨.fn (.func gf) caps.toArray, #[]⟩) (ds := D) (by simp) rfl rfl hi
theorem vinv {recv : Operand} {name : String} {al : List Operand} {ats : Array TypeId} {gf : FuncId} {T' : TypeId} {u u' : Value} {vs : List Value} {R : Value → Heap → Prop} {R0 : Out → Heap → Prop} [hf : TFn P gf]
    (hx : ev E recv = some (.iface T' u)) (hm : ∀ w, (method (P.types.size + Made.depth) T' u name).run P w = .ok (gf, u') w) (ha : evL E al = some vs)
    (hc : VCall P gf (u' :: vs).toArray H R0) (hv : ∀ o H', R0 o H' → ∃ v, o = .val v ∧ R v H') :
    OG P N E D H ⟨some d, .call ⟨.invoke recv name, al.toArray, ats⟩, ty, pos, af, g⟩ R := by
  refine ⟨by simp, fun t w hA hE => ⟨.enter gf (u' :: vs).toArray, w, ?_, fun c cs => ?_⟩⟩
  · have h1 := evL_map (D := D) hA al vs ha
    have h2 : (callMethod (.iface T' u) name vs.toArray).run P w = .ok (.enter gf (u' :: vs).toArray) w := by
      simp [callMethod, program, Sem.run, Sem.run_bind, hm, Result.andThen, run_callFunc]
    have h3 : al.toArray.map (Act.eval ⟨t, D⟩) = vs.toArray := by rw [← h1]; simp
    simp only [execOp, resolve, ev_eval hA hx, h3, Sem.run_bind, Sem.run_pure, Result.andThen, invoke]
    have e1 : (#[Value.iface T' u] ++ vs.toArray)[0]? = some (.iface T' u) := by simp
    have e2 : (#[Value.iface T' u] ++ vs.toArray).extract 1 (#[Value.iface T' u] ++ vs.toArray).size = vs.toArray := by
      apply Array.ext'; simp
    simp only [e1, e2]
    exact h2
  · obtain ⟨o, w', m', H', hR, hF, hs, hfin⟩ := hc w (c :: cs) hE
    obtain ⟨v, rfl, hv'⟩ := hv o H' hR
    obtain ⟨_, fr', rfl, _, hleave⟩ := hfin
    exact ⟨v, w', ⟨H', hF, hv'⟩, hs.trans (.one (step_leave_returned hleave))⟩
def notIfB (P : Program) (T : TypeId) : Bool := match P.underlying T with | some (.interface _) => false | some _ => true | Option.none => false
theorem vmki {v : Value} (hT : notIfB P T = true) (hx : ev E x = some v) : OQ P N E D H ⟨some d, .makeInterface T x, ty, pos, af, g⟩ (.iface T v) :=
  ov (by simp) (fun t w hA _ => by
    unfold notIfB at hT
    split at hT
    · cases hT
    · rename_i u hne hu
      simp only [execOp, ev_eval hA hx, Instr.makeInterface, Sem.run_bind, run_underlying hu, Result.andThen]
      cases u <;> first | rfl | exact absurd hT (by simp_all) | (exfalso; exact hne _ hu)
    · cases hT)
theorem vtay {v : Value} {T' : TypeId} (hT : notIfB P T = true) (hx : ev E x = some (.iface T v)) : OQ P N E D H ⟨some d, .typeAssert x T' T true, ty, pos, af, g⟩ (.tuple [v, .bool true].toArray) :=
  ov (by simp) (fun t w hA _ => by
    unfold notIfB at hT
    split at hT
    · cases hT
    · rename_i u hne hu
      simp only [execOp, ev_eval hA hx, Instr.typeAssert, Sem.run_bind, run_underlying hu, Result.andThen]
      cases u <;> first | simp [Sem.run_pure] | (exfalso; exact hne _ hu)
    · cases hT)
end
end Go.Proofs.YtoebpndlbldfcaaGreatDoor
namespace Go.Proofs.YtoebpndlbldfcaaGreatDoor
open Go
def u8L (xs : List Int) : List Value := xs.map (Value.int .u8)
section
variable {P : Program} {N : Nat} {E : Env} {D : List Deferred} {H H0 : Heap} {d : Nat} {x y : Operand} {T ty T' : TypeId} {pos : String} {af : Array Edge} {g : Option (Nat × Bool)}
theorem vlenK {s : ByteArray} {n : Int} [hT : TSg P T] (hx : ev E x = some (.string s)) (h : (s.size : Int) = n) : OQ P N E D H ⟨some d, .call ⟨.builtin .len, #[x], #[T]⟩, ty, pos, af, g⟩ (.int .i64 n) := by
  subst h; exact vlens (ats := []) hx
theorem vmaxK {a b n : Int} {ats : Array TypeId} (hx : ev E x = some (.int .i64 a)) (hy : ev E y = some (.int .i64 b)) (h : max a b = n) : OQ P N E D H ⟨some d, .call ⟨.builtin .max, #[x, y], ats⟩, ty, pos, af, g⟩ (.int .i64 n) := by
  subst h; exact vmax2 hx hy
theorem vcvI {k : IntKind} {n : Int} (h1 : (P.underlying T).isSome = true) (h2 : P.underlying T' = some (.int .i64)) (h3 : P.intKind T' = .i64) (hx : ev E x = some (.int k n)) (hr : InR n) : OQ P N E D H ⟨some d, .convert T T' x, ty, pos, af, g⟩ (.int .i64 n) :=
  ov (by simp) (fun t w hA hE => by
    have h4 := run_convert_int (P := P) (w := w) T T' k n h1 (by rw [h3]; exact h2)
    rw [h3, wrap_id hr] at h4
    simp only [execOp, ev_eval hA hx, Sem.run_bind, h4, Result.andThen, Sem.run_pure])
theorem vcvB {b o n cap e : Nat} {cs : List Value} {T0 : TypeId} {xs : List Int} {s : ByteArray} [hH : HAt H b cs T0] (hs : P.underlying T = some (.slice e)) (he : P.underlying e = some (.int .u8)) (hd : P.underlying T' = some .string)
    (hx : ev E x = some (.slice (some ⟨b, o, Option.none⟩) n cap)) (hv : sub cs o n = some (u8L xs)) (hr : strOfNums xs = s) :
    OQ P N E D H ⟨some d, .convert T T' x, ty, pos, af, g⟩ (.string s) :=
  ov (by simp) (fun t w hA hE => by
    subst hr
    obtain ⟨h1, h2⟩ := sub_eq _ _ _ _ hv
    have hl : xs.length = n := by simpa [u8L] using h2
    have := run_convert_bytes_arg (P := P) w T e hs he b o n cap xs hl (fun i hi => by
      rw [cell_of (hH.get hE)]
      have h3 : ((cs.drop o).take n)[i]? = (u8L xs)[i]? := by rw [h1]
      rw [List.getElem?_take, if_pos hi, List.getElem?_drop] at h3
      rw [h3]
      have hi' : i < xs.length := by omega
      simp [u8L, List.getD, List.getElem?_eq_getElem hi']) T' hd
    simp only [execOp, ev_eval hA hx, Sem.run_bind, this, Result.andThen, Sem.run_pure])
theorem vaps {e by_ : Nat} {s : ByteArray} {U : TypeId} {xs : List Value} [hT : TAp P T e 1 by_] (hu : P.underlying U = some .string) (hx : ev E x = some (.slice Option.none 0 0)) (hy : ev E y = some (.string s))
    (hxs : s.data.toList.map (fun b => Value.int .u8 b.toNat) = xs) (h0 : Nat.blt 0 s.size = true) (h1 : Nat.ble s.size 1000000 = true) (hb : Nat.ble by_ 1000 = true) :
    OG P N E D H ⟨some d, .call ⟨.builtin .append, #[x, y], #[T, U]⟩, ty, pos, af, g⟩ (fun v H' => ∃ b cap rest, v = .slice (some ⟨b, 0, Option.none⟩) s.size (cap + 1) ∧ H' = (b, blk (xs ++ rest) e) :: H) := by
  refine ⟨by simp, fun t w hA hE => ?_⟩
  obtain ⟨i, z, ht, hi, hz, hsz, hby, hzs⟩ := hT.fact
  have h0' : 0 < s.size := Nat.le_of_ble_eq_true h0
  have h1' : s.size ≤ 1000000 := Nat.le_of_ble_eq_true h1
  have hb' : by_ ≤ 1000 := Nat.le_of_ble_eq_true hb
  have h48 : s.size * i.bytes ≤ 281474976710656 := by
    rw [hby]
    calc s.size * by_ ≤ 1000000 * 1000 := Nat.mul_le_mul h1' hb'
      _ ≤ 281474976710656 := by decide
  have hr := run_append_nil_string (P := P) w T U ty e i z ht hu hi hz s h0' (by omega) h48
  have hge := grownCap_ge w s.size 0 e
  obtain ⟨c, hc⟩ : ∃ c, grownCap w s.size 0 e = c + 1 := ⟨grownCap w s.size 0 e - 1, by omega⟩
  have hob : (Obj.cells (s.data.map (fun b => Value.int .u8 b.toNat) ++ Builtin.zeroCells z.cells (grownCap w s.size 0 e - s.size)) e (0, 0)) = blk (xs ++ (Builtin.zeroCells z.cells (grownCap w s.size 0 e - s.size)).toList) e := by
    have : (s.data.map (fun b => Value.int .u8 b.toNat) ++ Builtin.zeroCells z.cells (grownCap w s.size 0 e - s.size)) = (xs ++ (Builtin.zeroCells z.cells (grownCap w s.size 0 e - s.size)).toList).toArray := by
      apply Array.ext'; simp [← hxs]
    rw [this]; rfl
  rw [hob] at hr
  refine ⟨.value (.slice (some ⟨w.heap.size, 0, Option.none⟩) s.size (grownCap w s.size 0 e)), _, ?_, _, Fr.newD hE (blk (xs ++ (Builtin.zeroCells z.cells (grownCap w s.size 0 e - s.size)).toList) e), w.heap.size, c, (Builtin.zeroCells z.cells (grownCap w s.size 0 e - s.size)).toList, by rw [hc], rfl⟩
  simp [execOp, resolve, invoke, builtin, ev_eval hA hx, ev_eval hA hy, hr]
theorem vusd {a : Addr} {n c : Nat} {U : TypeId} (hx : ev E x = some (.slice (some a) n (c + 1))) : OQ P N E D H ⟨some d, .call ⟨.builtin .unsafeSliceData, #[x], #[U]⟩, ty, pos, af, g⟩ (.pointer (some a)) :=
  ov (by simp) (fun t w hA hE => by
    have := Lib.run_unsafeSliceData_row (P := P) w #[U] ty a n (c + 1) (by omega)
    simp [execOp, resolve, invoke, builtin, ev_eval hA hx, this])
theorem vuss {b e : Nat} {pt it : TypeId} {xs : List UInt8} {rest : List Value} (hp : P.underlying pt = some (.pointer e)) (hc : P.cellsOf e = 1) (hH : H.Perm ((b, blk (Lib.byteCells xs ++ rest) e) :: H0))
    (hx : ev E x = some (.pointer (some ⟨b, 0, Option.none⟩))) (hy : ev E y = some (.int .i64 xs.length)) (h0 : xs ≠ []) (h1 : Nat.ble xs.length 1000000 = true) :
    OG P N E D H ⟨some d, .call ⟨.builtin .unsafeString, #[x, y], #[pt, it]⟩, ty, pos, af, g⟩ (fun v H' => v = .string ⟨xs.toArray⟩ ∧ H' = H0) := by
  refine ⟨by simp, fun t w hA hE => ?_⟩
  have hE' := hE.perm hH
  have hg : w.heap[b]? = some (.cells (Lib.byteCells xs ++ rest).toArray e (0, 0)) := hE'.at_ (b, blk (Lib.byteCells xs ++ rest) e) (by simp)
  have h1' : xs.length ≤ 1000000 := Nat.le_of_ble_eq_true h1
  have hr := Lib.run_unsafeString_row (P := P) w pt it ty e hp hc b (Lib.byteCells xs ++ rest).length (by simp [World.shape?, hg]) xs h0 (by simp [Lib.byteCells]) (by omega) (by
    intro j v hv
    rw [oCell_eq (ob := blk (Lib.byteCells xs ++ rest) e) (by rw [add_block]; exact hg)]
    have hj : j < xs.length := by
      rcases Nat.lt_or_ge j xs.length with h | h
      · exact h
      · rw [List.getElem?_eq_none h] at hv; cases hv
    have h3 : (Lib.byteCells xs ++ rest)[j]? = some (.int .u8 v.toNat) := by
      rw [List.getElem?_append_left (by simpa [Lib.byteCells] using hj)]
      simp [Lib.byteCells, hv]
    unfold Addr.add
    split
    · rename_i h; subst h; simpa [oCell, blk] using h3
    · simpa [oCell, blk] using h3)
  refine ⟨.value (.string ⟨xs.toArray⟩), w.freeze ⟨b, 0, Option.none⟩ xs.length, ?_, H0, ?_, rfl, rfl⟩
  · simp [execOp, resolve, invoke, builtin, ev_eval hA hx, ev_eval hA hy, hr]
  · have hnd := hE'.nodup
    simp only [List.map_cons, List.nodup_cons] at hnd
    have hk : ∀ k, k ≠ b → (w.freeze ⟨b, 0, Option.none⟩ xs.length).heap[k]? = w.heap[k]? := by
      intro k hk
      unfold World.freeze
      split
      · rfl
      · simp only [Array.getElem?_modify]; rw [if_neg (fun h => hk h.symm)]
    have hs : (w.freeze ⟨b, 0, Option.none⟩ xs.length).heap.size = w.heap.size := by unfold World.freeze; split <;> simp
    refine ⟨by unfold World.freeze; split <;> rfl, by unfold World.freeze; split <;> rfl, by unfold World.freeze; split <;> rfl, by rw [hs]; exact Nat.le_refl _, fun k _ hn => hk k (fun h => hn ((hH.map _).mem_iff.2 (by simp [h]))), ⟨hnd.2, fun u hu => ?_⟩, fun u hu => .inl ((hH.map _).mem_iff.2 (by simp only [List.map_cons, List.mem_cons]; exact .inr (List.mem_map.2 ⟨u, hu, rfl⟩)))⟩
    rw [hk u.1 (fun h => hnd.1 (List.mem_map.2 ⟨u, hu, h⟩))]
    exact hE'.at_ u (List.mem_cons_of_mem _ hu)
theorem vcvTU {b t : Nat} {cs : List Value} {T0 : TypeId} [hH : HAt H b cs T0] (hs : P.underlying T = some (.pointer t)) (hd : P.underlying T' = some .unsafePointer) (ht : (P.info? t).map (fun i => Nat.beq i.size 0) = some false)
    (hx : ev E x = some (.pointer (some ⟨b, 0, Option.none⟩))) (hc : Nat.blt 0 cs.length = true) : OQ P N E D H ⟨some d, .convert T T' x, ty, pos, af, g⟩ (.pointer (some ⟨b, 0, Option.none⟩)) :=
  ov (by simp) (fun tt w hA hE => by
    obtain ⟨j, hj, hj2⟩ := Option.map_eq_some_iff.1 ht
    have hg := hH.get hE
    have := Lib.run_to_unsafe (P := P) w (src := T) (dst := T') (e := T0) (cells := cs.length) ⟨b, 0, Option.none⟩ hs hd hj (fun h => by rw [h] at hj2; cases hj2) (by simp [World.shape?, hg]) (Nat.le_of_ble_eq_true hc)
    simp only [execOp, ev_eval hA hx, Sem.run_bind, this, Result.andThen, Sem.run_pure])
theorem vcvFU {b u : Nat} {cs : List Value} {T0 : TypeId} [hH : HAt H b cs T0] (hs : P.underlying T = some .unsafePointer) (hd : P.underlying T' = some (.pointer u)) (hu : (P.info? u).isSome = true)
    (hl : liesAt P P.depth T0 (cs.length / P.cellsOf T0) 0 u 1 = true) (hx : ev E x = some (.pointer (some ⟨b, 0, Option.none⟩))) : OQ P N E D H ⟨some d, .convert T T' x, ty, pos, af, g⟩ (.pointer (some ⟨b, 0, Option.none⟩)) :=
  ov (by simp) (fun tt w hA hE => by
    obtain ⟨j, hj⟩ := Option.isSome_iff_exists.1 hu
    have hg := hH.get hE
    have := Lib.run_from_unsafe (P := P) w (src := T) (dst := T') (e := T0) (cells := cs.length) ⟨b, 0, Option.none⟩ hs hd hj (by simp [World.shape?, hg]) hl
    simp only [execOp, ev_eval hA hx, Sem.run_bind, this, Result.andThen, Sem.run_pure])
theorem vcne {gf : FuncId} {fn : Func} {cl a : Operand} {ats : Array TypeId} {v : Value} (hf : P.funcs[gf]? = some fn) (h1 : (fn.name == "runtime.NumGoroutine") = false) (h2 : fn.body.isNone = true) (h3 : Extern.findNext fn = Option.none) (h4 : Extern.find fn = some Extern.AbiNoEscape.same)
    (hx : ev E cl = some (.func (.func gf) #[] #[])) (ha : ev E a = some v) : OQ P N E D H ⟨some d, .call ⟨.value cl, #[a], ats⟩, ty, pos, af, g⟩ v :=
  ov (by simp) (fun t w hA hE => by
    have := run_callFunc_extern (P := P) hf h1 h2 h3 h4 #[v] w
    rw [Lib.run_noEscape] at this
    simp [execOp, resolve, Deferred.ofValue, invoke, ev_eval hA hx, ev_eval hA ha, this, Result.andThen])
end
end Go.Proofs.YtoebpndlbldfcaaGreatDoor
