/-
  What single regions answer; slices that are made with zero elements. No condition.
-/
import Derived.Test.YtffpfcomikcimaaPlp
import Derived.Test.YtffpfcomikcimaaStr
import Derived.Test.YtffpfcomikcimaaApp
import Derived.Laws.MakeOwn
namespace Go.Proofs.Ytffpfcomikcimaa
open Go
theorem totR_all : TotR allR allR :=
  ⟨fun _ h => h, ⟨⟨-32768, 0⟩, by decide, rfl⟩, ⟨⟨32768, 0⟩, by decide, rfl⟩, ⟨⟨0, -32768⟩, by decide, rfl⟩, ⟨⟨0, 32768⟩, by decide, rfl⟩, ⟨⟨-32768, -32768⟩, by decide, rfl⟩, ⟨⟨32768, 32768⟩, by decide, rfl⟩, ⟨⟨-32768, 32768⟩, by decide, rfl⟩, ⟨⟨32768, -32768⟩, by decide, rfl⟩⟩
theorem tight_all : tightP allR = some allR := totR_tight totR_all
theorem tightE_all : tightE allR = (allR, 0) := by
  unfold tightE; rw [if_pos (by decide), tight_all]; rfl
theorem row_all {x : Int} (h : -32768 ≤ x ∧ x ≤ 32768) : rowOf allR x = ⟨x, -32768, 32768⟩ := by
  unfold rowOf allR
  simp only [Rw.mk.injEq, true_and]
  omega
theorem cnt_allN : ∀ n : Nat, n ≤ 65537 → cntF (rowsN allR n) = n * 65537
  | 0, _ => by simp [rowsN, xsF, cntF]
  | n + 1, h => by
    have hx : rowL allR (allR.x.lo + n) = [⟨-32768 + n, -32768, 32768⟩] := by
      unfold rowL
      rw [show allR.x.lo = -32768 from rfl, row_all (by omega)]
      rfl
    rw [rowsN_succ, hx, cntF_snoc, cnt_allN n (by omega)]
    simp only
    omega
theorem cntE_all : cntE allR = (4295098369, 0) := by
  unfold cntE
  rw [if_pos (by decide)]
  have := cnt_allN 65537 (Nat.le_refl _)
  unfold rows
  rw [show allR.x.len = 65537 from rfl, this]
  rfl
def sqR : Rg := ⟨⟨0, 4⟩, ⟨0, 4⟩, ⟨0, 8⟩, ⟨-4, 4⟩⟩
theorem tight_sq : tightP sqR = some sqR := by decide
theorem sumE_all : sumE allR sqR = (zR, 7) := by
  unfold sumE twoE
  rw [if_pos (show chk2 allR sqR = 0 by decide), tight_all, tight_sq]
  decide
theorem reach_sq : ∃ w, reachE sqR 32768 = (w, 0) ∧ w.x.hi = 32768 ∧ w.x.lo = -32768 := by
  rcases reach_cases sqR 32768 with ⟨t, w, h1, h2, h3, h4, h5, h6⟩ | ⟨t, e, w, f, h1, h2, h3⟩
  · refine ⟨w, h6, ?_⟩
    rw [tight_sq] at h2
    obtain rfl : sqR = t := by simpa using h2
    have hf := far_vec (n := 32768) (x := 32768) (y := 0) (by omega) (by omega)
    have ht := tight_totR h5
    have hin : ∀ x : Int, -32768 ≤ x ∧ x ≤ 32768 → inR (wideR sqR 32768 (farP 32768)) ⟨x, 0⟩ := by
      intro x hx
      generalize farP 32768 = k at hf
      unfold inR wideR sqR Bd.wide intoI
      simp only
      omega
    have a1 := ht.mem _ (hin (-32768) (by omega))
    have a2 := ht.mem _ (hin 32768 (by omega))
    obtain ⟨p, p1, p2⟩ := ht.xlo
    obtain ⟨q, q1, q2⟩ := ht.xhi
    have b1 : (wideR sqR 32768 (farP 32768)).x.lo ≤ p.x := p1.1.1
    have b2 : q.x ≤ (wideR sqR 32768 (farP 32768)).x.hi := q1.1.2
    have c1 : (wideR sqR 32768 (farP 32768)).x.lo = -32768 := rfl
    have c2 : (wideR sqR 32768 (farP 32768)).x.hi = 32768 := rfl
    have d1 : w.x.lo ≤ -32768 := a1.1.1
    have d2 : (32768 : Int) ≤ w.x.hi := a2.1.2
    omega
  · exfalso
    have e1 : tightE sqR = (sqR, 0) := by decide
    rw [e1] at h1
    obtain ⟨rfl, rfl⟩ : sqR = t ∧ 0 = e := by simpa using h1
    unfold reachE at h2
    rw [if_pos (by decide), if_pos (by decide), tight_sq] at h2
    simp only at h2
    cases ht : tightP (wideR sqR 32768 (farP 32768)) with
    | some w' => rw [ht] at h2; simp only [optE, errO, Option.isSome_some, if_true, Prod.mk.injEq] at h2; omega
    | none =>
      refine tight_none.1 ht ⟨0, 0⟩ ?_
      have hf := far_vec (n := 32768) (x := 32768) (y := 0) (by omega) (by omega)
      generalize farP 32768 = k at hf
      unfold inR wideR sqR Bd.wide intoI
      simp only
      omega
theorem rootE_40 : rootE 1099511627776 = (1048576, 0) := by
  unfold rootE
  rw [if_pos (by decide), rootP_eq (r := 1048576) (by unfold IsRt; decide)]
theorem rootE_24 : rootE 24 = (4, 0) := by
  unfold rootE
  rw [if_pos (by decide), rootP_eq (r := 4) (by unfold IsRt; decide)]
theorem rootE_m : rootE (-1) = (0, 7) := by unfold rootE; rw [if_neg (by decide)]
theorem rootE_41 : rootE 1099511627777 = (0, 7) := by unfold rootE; rw [if_neg (by decide)]
theorem name_0 : nameB (ByteArray.mk #[]) = false := nameB_f (fun h => by have := h.1.1; simp [ByteArray.size] at this)
theorem name_1 : nameB (ByteArray.mk #[50, 100]) = false := nameB_f (fun h => by
  have h0 := h.2 0 (by decide)
  rw [show goodP (ByteArray.mk #[50, 100]) 0 = (letP 50 ∨ (0 : Nat) ≠ 0 ∧ ((50 : Int) = 95 ∨ 48 ≤ (50 : Int) ∧ (50 : Int) ≤ 57)) from rfl] at h0
  unfold letP at h0
  omega)
theorem name_2 : nameB (ByteArray.mk #[97, 95, 57]) = true := nameB_t ⟨by decide, fun i hi => by
  have : i < 3 := hi
  obtain rfl | rfl | rfl : i = 0 ∨ i = 1 ∨ i = 2 := by omega
  · exact .inl (by unfold letP; decide)
  · exact .inr ⟨by decide, .inl rfl⟩
  · exact .inr ⟨by decide, .inr (by decide)⟩⟩
theorem name_17 {a : Array UInt8} (h : a.size = 17) : nameB (ByteArray.mk a) = false := nameB_f (fun hn => by
  have := hn.1.2
  unfold ByteArray.size at this
  simp only [h] at this
  omega)
/-! ### Zero elements -/
theorem rep_flat {α : Type} (enc : α → List Value) (x : α) : ∀ n, (List.replicate n x).flatMap enc = rep n (enc x)
  | 0 => rfl
  | n + 1 => by rw [List.replicate_succ, List.flatMap_cons, rep_flat enc x n, rep, app_eq]
class TMk (P : Program) (T : TypeId) (e esz by_ : outParam Nat) (zs : outParam (List Value)) : Prop where
  und : P.underlying T = some (.slice e)
  inf : ∃ i z, P.info? e = some i ∧ i.zero = some z ∧ z.cells = zs.toArray ∧ i.size = esz ∧ i.bytes = by_
theorem mkTMk {P : Program} {T e size bytes : Nat} {z : Value} {zs : List Value} (ht : P.underlying T = some (.slice e)) (hi : (P.info? e).map (fun i => (i.zero, i.size, i.bytes)) = some (some z, size, bytes)) (hz : z.cells = zs.toArray) : TMk P T e size bytes zs := by
  obtain ⟨i, h1, h2⟩ := Option.map_eq_some_iff.1 hi
  simp only [Prod.mk.injEq] at h2
  exact ⟨ht, i, z, h1, h2.1, hz, h2.2.1, h2.2.2⟩
section
variable {P : Program} {N : Nat} {E : Env} {D : List Deferred} {H : Heap} {d : Nat} {T ty : TypeId} {pos : String} {af : Array Edge} {g : Option (Nat × Bool)}
theorem vmks {n e esz by_ : Nat} {zs : List Value} [hT : TMk P T e esz by_ zs] (hz : Nat.beq zs.length esz = true) (h0 : Nat.blt 0 esz = true) (hn : Nat.ble (by_ * n) 281474976710656 = true) (h6 : Nat.ble n 9223372036854775807 = true) :
    OG P N E D H ⟨some d, .makeSlice T (.const (.int .i64 (n : Int))) (.const (.int .i64 (n : Int))), ty, pos, af, g⟩ (fun v H' => ∃ b, v = .slice (some ⟨b, 0, Option.none⟩) n n ∧ H' = (b, blk (rep n zs) e) :: H) := by
  obtain ⟨i, z, h1, h2, h3, h4, h5⟩ := hT.inf
  have hz := Nat.eq_of_beq_eq_true hz
  have h0 := Nat.le_of_ble_eq_true h0
  have hn := Nat.le_of_ble_eq_true hn
  have h6 := Nat.le_of_ble_eq_true h6
  refine ⟨by simp, fun t w hA hE => ?_⟩
  have hb' : (i.bytes : Int) * (n : Int) ≤ 281474976710656 := by
    have h : ((i.bytes * n : Nat) : Int) ≤ 281474976710656 := by rw [h5]; omega
    rwa [Int.natCast_mul] at h
  have hr := run_make (P := P) w T e i z hT.und h1 h2 .i64 .i64 n n (by omega) (Int.le_refl _) hb' (by omega)
  have hm : madeCells z.cells (n * i.size) = (rep n zs).toArray := by
    unfold madeCells
    apply Array.ext'
    rw [h3, h4]
    refine List.ext_getElem? fun j => ?_
    by_cases hj : j < n * esz
    · have hp := Nat.mod_lt j h0
      simp only [Array.toList_map, Array.toList_range, List.getElem?_map, List.getElem?_range hj, Option.map_some]
      rw [rep_get _ _ _ (by rw [hz]; exact hj)]
      simp only [List.size_toArray, hz]
      rw [getElem!_pos _ _ (by simp [hz, hp])]
      simp [hz, hp]
    · have h5 : (rep n zs)[j]? = Option.none := List.getElem?_eq_none (by rw [rep_len, hz]; omega)
      have h6 : ((Array.range (n * esz)).map (fun i => zs.toArray[i % zs.toArray.size]!)).toList[j]? = Option.none := List.getElem?_eq_none (by simp; omega)
      rw [h6, h5]
  simp only [Int.toNat_natCast, hm] at hr
  refine ⟨.value _, w.alloc (.cells (rep n zs).toArray e), ?_, (w.heap.size, blk (rep n zs) e) :: H, Fr.new hE _, w.heap.size, rfl, rfl⟩
  simp [execOp, Act.eval, hr]
end
end Go.Proofs.Ytffpfcomikcimaa
