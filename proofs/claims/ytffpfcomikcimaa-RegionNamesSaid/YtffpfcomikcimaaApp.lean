/-
  Slices that grow: append to a slice of one's own. No condition.
-/
import Derived.Test.YtffpfcomikcimaaSlc
import Derived.Laws.AppendOwn
import Derived.Laws.Cover3
namespace Go.Proofs.Ytffpfcomikcimaa
open Go

/-- What append asks of a slice's type. -/
class TAp (P : Program) (T : TypeId) (e size bytes : outParam Nat) : Prop where
  fact : ∃ i z, P.underlying T = some (.slice e) ∧ P.info? e = some i ∧ i.zero = some z ∧ i.size = size ∧ i.bytes = bytes ∧ z.cells.size = size

theorem mkTAp {P : Program} {T e size bytes : Nat} {z : Value} (ht : P.underlying T = some (.slice e)) (hi : (P.info? e).map (fun i => (i.zero, i.size, i.bytes)) = some (some z, size, bytes)) (hz : z.cells.size = size) : TAp P T e size bytes := by
  obtain ⟨i, h1, h2⟩ := Option.map_eq_some_iff.1 hi
  simp only [Prod.mk.injEq] at h2
  exact ⟨i, z, ht, h1, h2.1, h2.2.1, h2.2.2, hz⟩

/-- A slice of one's own: nil, or the beginning of one block. -/
def OwnS (e size : Nat) (v : Value) (n : Nat) (xs : List Value) (B : Heap) : Prop :=
  (v = .slice Option.none 0 0 ∧ n = 0 ∧ xs = [] ∧ B = []) ∨
  ∃ g cap cur, v = .slice (some ⟨g, 0, Option.none⟩) n cap ∧ B = [(g, blk cur e)] ∧ n ≤ cap ∧ cap ≤ maxLen ∧ cur.length = cap * size ∧ cur.take (n * size) = xs

theorem OwnS.nil {e size : Nat} : OwnS e size (.slice Option.none 0 0) 0 [] [] := .inl ⟨rfl, rfl, rfl, rfl⟩

theorem Fr.newD {H : Heap} {w : World} (hE : Emb H w) (o : Obj) : Fr H w ((w.heap.size, o) :: H) (w.drew.alloc o) := by
  have h := Fr.new hE o
  exact ⟨h.os, h.tape, h.output, h.size, h.keep, ⟨h.emb.nodup, h.emb.at_⟩, h.dom⟩

section
variable {P : Program} {N : Nat} {E : Env} {D : List Deferred} {H H0 B : Heap}
variable {d : Nat} {x y : Operand} {T ty : TypeId} {pos : String} {af : Array Edge} {g : Option (Nat × Bool)}

theorem vapp {v : Value} {n m c e size bytes : Nat} {xs news : List Value} {a : Addr} [hT : TAp P T e size bytes] (hx : ev E x = some v) (hy : ev E y = some (.slice (some a) m c)) (hown : OwnS e size v n xs B) (hp : H.Perm (B ++ H0))
    (hl : news.length = m * size) (hnews : ∀ j u, news[j]? = some u → ∃ ob, (a.block, ob) ∈ H ∧ oCell ob (a.add j) = some u) (h1 : ∀ u ∈ news, u.oneCell' = true) (hm : 0 < m) (h63 : n + m ≤ maxLen) (hb : (n + m) * bytes ≤ 140737488355328) :
    OG P N E D H ⟨some d, .call ⟨.builtin .append, #[x, y], #[T, T]⟩, ty, pos, af, g⟩ (fun u H' => ∃ B', OwnS e size u (n + m) (xs ++ news) B' ∧ u ≠ .slice Option.none 0 0 ∧ H' = B' ++ H0) := by
  refine ⟨by simp, fun t w hA hE => ?_⟩
  obtain ⟨i, z, ht, hi, hz, rfl, rfl, hzs⟩ := hT.fact
  have hE' := hE.perm hp
  have hcell : ∀ j u, news[j]? = some u → w.cell? (a.add j) = some u := fun j u hu => by
    obtain ⟨ob, hm, hc⟩ := hnews j u hu
    rw [oCell_eq (ob := ob) (by rw [add_block]; exact hE.at_ _ hm)]; exact hc
  have hsm : n + m ≤ 9223372036854775807 := by simp only [maxLen] at h63; omega
  have hex : ∀ (v' : Value) (w' : World) (ats : Array TypeId), (Builtin.append_ #[T, T] ty #[v, .slice (some a) m c]).run P w = .ok v' w' →
      (execOp (Act.eval ⟨t, D⟩) ⟨some d, .call ⟨.builtin .append, #[x, y], #[T, T]⟩, ty, pos, af, g⟩).run P w = .ok (.value v') w' := by
    intro v' w' _ h
    simp [execOp, resolve, invoke, builtin, ev_eval hA hx, ev_eval hA hy, h]
  -- a new block
  have fresh : ∀ (old : Nat) (B0 : Heap), old < n + m → xs.length = n * i.size → H.Perm (B0 ++ H0) →
      ∃ H', Fr H w H' (w.drew.alloc (.cells (xs.toArray ++ news.toArray ++ Builtin.zeroCells z.cells (grownCap w (n + m) old e - (n + m))) e)) ∧
        (∃ B', OwnS e i.size (.slice (some ⟨w.heap.size, 0, Option.none⟩) (n + m) (grownCap w (n + m) old e)) (n + m) (xs ++ news) B' ∧ (Value.slice (some ⟨w.heap.size, 0, Option.none⟩) (n + m) (grownCap w (n + m) old e)) ≠ .slice Option.none 0 0 ∧ H' = B' ++ H0) := by
    intro old B0 ho hlx hp0
    have hge := grownCap_ge w (n + m) old e
    have hcm : grownCap w (n + m) old e ≤ maxLen := grownCap_le_maxLen w (n + m) old e h63
    have hF := Fr.newD hE (.cells (xs.toArray ++ news.toArray ++ Builtin.zeroCells z.cells (grownCap w (n + m) old e - (n + m))) e)
    have hlen : (xs ++ news).length = (n + m) * i.size := by rw [List.length_append, hlx, hl, Nat.add_mul]
    refine ⟨[(w.heap.size, blk (xs ++ news ++ (Builtin.zeroCells z.cells (grownCap w (n + m) old e - (n + m))).toList) e)] ++ H0, ?_, _, .inr ⟨_, _, _, rfl, rfl, hge, hcm, ?_, ?_⟩, by simp, rfl⟩
    · have hs : ([(w.heap.size, Obj.cells (xs.toArray ++ news.toArray ++ Builtin.zeroCells z.cells (grownCap w (n + m) old e - (n + m))) e (0, 0))] ++ H0).Sublist ((w.heap.size, Obj.cells (xs.toArray ++ news.toArray ++ Builtin.zeroCells z.cells (grownCap w (n + m) old e - (n + m))) e (0, 0)) :: (B0 ++ H0)) :=
        List.Sublist.cons_cons _ (List.sublist_append_right _ _)
      have h3 := (hF.perm (.refl _) (hp0.cons _)).sub hs
      have e : (xs.toArray ++ news.toArray ++ Builtin.zeroCells z.cells (grownCap w (n + m) old e - (n + m))) = (xs ++ news ++ (Builtin.zeroCells z.cells (grownCap w (n + m) old e - (n + m))).toList).toArray := by
        apply Array.ext'; simp
      rw [e] at h3 ⊢
      exact h3
    · rw [List.length_append, hlen, Array.length_toList, size_zeroCells, hzs, ← Nat.add_mul]; congr 1; omega
    · rw [← hlen]; exact List.take_left
  rcases hown with ⟨rfl, rfl, rfl, rfl⟩ | ⟨gb, cap, cur, rfl, rfl, hnc, hcm, hcs, htake⟩
  · have hr := run_append_nil (P := P) w T ty e i z ht hi hz a m c news hl hcell hm (by omega) (by rw [Nat.zero_add] at hb; omega)
    obtain ⟨H', hF, hR⟩ := fresh 0 [] (by omega) (by simp) hp
    simp only [Nat.zero_add, List.nil_append, Array.empty_append] at hF hR ⊢
    exact ⟨_, _, hex _ _ #[] hr, H', hF, hR⟩
  · have hlx : xs.length = n * i.size := by rw [← htake, List.length_take, hcs, Nat.min_eq_left (Nat.mul_le_mul_right _ hnc)]
    have hg : w.heap[gb]? = some (.cells cur.toArray e (0, 0)) := hE'.at_ (gb, blk cur e) (by simp)
    by_cases hroom : n + m ≤ cap
    · have hfit : n * i.size + news.length ≤ cur.toArray.size := by rw [hl, List.size_toArray, hcs, ← Nat.add_mul]; exact Nat.mul_le_mul_right _ hroom
      have hr := run_append_room (P := P) w T ty e i ht hi gb n cap cur.toArray hg a m c news hl hcell h1 hroom hfit
      have hlen : (xs ++ news).length = (n + m) * i.size := by rw [List.length_append, hlx, hl, Nat.add_mul]
      have hup : HUp ([(gb, blk cur e)] ++ H0) gb cur e (fun c => (gb, blk c e) :: H0) := HUp.head
      have hF := hup.set hE' (c := cur.take (n * i.size) ++ news ++ cur.drop (n * i.size + news.length)) (setRow_heap w gb cur.toArray _ e _ hg) (fun k hk => setRow_other w gb k _ hk) (by simp [World.setRow]) rfl rfl rfl
      refine ⟨_, _, hex _ _ #[] hr, _, hF.perm hp.symm (.refl _), _, .inr ⟨gb, cap, _, rfl, rfl, hroom, hcm, ?_, ?_⟩, by simp, rfl⟩
      · simp only [List.length_append, List.length_take, List.length_drop]
        rw [List.size_toArray] at hfit
        omega
      · rw [htake, ← hlen]
        exact List.take_left
    · have holds : ∀ j u, xs[j]? = some u → w.cell? ((⟨gb, 0, Option.none⟩ : Addr).add j) = some u := fun j u hu => by
        rw [oCell_eq (ob := blk cur e) (by rw [add_block]; exact hg)]
        rw [← htake, List.getElem?_take] at hu
        split at hu
        · unfold Addr.add
          split
          · rename_i e0; subst e0; simpa [oCell, blk] using hu
          · simpa [oCell, blk] using hu
        · cases hu
      have hcap := growslice_fits (need := n + m) (old := cap) (bytes := i.bytes) (by omega) hb
      have hr := run_append_grow (P := P) w T ty e i z ht hi hz ⟨gb, 0, Option.none⟩ n cap xs hlx holds a m c news hl hcell (by omega) (by omega) hcap
      obtain ⟨H', hF, hR⟩ := fresh cap [(gb, blk cur e)] (by omega) hlx hp
      exact ⟨_, _, hex _ _ #[] hr, H', hF, hR⟩
/-- A slice, compared with nil. -/
theorem veqsn {oa : Option Addr} {n c e esz : Nat} {T' : TypeId} [hT : TSl P T e esz] (hx : ev E x = some (.slice oa n c)) (hy : ev E y = some (.slice Option.none 0 0)) :
    OQ P N E D H ⟨some d, .binOp .eql T x y T', ty, pos, af, g⟩ (.bool oa.isNone) :=
  ov (by simp) (fun t w hA _ => by
    have := run_equal_slice_nil (P := P) w T e oa n c hT.und
    simp [execOp, ev_eval hA hx, ev_eval hA hy, eqGuard, binOp, this])
theorem vnesn {oa : Option Addr} {n c e esz : Nat} {T' : TypeId} [hT : TSl P T e esz] (hx : ev E x = some (.slice oa n c)) (hy : ev E y = some (.slice Option.none 0 0)) :
    OQ P N E D H ⟨some d, .binOp .neq T x y T', ty, pos, af, g⟩ (.bool (!oa.isNone)) :=
  ov (by simp) (fun t w hA _ => by
    have := run_neq_slice_nil (P := P) w T e oa n c hT.und
    simp [execOp, ev_eval hA hx, ev_eval hA hy, eqGuard, this])
/-- Nothing is appended to a slice of one's own. -/
theorem vapp0 {v : Value} {n e size bytes : Nat} {xs : List Value} [hT : TAp P T e size bytes] (hx : ev E x = some v) (hy : ev E y = some (.slice Option.none 0 0)) (hown : OwnS e size v n xs B) :
    OQ P N E D H ⟨some d, .call ⟨.builtin .append, #[x, y], #[T, T]⟩, ty, pos, af, g⟩ v :=
  ov (by simp) (fun t w hA hE => by
    obtain ⟨i, z, ht, hi, hz, rfl, rfl, hzs⟩ := hT.fact
    rcases hown with ⟨rfl, rfl, rfl, rfl⟩ | ⟨gb, cap, cur, rfl, rfl, hnc, hcm, hcs, htake⟩
    · simp [execOp, resolve, invoke, builtin, ev_eval hA hx, ev_eval hA hy, Builtin.append_, run_underlying ht, sizeOf, typeInfo, hi, Builtin.lenOf, Builtin.firstCells]
    · simp [execOp, resolve, invoke, builtin, ev_eval hA hx, ev_eval hA hy, Builtin.append_, run_underlying ht, sizeOf, typeInfo, hi, Builtin.lenOf, Builtin.firstCells, hnc, storeCells])
/-- A slice literal without elements. -/
theorem vbs0 {e esz : Nat} [h1 : TSl P T e esz] :
    OG P N E D H ⟨some d, .buildSlice T 0 #[], ty, pos, af, g⟩ (fun v H' => ∃ b, v = .slice (some ⟨b, 0, Option.none⟩) 0 0 ∧ H' = (b, blk [] e) :: H) := by
  refine ⟨by simp, fun t w hA hE => ⟨.value _, { w with heap := w.heap.push (.cells #[] e) }, ?_, (w.heap.size, blk [] e) :: H, Fr.new hE _, w.heap.size, rfl, rfl⟩⟩
  simp only [execOp, Instr.buildSlice, Sem.run_bind, run_underlying h1.und, Result.andThen, h1.size, Sem.run_pure]
  simp [Instr.fill, newRow, newObj, Sem.run, Result.andThen]
  have h0 : Array.map (fun _ => (default : Value)) (Array.range 0) = #[] := Array.eq_empty_of_size_eq_zero (by simp)
  rw [h0]
theorem OwnS.empty {e size b : Nat} : OwnS e size (.slice (some ⟨b, 0, Option.none⟩) 0 0) 0 [] [(b, blk [] e)] := .inr ⟨b, 0, [], rfl, rfl, Nat.le_refl _, by simp [maxLen], by simp, by simp⟩
end
end Go.Proofs.Ytffpfcomikcimaa
