/-
  Walks of iterators of package region. Each says what the iterator promises.
-/
import Derived.Test.YtffpfcomikcimaaWa
import Derived.Test.YtffpfcomikcimaaMor
import Derived.Test.YtffpfcomikcimaaPlb
namespace Go.Proofs.Ytffpfcomikcimaa
open Go
set_option maxRecDepth 100000

abbrev ptr (b : Nat) : Value := .pointer (some ⟨b, 0, Option.none⟩)
abbrev clR (r : Rg) : List Value := [I r.x.lo, I r.x.hi, I r.y.lo, I r.y.hi, I r.s.lo, I r.s.hi, I r.d.lo, I r.d.hi]
abbrev vW (w : Rw) : Value := ag3 w.x w.a w.b
theorem rowsN_end {r : Rg} {x : Int} (h1 : r.x.lo ≤ x) (h2 : x = r.x.lo ∨ x ≤ r.x.hi + 1) (h3 : ¬ x ≤ r.x.hi) : rowsN r (x - r.x.lo).toNat = rows r := by
  unfold rows Bd.len; congr 1; omega
theorem rowsN_next {r : Rg} {x : Int} (h1 : r.x.lo ≤ x) : rowsN r (x + 1 - r.x.lo).toNat = rowsN r (x - r.x.lo).toNat ++ rowL r x := by
  rw [show (x + 1 - r.x.lo).toNat = (x - r.x.lo).toNat + 1 by omega, rowsN_succ, show r.x.lo + ((x - r.x.lo).toNat : Int) = x by omega]
theorem rowsN_nil {r : Rg} {x : Int} (h1 : r.x.lo ≤ x) (h : ¬ (rowOf r x).a ≤ (rowOf r x).b) : rowsN r (x + 1 - r.x.lo).toNat = rowsN r (x - r.x.lo).toNat := by
  rw [rowsN_next h1, rowL, if_neg h, List.append_nil]
theorem rowsN_one {r : Rg} {x : Int} (h1 : r.x.lo ≤ x) (h : (rowOf r x).a ≤ (rowOf r x).b) : rowsN r (x + 1 - r.x.lo).toNat = rowsN r (x - r.x.lo).toNat ++ [rowOf r x] := by
  rw [rowsN_next h1, rowL, if_pos h]
theorem rows_at {r : Rg} {x : Int} (h1 : r.x.lo ≤ x) (h2 : x ≤ r.x.hi) (h : (rowOf r x).a ≤ (rowOf r x).b) : ∃ post, rows r = rowsN r (x - r.x.lo).toNat ++ rowOf r x :: post := by
  have := rows_split r (x - r.x.lo).toNat (by unfold Bd.len; omega) (by rw [show r.x.lo + ((x - r.x.lo).toNat : Int) = x by omega]; exact h)
  rwa [show r.x.lo + ((x - r.x.lo).toNat : Int) = x by omega] at this

abbrev bR (b : Nat) (r : Rg) : Nat × Obj := (b, blk (clR r) 96)
/-- (paravane/region.four).rows$1 -/
theorem it_rows (r : Rg) (hs : r.sm 1099511627776) (b : Nat) : VIt Try.prog 137 [ptr b] (fun w => [vW w]) (rows r) [bR b r] := by
  unfold Rg.sm Bd.sm at hs
  intro yf ya yc J Jx Hc0 hJ0 hy
  change VCall _ _ _ (bR b r :: Hc0) _
  refine vcall_of_vrun Try.func137 rfl (N := 56) rfl rfl ?_
  refine vseq ?_
  refine vregion ?_
  refine vone rfl (vxq (via rfl rfl (by omega)) rfl rfl ?_)
  refine vone rfl (vxq (vfa rfl) rfl rfl ?_)
  refine vone rfl (vxq (vld1 rfl rfl) rfl rfl ?_)
  refine vone rfl (vxq (vas rfl) rfl rfl ?_)
  refine vnil ?_
  refine vblock ?_
  refine vwhile (σ := Int × Heap) (fun ⟨x, Hc⟩ => (r.x.hi + 1 - x).toNat) (fun ⟨x, Hc⟩ => [(0, .func yf ya yc), (1, ptr b), (3, I x)]) (fun ⟨x, Hc⟩ => bR b r :: Hc) (fun ⟨x, Hc⟩ => (r.x.lo ≤ x ∧ (x = r.x.lo ∨ x ≤ r.x.hi + 1)) ∧ J (rowsN r (x - r.x.lo).toNat) Hc) (r.x.lo, Hc0) ⟨⟨by omega, .inl rfl⟩, by rw [Int.sub_self]; exact hJ0⟩ ⟨rfl, rfl, rfl, True.intro⟩ (by repeat first | exact .refl _ | refine .cons_cons _ ?_ | refine .cons _ ?_ | exact sl0 _ | refine slA ?_) ?_
  rintro ⟨x, Hc⟩ ⟨⟨hx1, hx2⟩, hJ⟩ IH
  change VRun _ _ _ _ _ [(0, .func yf ya yc), (1, ptr b), (3, I x)] _ (bR b r :: Hc) _
  refine vseq ?_
  refine vseq ?_
  refine vregion ?_
  refine vone rfl (vxq (vmv rfl) rfl rfl ?_)
  refine vone rfl (vxq (via rfl rfl (by omega)) rfl rfl ?_)
  refine vone rfl (vxq (vfa rfl) rfl rfl ?_)
  refine vone rfl (vxq (vld1 rfl rfl) rfl rfl ?_)
  refine vone rfl (vxq (vleq rfl rfl) rfl rfl ?_)
  refine vnil ?_
  refine vcondd rfl (fun h12 => ?_) (fun h12 => ?_)
  · skip
    refine vskip ?_
    refine vseq ?_
    refine vblock ?_
    refine vseq ?_
    refine vregion ?_
    refine vone rfl (vxq (vmv rfl) rfl rfl ?_)
    refine vone rfl (vxq (via rfl rfl (by omega)) rfl rfl ?_)
    refine vone rfl (vxq (vfa rfl) rfl rfl ?_)
    refine vone rfl (vxq (vld1 rfl rfl) rfl rfl ?_)
    refine vone rfl (vxq (via rfl rfl (by omega)) rfl rfl ?_)
    refine vone rfl (vxq (vfa rfl) rfl rfl ?_)
    refine vone rfl (vxq (vld1 rfl rfl) rfl rfl ?_)
    refine vone rfl (vxq (vmv rfl) rfl rfl ?_)
    refine vone rfl (vxq (vsub rfl rfl (by unfold InR; omega)) rfl rfl ?_)
    refine vone rfl (vxq (vmv rfl) rfl rfl ?_)
    refine vone rfl (vxq (via rfl rfl (by omega)) rfl rfl ?_)
    refine vone rfl (vxq (vfa rfl) rfl rfl ?_)
    refine vone rfl (vxq (vld1 rfl rfl) rfl rfl ?_)
    refine vone rfl (vxq (vsub rfl rfl (by unfold InR; omega)) rfl rfl ?_)
    refine vone rfl (vxq (vmax3 rfl rfl rfl) rfl rfl ?_)
    refine vone rfl (vxq (via rfl rfl (by omega)) rfl rfl ?_)
    refine vone rfl (vxq (vfa rfl) rfl rfl ?_)
    refine vone rfl (vxq (vld1 rfl rfl) rfl rfl ?_)
    refine vone rfl (vxq (via rfl rfl (by omega)) rfl rfl ?_)
    refine vone rfl (vxq (vfa rfl) rfl rfl ?_)
    refine vone rfl (vxq (vld1 rfl rfl) rfl rfl ?_)
    refine vone rfl (vxq (vmv rfl) rfl rfl ?_)
    refine vone rfl (vxq (vsub rfl rfl (by unfold InR; omega)) rfl rfl ?_)
    refine vone rfl (vxq (vmv rfl) rfl rfl ?_)
    refine vone rfl (vxq (via rfl rfl (by omega)) rfl rfl ?_)
    refine vone rfl (vxq (vfa rfl) rfl rfl ?_)
    refine vone rfl (vxq (vld1 rfl rfl) rfl rfl ?_)
    refine vone rfl (vxq (vsub rfl rfl (by unfold InR; omega)) rfl rfl ?_)
    refine vone rfl (vxq (vmin3 rfl rfl rfl) rfl rfl ?_)
    refine vone rfl (vxq (vbd rfl rfl) rfl rfl ?_)
    refine vone rfl (vxa valloc rfl rfl (fun b1 => ?_))
    refine vone rfl (vxs (vstn rfl rfl rfl rfl rfl) rfl ?_)
    refine vnil ?_
    refine vseq ?_
    refine vregion ?_
    refine vone rfl (vxq (vfa rfl) rfl rfl ?_)
    refine vone rfl (vxq (vld1 rfl rfl) rfl rfl ?_)
    refine vone rfl (vxq (vfa rfl) rfl rfl ?_)
    refine vone rfl (vxq (vld1 rfl rfl) rfl rfl ?_)
    refine vone rfl (vxq (vleq rfl rfl) rfl rfl ?_)
    refine vone rfl (vxq (vmv rfl) rfl rfl ?_)
    refine vsplitd (d := 50) rfl (fun h50 => ?_) (fun h50 => ?_)
    · skip
      refine vyes rfl rfl rfl (vxq (vmv rfl) rfl rfl ?_)
      refine vyes rfl rfl rfl (vxq (vldn rfl rfl) rfl rfl ?_)
      have hab : (rowOf r x).a ≤ (rowOf r x).b := h50
      obtain ⟨post, hps⟩ := rows_at hx1 h12 hab
      refine vyes rfl rfl rfl (vxg (vcy rfl rfl (VY.b2 (hy _ _ _ hps _ hJ))) rfl rfl ?_)
      rintro _ _ ⟨bb, rfl, Hc2, rfl, hJ2⟩
      rcases bb with _ | _
      · skip
        refine vyes rfl rfl rfl (vxq (vnot rfl) rfl rfl ?_)
        refine vone rfl (vxq (vpkt rfl rfl) rfl rfl ?_)
        refine vnil ?_
        refine vcondt rfl ?_
        refine vret (vr0 (H' := bR b r :: _) Try.func137 rfl  (by repeat first | exact .refl _ | refine .cons_cons _ ?_ | refine .cons _ ?_ | exact sl0 _ | refine slA ?_) ?_)
        first | exact ⟨rfl, _, rfl, .inr hJ2⟩ | exact ⟨rfl, _, rfl, .inl (by rw [← rowsN_end hx1 hx2 h12]; exact hJ)⟩
      · skip
        refine vyes rfl rfl rfl (vxq (vnot rfl) rfl rfl ?_)
        refine vone rfl (vxq (vpkt rfl rfl) rfl rfl ?_)
        refine vnil ?_
        refine vcondf rfl ?_
        refine vskip ?_
        refine vinblock ?_
        refine vregion ?_
        refine vone rfl (vxq (vmv rfl) rfl rfl ?_)
        refine vone rfl (vxq (vadd rfl rfl (by unfold InR; omega)) rfl rfl ?_)
        refine vone rfl (vxq (vas rfl) rfl rfl ?_)
        refine vnil ?_
        first | exact vback (IH (x + 1, Hc2) ⟨⟨by omega, by omega⟩, by rw [rowsN_one hx1 hab]; exact hJ2⟩ (by show (_ : Int).toNat < (_ : Int).toNat; omega)) ⟨rfl, rfl, rfl, True.intro⟩ (by repeat first | exact .refl _ | refine .cons_cons _ ?_ | refine .cons _ ?_ | exact sl0 _ | refine slA ?_) | exact vback (IH (x + 1, Hc) ⟨⟨by omega, by omega⟩, by rw [rowsN_nil hx1 (by assumption)]; exact hJ⟩ (by show (_ : Int).toNat < (_ : Int).toNat; omega)) ⟨rfl, rfl, rfl, True.intro⟩ (by repeat first | exact .refl _ | refine .cons_cons _ ?_ | refine .cons _ ?_ | exact sl0 _ | refine slA ?_)
    · skip
      refine vno rfl rfl rfl rfl rfl ?_
      refine vno rfl rfl rfl rfl rfl ?_
      refine vno rfl rfl rfl rfl rfl ?_
      refine vno rfl rfl rfl rfl rfl ?_
      refine vone rfl (vxq (vpkf rfl rfl) rfl rfl ?_)
      refine vnil ?_
      refine vcondf rfl ?_
      refine vskip ?_
      refine vinblock ?_
      refine vregion ?_
      refine vone rfl (vxq (vmv rfl) rfl rfl ?_)
      refine vone rfl (vxq (vadd rfl rfl (by unfold InR; omega)) rfl rfl ?_)
      refine vone rfl (vxq (vas rfl) rfl rfl ?_)
      refine vnil ?_
      first | exact vback (IH (x + 1, Hc2) ⟨⟨by omega, by omega⟩, by rw [rowsN_one hx1 hab]; exact hJ2⟩ (by show (_ : Int).toNat < (_ : Int).toNat; omega)) ⟨rfl, rfl, rfl, True.intro⟩ (by repeat first | exact .refl _ | refine .cons_cons _ ?_ | refine .cons _ ?_ | exact sl0 _ | refine slA ?_) | exact vback (IH (x + 1, Hc) ⟨⟨by omega, by omega⟩, by rw [rowsN_nil hx1 (by assumption)]; exact hJ⟩ (by show (_ : Int).toNat < (_ : Int).toNat; omega)) ⟨rfl, rfl, rfl, True.intro⟩ (by repeat first | exact .refl _ | refine .cons_cons _ ?_ | refine .cons _ ?_ | exact sl0 _ | refine slA ?_)
  · skip
    refine vexit (k' := _) rfl ?_
    refine vend (vr0 (H' := bR b r :: _) Try.func137 rfl  (by repeat first | exact .refl _ | refine .cons_cons _ ?_ | refine .cons _ ?_ | exact sl0 _ | refine slA ?_) ?_)
    first | exact ⟨rfl, _, rfl, .inr hJ2⟩ | exact ⟨rfl, _, rfl, .inl (by rw [← rowsN_end hx1 hx2 h12]; exact hJ)⟩
/-- (paravane/region.four).rows -/
theorem n_rows (r : Rg) : VNew Try.prog 83 [vR r] (blk (clR r) 96) (fun b => .func (.func 137) #[] #[ptr b]) := by
  intro H
  refine vcall_of_vrun Try.func83 rfl (N := 4) rfl rfl ?_
  refine vseq ?_
  refine vregion ?_
  refine vone rfl (vxa (vbox rfl rfl) rfl rfl (fun b1 => ?_))
  refine vone rfl (vxq (vas rfl) rfl rfl ?_)
  refine vnil ?_
  refine vseq ?_
  refine vregion ?_
  refine vone rfl (vxq (vmf rfl) rfl rfl ?_)
  refine vone rfl (vxq (vas rfl) rfl rfl ?_)
  refine vnil ?_
  refine vret (vr1 (H' := bR b1 r :: H) Try.func83 rfl (.tmp rfl) (by repeat first | exact .refl _ | refine .cons_cons _ ?_ | refine .cons _ ?_ | exact sl0 _ | refine slA ?_) ?_)
  exact ⟨_, rfl, rfl⟩
/-- (paravane/region.four).ends -/
theorem n_ends (r : Rg) : VNew Try.prog 106 [vR r] (blk (clR r) 96) (fun b => .func (.func 143) #[] #[ptr b]) := by
  intro H
  refine vcall_of_vrun Try.func106 rfl (N := 4) rfl rfl ?_
  refine vseq ?_
  refine vregion ?_
  refine vone rfl (vxa (vbox rfl rfl) rfl rfl (fun b1 => ?_))
  refine vone rfl (vxq (vas rfl) rfl rfl ?_)
  refine vnil ?_
  refine vseq ?_
  refine vregion ?_
  refine vone rfl (vxq (vmf rfl) rfl rfl ?_)
  refine vone rfl (vxq (vas rfl) rfl rfl ?_)
  refine vnil ?_
  refine vret (vr1 (H' := bR b1 r :: H) Try.func106 rfl (.tmp rfl) (by repeat first | exact .refl _ | refine .cons_cons _ ?_ | refine .cons _ ?_ | exact sl0 _ | refine slA ?_) ?_)
  exact ⟨_, rfl, rfl⟩

theorem flat_snoc (pre : List Rw) (x : Rw) : (pre ++ [x]).flatMap endL = pre.flatMap endL ++ endL x := by simp
theorem ends_at1 {r : Rg} {pre post : List Rw} {x : Rw} (h : rows r = pre ++ x :: post) : ∃ p2, endsOf r = pre.flatMap endL ++ ⟨x.x, x.a⟩ :: p2 := by
  unfold endsOf; rw [h]; simp only [List.flatMap_append, List.flatMap_cons]
  unfold endL; split <;> exact ⟨_, rfl⟩
theorem ends_at2 {r : Rg} {pre post : List Rw} {x : Rw} (h : rows r = pre ++ x :: post) (hne : x.a ≠ x.b) : ∃ p2, endsOf r = (pre.flatMap endL ++ [⟨x.x, x.a⟩]) ++ ⟨x.x, x.b⟩ :: p2 := by
  unfold endsOf; rw [h]; simp only [List.flatMap_append, List.flatMap_cons]
  have : endL x = [⟨x.x, x.a⟩, ⟨x.x, x.b⟩] := by unfold endL; rw [if_neg hne]
  rw [this]; exact ⟨_, by simp only [List.append_assoc]; rfl⟩
theorem ne_of_l {a b c : Int} (h : [a, b] ≠ [a, c]) : b ≠ c := fun e => h (by rw [e])
theorem eq_of_l {a b c : Int} (h : ¬ [a, b] ≠ [a, c]) : b = c := by
  have h := Classical.not_not.1 h; simpa using h

/-- (paravane/region.four).ends$1 -/
theorem it_ends (r : Rg) (hs : r.sm 1099511627776) (b : Nat) : VIt Try.prog 143 [ptr b] (fun p => [vP p]) (endsOf r) [bR b r] := by
  intro yf ya yc J Jx Hc0 hJ0 hy
  change VCall _ _ _ (bR b r :: Hc0) _
  refine vcall_of_vrun Try.func143 rfl (N := 34) rfl rfl ?_
  refine vseq ?_
  refine vregion ?_
  refine vone rfl (vxa (vbox rfl rfl) rfl rfl (fun b1 => ?_))
  refine vnil ?_
  refine vseq ?_
  refine vregion ?_
  refine vone rfl (vxq (vldn rfl rfl) rfl rfl ?_)
  refine vone rfl (vxg (vcnew rfl rfl rfl (n_rows _)) rfl rfl ?_)
  rintro _ _ ⟨b2, rfl, rfl⟩
  refine vnil ?_
  refine vblock ?_
  refine vrange (enc := (fun w => [vW w])) (xs := (rows r)) (caps := [ptr b2]) (Hi := [bR b2 r]) (Hc := ((b1, blk [.func yf ya yc] 109) :: bR b r :: Hc0)) (ps := [8]) (fun pre H1 => ∃ Hc, H1 = (b1, blk [.func yf ya yc] 109) :: bR b r :: Hc ∧ J (pre.flatMap endL) Hc) (fun c H1 => c = .ret ∧ ∃ Hc, H1 = (b1, blk [.func yf ya yc] 109) :: bR b r :: Hc ∧ Jx Hc) rfl (it_rows r hs b2) (List.Perm.refl _) ⟨_, rfl, hJ0⟩ (fun _ => rfl) rfl ?_ ?_ ?_
  · intro lp rec pre x post H1 hrs hxs hI
    obtain ⟨Hc, rfl, hJ⟩ := hI
    refine vregion ?_
    refine vone rfl (vxa valloc rfl rfl (fun b3 => ?_))
    refine vone rfl (vxs (vstn rfl rfl rfl rfl rfl) rfl ?_)
    refine vnil ?_
    refine vbegin hrs ?_
    refine vblock ?_
    refine vseq ?_
    refine vdraw [(.q, 0), (.q, 1), (.q, 2), (.q, 3), (.q, 4), (.q, 5), (.q, 6), (.q, 7), (.q, 8), (.q, 9), (.a (blk [.int .i64 0, .int .i64 0] 36), 10), (.a (blk [.int .i64 0, .int .i64 0] 36), 11), (.s, 12), (.s, 13)] Try.mixed (by kernel_rfl) ⟨⟨_, _, _, _, _, rfl, _, inferInstance, rfl⟩, ⟨⟨_, _, _, _, _, rfl, _, inferInstance, rfl⟩, True.intro⟩⟩ ?_
    refine vdq (mone rfl) (vfa rfl) rfl rfl ?_
    refine vdq (mone rfl) (vld1 rfl rfl) rfl rfl ?_
    refine vdq (mone rfl) (vfa rfl) rfl rfl ?_
    refine vdq (mone rfl) (vld1 rfl rfl) rfl rfl ?_
    refine vdq (mone rfl) (vbd rfl rfl) rfl rfl ?_
    refine vdq (mone rfl) (vfa rfl) rfl rfl ?_
    refine vdq (mone rfl) (vld1 rfl rfl) rfl rfl ?_
    refine vdq (mone rfl) (vfa rfl) rfl rfl ?_
    refine vdq (mone rfl) (vld1 rfl rfl) rfl rfl ?_
    refine vdq (mone rfl) (vbd rfl rfl) rfl rfl ?_
    refine vda rfl rfl (fun b4 => ?_)
    refine vda rfl rfl (fun b5 => ?_)
    refine vds (mone rfl) (vstn rfl rfl rfl rfl rfl) rfl ?_
    refine vds (mone rfl) (vstn rfl rfl rfl rfl rfl) rfl ?_
    refine vdend rfl ?_
    refine vseq ?_
    refine vregion ?_
    refine vone rfl (vxq (vld1 rfl rfl) rfl rfl ?_)
    refine vone rfl (vxq (vldn rfl rfl) rfl rfl ?_)
    obtain ⟨p2, hps⟩ := ends_at1 hxs
    refine vone rfl (vxg (vcy rfl rfl (VY.b6 (hy _ _ _ hps _ hJ))) rfl rfl ?_)
    rintro _ _ ⟨bb, rfl, Hc, rfl, hJ⟩
    rcases bb with _ | _
    · skip
      refine vone rfl (vxq (vnot rfl) rfl rfl ?_)
      refine vone rfl (vxq (vmv rfl) rfl rfl ?_)
      refine vno rfl rfl rfl rfl rfl ?_
      refine vno rfl rfl rfl rfl rfl ?_
      refine vno rfl rfl rfl rfl rfl ?_
      refine vno rfl rfl rfl rfl rfl ?_
      refine vnou rfl rfl rfl rfl rfl ?_
      refine vnou rfl rfl rfl rfl rfl ?_
      refine vnou rfl rfl rfl rfl rfl ?_
      refine vnou rfl rfl rfl rfl rfl ?_
      refine vno rfl rfl rfl rfl rfl ?_
      refine vone rfl (vxq (vpkt rfl rfl) rfl rfl ?_)
      refine vnil ?_
      refine vcondt rfl ?_
      refine vroundI_ret (H' := (b1, blk [.func yf ya yc] 109) :: bR b r :: Hc) (by repeat first | exact .refl _ | refine .cons_cons _ ?_ | refine .cons _ ?_ | exact sl0 _ | refine slA ?_) ?_
      exact ⟨rfl, _, rfl, hJ⟩
    · skip
      refine vone rfl (vxq (vnot rfl) rfl rfl ?_)
      refine vone rfl (vxq (vmv rfl) rfl rfl ?_)
      refine vyes rfl rfl rfl (vxq (vldn rfl rfl) rfl rfl ?_)
      refine vyes rfl rfl rfl (vxq (vldn rfl rfl) rfl rfl ?_)
      refine vyes rfl rfl rfl (vxq (vnes rfl rfl rfl rfl rfl rfl) rfl rfl ?_)
      refine vyes rfl rfl rfl (vxq (vmv rfl) rfl rfl ?_)
      refine vsplitd (d := 27) rfl (fun h27 => ?_) (fun h27 => ?_)
      · skip
        refine vyes rfl rfl rfl (vxq (vld1 rfl rfl) rfl rfl ?_)
        refine vyes rfl rfl rfl (vxq (vldn rfl rfl) rfl rfl ?_)
        obtain ⟨p3, hps2⟩ := ends_at2 hxs (ne_of_l h27)
        refine vyes rfl rfl rfl (vxg (vcy rfl rfl (VY.b6 (hy _ _ _ hps2 _ hJ))) rfl rfl ?_)
        rintro _ _ ⟨bb2, rfl, Hc, rfl, hJ⟩
        rcases bb2 with _ | _
        · skip
          refine vyes rfl rfl rfl (vxq (vnot rfl) rfl rfl ?_)
          refine vyes rfl rfl rfl (vxq (vpkt rfl rfl) rfl rfl ?_)
          refine vone rfl (vxq (vpkf rfl rfl) rfl rfl ?_)
          refine vnil ?_
          refine vcondt rfl ?_
          refine vroundI_ret (H' := (b1, blk [.func yf ya yc] 109) :: bR b r :: Hc) (by repeat first | exact .refl _ | refine .cons_cons _ ?_ | refine .cons _ ?_ | exact sl0 _ | refine slA ?_) ?_
          exact ⟨rfl, _, rfl, hJ⟩
        · skip
          refine vyes rfl rfl rfl (vxq (vnot rfl) rfl rfl ?_)
          refine vyes rfl rfl rfl (vxq (vpkt rfl rfl) rfl rfl ?_)
          refine vone rfl (vxq (vpkf rfl rfl) rfl rfl ?_)
          refine vnil ?_
          refine vcondf rfl ?_
          refine vskip ?_
          refine vinblock ?_
          refine vroundI_end (H' := (b1, blk [.func yf ya yc] 109) :: bR b r :: Hc) (by repeat first | exact .refl _ | refine .cons_cons _ ?_ | refine .cons _ ?_ | exact sl0 _ | refine slA ?_) ?_
          first | exact ⟨_, rfl, by rw [flat_snoc, show endL x = [⟨x.x, x.a⟩] from if_pos (eq_of_l (by assumption))]; exact hJ⟩ | exact ⟨_, rfl, by rw [flat_snoc, show endL x = [⟨x.x, x.a⟩, ⟨x.x, x.b⟩] from if_neg (ne_of_l (by assumption))]; rw [List.append_assoc] at hJ; exact hJ⟩
      · skip
        refine vno rfl rfl rfl rfl rfl ?_
        refine vno rfl rfl rfl rfl rfl ?_
        refine vno rfl rfl rfl rfl rfl ?_
        refine vno rfl rfl rfl rfl rfl ?_
        refine vyes rfl rfl rfl (vxq (vpkf rfl rfl) rfl rfl ?_)
        refine vone rfl (vxq (vpkf rfl rfl) rfl rfl ?_)
        refine vnil ?_
        refine vcondf rfl ?_
        refine vskip ?_
        refine vinblock ?_
        refine vroundI_end (H' := (b1, blk [.func yf ya yc] 109) :: bR b r :: Hc) (by repeat first | exact .refl _ | refine .cons_cons _ ?_ | refine .cons _ ?_ | exact sl0 _ | refine slA ?_) ?_
        first | exact ⟨_, rfl, by rw [flat_snoc, show endL x = [⟨x.x, x.a⟩] from if_pos (eq_of_l (by assumption))]; exact hJ⟩ | exact ⟨_, rfl, by rw [flat_snoc, show endL x = [⟨x.x, x.a⟩, ⟨x.x, x.b⟩] from if_neg (ne_of_l (by assumption))]; rw [List.append_assoc] at hJ; exact hJ⟩
  · intro r1 H1 hI
    obtain ⟨Hc, rfl, hJ⟩ := hI
    change VRun _ _ _ _ _ _ _ ((r1, Obj.deferred (some [])) :: bR b2 r :: (b1, blk [.func yf ya yc] 109) :: bR b r :: Hc) _
    refine vinblock ?_
    refine vend (vret_mark (vr0 (H' := bR b r :: Hc) Try.func143 rfl  (by repeat first | exact .refl _ | refine .cons_cons _ ?_ | refine .cons _ ?_ | exact sl0 _ | refine slA ?_) ?_))
    first | exact ⟨rfl, _, rfl, .inl hJ⟩ | exact ⟨rfl, _, rfl, .inr hJ⟩
  · intro r1 c H1 hI
    obtain ⟨rfl, Hc, rfl, hJ⟩ := hI
    change VRun _ _ _ _ _ _ _ ((r1, Obj.deferred (some [])) :: bR b2 r :: (b1, blk [.func yf ya yc] 109) :: bR b r :: Hc) _
    refine vret (vret_mark (vr0 (H' := bR b r :: Hc) Try.func143 rfl  (by repeat first | exact .refl _ | refine .cons_cons _ ?_ | refine .cons _ ?_ | exact sl0 _ | refine slA ?_) ?_))
    first | exact ⟨rfl, _, rfl, .inl hJ⟩ | exact ⟨rfl, _, rfl, .inr hJ⟩
end Go.Proofs.Ytffpfcomikcimaa
