/-
  How the facts on a program's types, which the engine asks for, follow from its tables. No condition.
-/
import Derived.Test.YtffpfcomikcimaaMem
import Derived.ChangeKeysEq
namespace Go.Proofs.Ytffpfcomikcimaa
open Go

section
variable {P : Program} {T : TypeId}

theorem run_info {i : TypeInfo} (h : P.info? T = some i) (w : World) : (typeInfo T).run P w = .ok i w := by
  simp [typeInfo, program, Sem.run, h]
theorem size_run {n : Nat} (h : (P.info? T).map (·.size) = some n) (w : World) : (sizeOf T).run P w = .ok n w := by
  cases hi : P.info? T with
  | none => simp [hi] at h
  | some i => simp [hi] at h; simp [sizeOf, run_info hi, h]

def aggB (P : Program) (T : TypeId) : Option Bool :=
  match P.underlying T with
  | some (.struct _) | some (.array _ _) => some true
  | some _ => some false
  | Option.none => Option.none
theorem agg_run {b : Bool} (h : aggB P T = some b) (w : World) : (isAgg T).run P w = .ok b w := by
  unfold aggB at h
  split at h
  · rename_i fs hu; cases h; simp [isAgg, run_underlying hu]
  · rename_i n e hu; cases h; simp [isAgg, run_underlying hu]
  · rename_i d h1 h2 hu; cases h
    simp only [isAgg, Sem.run_bind, run_underlying hu, Result.andThen]
    cases d <;> first | rfl | simp_all
  · cases h

theorem mkTSc (h : aggB P T = some false) (hs : (P.info? T).map (·.size) = some 1) : TSc P T := ⟨agg_run h, size_run hs⟩
theorem mkTAg {n : Nat} (h : aggB P T = some true) (hs : (P.info? T).map (·.size) = some n) : TAg P T n := ⟨agg_run h, size_run hs⟩
theorem mkTZe {z : Value} {zs : List Value} (h : (P.info? T).map (·.zero) = some (some z)) (hc : z.cells = zs.toArray) : TZe P T zs := by
  refine ⟨z, hc, fun w => ?_⟩
  cases hi : P.info? T with
  | none => simp [hi] at h
  | some i => simp [hi] at h; simp [zeroValue, run_info hi, h]

def fldB (P : Program) (T : TypeId) (i : Nat) : Option (Nat × Bool) :=
  match P.underlying T with
  | some (.struct fs) => (fs[i]?).bind fun f => (P.info? f.type).map fun j => (f.offset, Nat.blt 0 j.size)
  | _ => Option.none
theorem mkTFl {i off : Nat} (h : fldB P T i = some (off, true)) : TFl P T i off := by
  refine ⟨fun b o w => ?_⟩
  unfold fldB at h
  split at h
  · rename_i fs hu
    cases hf : fs[i]? with
    | none => simp [hf] at h
    | some fd =>
      simp only [hf, Option.bind_some] at h
      cases hj : P.info? fd.type with
      | none => simp [hj] at h
      | some j =>
        simp only [hj, Option.map_some, Option.some.injEq, Prod.mk.injEq] at h
        obtain ⟨h1, h2⟩ := h
        have h3 : (0 : Nat) < j.size := Nat.le_of_ble_eq_true h2
        have hsz := size_run (P := P) (T := fd.type) (n := j.size) (by simp [hj]) w
        have hadd : (⟨b, o, Option.none⟩ : Addr).add off = ⟨b, o + off, Option.none⟩ := by
          unfold Addr.add; split
          · rename_i e; rw [e]; simp
          · rfl
        have hfp : (fieldPlace ⟨b, o, Option.none⟩ fd).run P w = .ok ⟨b, o + off, Option.none⟩ w := by
          simp only [fieldPlace, Sem.run_bind, hsz, Result.andThen]
          rw [if_neg (by omega), h1]
          simp [hadd]
        simp [Instr.fieldAt, run_underlying hu, hf, Instr.sureAddr, hfp]
  · cases h

theorem run_mapM_list {α β : Type} (g : α → Sem β) (g' : α → Option β) (hg : ∀ a b w, g' a = some b → (g a).run P w = .ok b w) : ∀ (l : List α) (l' : List β) (w : World), l.mapM g' = some l' → (l.mapM g).run P w = .ok l' w
  | [], l', w, h => by simp at h; subst h; simp
  | a :: r, l', w, h => by
    simp only [List.mapM_cons, Option.bind_eq_bind, Option.bind_eq_some_iff, Option.pure_def, Option.some.injEq] at h
    obtain ⟨b, hb, m, hm, rfl⟩ := h
    simp [List.mapM_cons, hg a b w hb, run_mapM_list g g' hg r m w hm]

def placesB (P : Program) (T : TypeId) : Option (List (Nat × Nat)) :=
  match P.underlying T with
  | some (.struct fs) => fs.toList.mapM fun f => (P.info? f.type).map fun j => (f.offset, j.size)
  | _ => Option.none
theorem mkTBd {z : Value} {zs : List Value} {fs : List (Nat × Nat)} (h : (P.info? T).map (·.zero) = some (some z)) (hc : z.cells = zs.toArray) (hp : placesB P T = some fs) : TBd P T zs (fun i => fs[i]?) := by
  refine ⟨fun parts c w hfill => ?_⟩
  have hz : (zeroValue T).run P w = .ok z w := by
    cases hi : P.info? T with
    | none => simp [hi] at h
    | some i => simp [hi] at h; simp [zeroValue, run_info hi, h]
  unfold placesB at hp
  split at hp
  · rename_i fl hu
    have hm := run_mapM_list (P := P) (fun f : Field => (do pure (f.offset, ← sizeOf f.type) : Sem (Nat × Nat))) (fun f => (P.info? f.type).map fun j => (f.offset, j.size)) (fun a b w hb => by
      cases hj : P.info? a.type with
      | none => simp [hj] at hb
      | some j =>
        simp [hj] at hb; subst hb
        have := size_run (P := P) (T := a.type) (n := j.size) (by simp [hj]) w
        simp [this]) fl.toList fs w hp
    have hm2 : (fl.mapM (fun f : Field => (do pure (f.offset, ← sizeOf f.type) : Sem (Nat × Nat)))).run P w = .ok fs.toArray w := by
      rw [← Array.toArray_toList (xs := fl)]
      rw [List.mapM_toArray]
      simp at hm
      simp [hm]
    have hpl : (fun i : Nat => fs.toArray[i]?) = fun i : Nat => fs[i]? := by funext i; simp
    simp only [Instr.build, Sem.run_bind, hz, Result.andThen, run_underlying hu, hm2, hc, hpl, hfill, Sem.run_pure]
  · cases hp
def arrB (P : Program) (T : TypeId) : Option (Nat × Nat × Bool) :=
  match P.underlying T with
  | some (.array n e) => (P.info? e).bind fun j => (aggB P e).map fun b => (n, j.size, b)
  | _ => Option.none
theorem mkTBda {z : Value} {zs : List Value} {n esz : Nat} {b : Bool} (h : (P.info? T).map (·.zero) = some (some z)) (hc : z.cells = zs.toArray) (hp : arrB P T = some (n, esz, b)) : TBd P T zs (fun i => some (i * esz, esz)) := by
  refine ⟨fun parts c w hfill => ?_⟩
  have hz : (zeroValue T).run P w = .ok z w := by
    cases hi : P.info? T with
    | none => simp [hi] at h
    | some i => simp [hi] at h; simp [zeroValue, run_info hi, h]
  unfold arrB at hp
  split at hp
  · rename_i m e hu
    cases hj : P.info? e with
    | none => simp [hj] at hp
    | some j =>
      simp only [hj, Option.bind_some, Option.map_eq_some_iff, Prod.mk.injEq] at hp
      obtain ⟨_, _, _, h2, _⟩ := hp
      have hs := size_run (P := P) (T := e) (n := esz) (by simp [hj, h2]) w
      simp only [Instr.build, Sem.run_bind, hz, Result.andThen, run_underlying hu, hs, hc, hfill, Sem.run_pure]
  · cases hp
theorem arrB_inv {n esz : Nat} {b : Bool} (hp : arrB P T = some (n, esz, b)) : ∃ e, P.underlying T = some (.array n e) ∧ (∀ w, (sizeOf e).run P w = .ok esz w) ∧ ∀ w, (isAgg e).run P w = .ok b w := by
  unfold arrB at hp
  split at hp
  · rename_i m e hu
    cases hj : P.info? e with
    | none => simp [hj] at hp
    | some j =>
      simp only [hj, Option.bind_some, Option.map_eq_some_iff, Prod.mk.injEq] at hp
      obtain ⟨c, hc, h1, h2, h3⟩ := hp
      subst h1; subst h3
      exact ⟨e, hu, size_run (by simp [hj, h2]), agg_run hc⟩
  · cases hp
theorem mkTAr {n esz : Nat} {b : Bool} (hp : arrB P T = some (n, esz, b)) : TAr P T n esz := by
  obtain ⟨e, hu, hs, _⟩ := arrB_inv hp
  refine ⟨fun b o kd i w hi => ?_⟩
  have hadd : (⟨b, o, Option.none⟩ : Addr).add (i.toNat * esz) = ⟨b, o + i.toNat * esz, Option.none⟩ := by
    unfold Addr.add; split
    · rename_i e; rw [e]; simp
    · rfl
  simp [Instr.indexAt, asIntOf, run_underlying hu, Instr.sureAddr, hi, hs, hadd]
theorem mkTAv {n esz : Nat} {b : Bool} (hp : arrB P T = some (n, esz, b)) (hb : b = false → esz = 1) : TAv P T (!b) n esz := by
  obtain ⟨e, hu, hs, ha⟩ := arrB_inv hp
  refine ⟨fun cs vs kd i w hi hl hv => ?_⟩
  simp only [Instr.index, Sem.run_bind, Result.andThen, asIntOf, Sem.run_pure, run_underlying hu, hs, hi]
  simp only [and_self, if_true, Sem.run_bind, part, ha, Result.andThen, hs]
  cases b
  · have h1 := hb rfl
    subst h1
    match vs, hl with
    | [v], _ =>
      have : cs[i.toNat]? = some v := by
        have h2 : (List.drop (i.toNat * 1) cs)[0]? = some v := by
          have := congrArg (fun l : List Value => l[0]?) hv
          simpa [List.getElem?_take] using this
        simpa using h2
      simp [this]
  · simp [hv, hs]

theorem mkTSl {e esz : Nat} (h : P.underlying T = some (.slice e)) (hs : (P.info? e).map (·.size) = some esz) : TSl P T e esz := ⟨h, size_run hs⟩
theorem mkTFn {g : FuncId} {fn : Func} (h : P.funcs[g]? = some fn) (h1 : (fn.name == "runtime.NumGoroutine") = false) (h2 : fn.body.isNone = false) : TFn P g := ⟨fn, h, h1, h2⟩
end

/-! ### Equality of flat data of integers -/
/-- How many cells a type has, if it consists of 64-bit integers alone. -/
def flatI (P : Program) : Nat → TypeId → Option Nat
  | 0, _ => Option.none
  | d + 1, T =>
    match P.underlying T with
    | some (.int .i64) => some 1
    | some (.struct fs) =>
      if P.stoodInHeld T then Option.none
      else fs.toList.foldlM (fun off f => if f.name ≠ "_" ∧ f.offset = off ∧ (aggB P f.type).isSome then (flatI P d f.type).bind fun n => if (P.info? f.type).map (·.size) = some n then some (off + n) else Option.none else Option.none) 0
    | some (.array n e) => (flatI P d e).bind fun m => if (P.info? e).map (·.size) = some m ∧ (aggB P e).isSome then some (n * m) else Option.none
    | _ => Option.none

def vI (l : List Int) : Array Value := (l.map (Value.int .i64)).toArray

section
variable {P : Program}
/-- A part of flat data: a cell, or an aggregate. -/
theorem run_part_flat {T : TypeId} {b : Bool} {n off : Nat} {xs : List Int} (ha : aggB P T = some b) (hs : (P.info? T).map (·.size) = some n) (hb : b = false → n = 1) (hl : off + n ≤ xs.length) (w : World) :
    (part T (vI xs) off).run P w = .ok (bif b then .agg (vI ((xs.drop off).take n)) else .int .i64 ((xs.drop off).headD 0)) w := by
  simp only [part, Sem.run_bind, agg_run ha, Result.andThen]
  cases b
  · have := hb rfl
    subst this
    have hlt : off < xs.length := by omega
    have h1 : (vI xs)[off]? = some (.int .i64 (xs[off])) := by simp [vI, hlt]
    rw [List.drop_eq_getElem_cons hlt]
    simp only [h1, Sem.run_pure, List.headD_cons, cond_false, Bool.false_eq_true, if_false]
  · simp only [if_true, Sem.run_bind, size_run hs, Result.andThen, Sem.run_pure, cond_true]
    congr 2
    simp [vI, List.map_drop, List.map_take]

/-- What is said of a type of flat data. -/
def EqOk (P : Program) (T : TypeId) (n d0 : Nat) : Prop := ∀ (d : Nat) (xs ys : List Int) (w : World), d0 ≤ d → xs.length = n → ys.length = n →
  (∀ b, aggB P T = some b → (b = false → n = 1) ∧ (Op.equalIn d T (bif b then .agg (vI xs) else .int .i64 (xs.headD 0)) (bif b then .agg (vI ys) else .int .i64 (ys.headD 0))).run P w = .ok (decide (xs = ys)) w)

theorem take_drop_eq {xs ys : List Int} {off n : Nat} (h1 : off + n ≤ xs.length) (h2 : xs.length = ys.length) :
    (xs.drop off = ys.drop off) ↔ ((xs.drop off).take n = (ys.drop off).take n ∧ xs.drop (off + n) = ys.drop (off + n)) := by
  constructor
  · intro h
    rw [h]
    refine ⟨rfl, ?_⟩
    have := congrArg (List.drop n) h
    simpa [List.drop_drop] using this
  · rintro ⟨h3, h4⟩
    rw [← List.take_append_drop n (xs.drop off), ← List.take_append_drop n (ys.drop off), h3, List.drop_drop, List.drop_drop, h4]

theorem eqFields_ok {d0 : Nat} (ih : ∀ T n, flatI P d0 T = some n → EqOk P T n d0) : ∀ (fs : List Field) (off tot : Nat), 
    fs.foldlM (fun off f => if f.name ≠ "_" ∧ f.offset = off ∧ (aggB P f.type).isSome then (flatI P d0 f.type).bind fun n => if (P.info? f.type).map (·.size) = some n then some (off + n) else Option.none else Option.none) off = some tot →
    off ≤ tot ∧ ∀ (d : Nat) (xs ys : List Int) (w : World), d0 ≤ d → xs.length = tot → ys.length = tot → (Op.eqFields d (vI xs) (vI ys) fs).run P w = .ok (decide (xs.drop off = ys.drop off)) w
  | [], off, tot, h => by
    simp at h; subst h
    refine ⟨Nat.le_refl _, fun d xs ys w _ hx hy => ?_⟩
    have h1 : xs.drop off = [] := List.drop_eq_nil_of_le (by omega)
    have h2 : ys.drop off = [] := List.drop_eq_nil_of_le (by omega)
    simp [Op.eqFields, h1, h2]
  | f :: fs, off, tot, h => by
    simp only [List.foldlM_cons] at h
    by_cases hc : f.name ≠ "_" ∧ f.offset = off ∧ (aggB P f.type).isSome
    · rw [if_pos hc] at h
      obtain ⟨hn, ho, hag⟩ := hc
      cases hfl : flatI P d0 f.type with
      | none => simp [hfl] at h
      | some n =>
        simp only [hfl, Option.bind_some] at h
        by_cases hsz : (P.info? f.type).map (·.size) = some n
        · rw [if_pos hsz] at h
          simp only [Option.bind_eq_bind, Option.bind_some] at h
          obtain ⟨hle, hrest⟩ := eqFields_ok ih fs (off + n) tot h
          refine ⟨by omega, fun d xs ys w hd hx hy => ?_⟩
          obtain ⟨b, hb⟩ := Option.isSome_iff_exists.1 hag
          have hxl : ((xs.drop off).take n).length = n := by rw [List.length_take, List.length_drop]; omega
          have hyl : ((ys.drop off).take n).length = n := by rw [List.length_take, List.length_drop]; omega
          obtain ⟨hb1, hq⟩ := ih f.type n hfl d _ _ w hd hxl hyl b hb
          have px := run_part_flat (P := P) hb hsz hb1 (xs := xs) (off := off) (by omega) w
          have py := run_part_flat (P := P) hb hsz hb1 (xs := ys) (off := off) (by omega) w
          have e1 : (bif b then Value.agg (vI ((xs.drop off).take n)) else .int .i64 ((xs.drop off).headD 0)) = (bif b then .agg (vI ((xs.drop off).take n)) else .int .i64 (((xs.drop off).take n).headD 0)) := by
            cases b
            · have := hb1 rfl; subst this; simp only [cond_false]; congr 1; cases xs.drop off <;> simp
            · rfl
          have e2 : (bif b then Value.agg (vI ((ys.drop off).take n)) else .int .i64 ((ys.drop off).headD 0)) = (bif b then .agg (vI ((ys.drop off).take n)) else .int .i64 (((ys.drop off).take n).headD 0)) := by
            cases b
            · have := hb1 rfl; subst this; simp only [cond_false]; congr 1; cases ys.drop off <;> simp
            · rfl
          rw [e1] at px
          rw [e2] at py
          simp only [Op.eqFields, if_pos hn, ho, Sem.run_bind, px, py, Result.andThen, hq]
          by_cases he : (xs.drop off).take n = (ys.drop off).take n
          · simp only [he, decide_true, Bool.not_true, Bool.false_eq_true, if_false]
            rw [hrest d xs ys w hd hx hy]
            congr 1
            rw [decide_eq_decide, take_drop_eq (xs := xs) (ys := ys) (off := off) (n := n) (by omega) (by omega)]
            simp [he]
          · simp only [he, decide_false, Bool.not_false, if_true, Sem.run_pure]
            congr 1
            symm
            rw [decide_eq_false_iff_not, take_drop_eq (xs := xs) (ys := ys) (off := off) (n := n) (by omega) (by omega)]
            simp [he]
        · rw [if_neg hsz] at h; simp at h
    · rw [if_neg hc] at h; simp at h

theorem run_forIn_arr {P : Program} {e : TypeId} {d m : Nat} {xs ys : List Int} {w : World} {N : Nat} (b : Bool) (hb : aggB P e = some b) (hsz : (P.info? e).map (·.size) = some m) (hb1 : b = false → m = 1)
    (hx : xs.length = N * m) (hy : ys.length = N * m)
    (hq : ∀ (xs ys : List Int) (w : World), xs.length = m → ys.length = m → (Op.equalIn d e (bif b then .agg (vI xs) else .int .i64 (xs.headD 0)) (bif b then .agg (vI ys) else .int .i64 (ys.headD 0))).run P w = .ok (decide (xs = ys)) w) :
    ∀ (c i : Nat), i + c = N → 
    (forIn (m := Sem) (List.range' i c) ((Option.none, ()) : Option Bool × Unit) fun i r => (do
        let a ← part e (vI xs) (i * m)
        let a' ← part e (vI ys) (i * m)
        let q ← Op.equalIn d e a a'
        if (!q) = true then pure (.done (some false, ())) else pure (.yield (Option.none, ())) : Sem (ForInStep (Option Bool × Unit)))).run P w =
      .ok (if xs.drop (i * m) = ys.drop (i * m) then (Option.none, ()) else (some false, ())) w
  | 0, i, h => by
    have hi : i = N := by omega
    subst hi
    have h1 : xs.drop (i * m) = [] := List.drop_eq_nil_of_le (by omega)
    have h2 : ys.drop (i * m) = [] := List.drop_eq_nil_of_le (by omega)
    simp [h1, h2]
  | c + 1, i, h => by
    have hle : i * m + m ≤ N * m := by
      have : (i + 1) * m ≤ N * m := Nat.mul_le_mul_right _ (by omega)
      rw [Nat.add_mul] at this; omega
    have hxl : ((xs.drop (i * m)).take m).length = m := by rw [List.length_take, List.length_drop]; omega
    have hyl : ((ys.drop (i * m)).take m).length = m := by rw [List.length_take, List.length_drop]; omega
    have hq' := hq _ _ w hxl hyl
    have px := run_part_flat (P := P) hb hsz hb1 (xs := xs) (off := i * m) (by omega) w
    have py := run_part_flat (P := P) hb hsz hb1 (xs := ys) (off := i * m) (by omega) w
    have e1 : (bif b then Value.agg (vI ((xs.drop (i * m)).take m)) else .int .i64 ((xs.drop (i * m)).headD 0)) = (bif b then .agg (vI ((xs.drop (i * m)).take m)) else .int .i64 (((xs.drop (i * m)).take m).headD 0)) := by
      cases b
      · have := hb1 rfl; subst this; simp only [cond_false]; congr 1; cases xs.drop (i * 1) <;> simp
      · rfl
    have e2 : (bif b then Value.agg (vI ((ys.drop (i * m)).take m)) else .int .i64 ((ys.drop (i * m)).headD 0)) = (bif b then .agg (vI ((ys.drop (i * m)).take m)) else .int .i64 (((ys.drop (i * m)).take m).headD 0)) := by
      cases b
      · have := hb1 rfl; subst this; simp only [cond_false]; congr 1; cases ys.drop (i * 1) <;> simp
      · rfl
    rw [e1] at px
    rw [e2] at py
    have hstep : (i + 1) * m = i * m + m := by rw [Nat.add_mul]; omega
    simp only [List.range'_succ, List.forIn_cons, Sem.run_bind, px, py, Result.andThen, hq']
    by_cases he : (xs.drop (i * m)).take m = (ys.drop (i * m)).take m
    · simp only [he, decide_true, Bool.not_true, Bool.false_eq_true, if_false, Sem.run_pure]
      rw [run_forIn_arr b hb hsz hb1 hx hy hq c (i + 1) (by omega)]
      congr 1
      rw [hstep]
      have := take_drop_eq (xs := xs) (ys := ys) (off := i * m) (n := m) (by omega) (by omega)
      by_cases h5 : xs.drop (i * m + m) = ys.drop (i * m + m)
      · rw [if_pos h5, if_pos (this.2 ⟨he, h5⟩)]
      · rw [if_neg h5, if_neg (fun hh => h5 (this.1 hh).2)]
    · simp only [he, decide_false, Bool.not_false, if_true, Sem.run_pure]
      congr 1
      have := take_drop_eq (xs := xs) (ys := ys) (off := i * m) (n := m) (by omega) (by omega)
      rw [if_neg (fun hh => he (this.1 hh).1)]

theorem eqOk : ∀ (d0 : Nat) (T : TypeId) (n : Nat), flatI P d0 T = some n → EqOk P T n d0
  | 0, T, n, h => by simp [flatI] at h
  | d0 + 1, T, n, h => by
    intro d xs ys w hd hx hy b hb
    obtain ⟨d, rfl⟩ : ∃ e, d = e + 1 := ⟨d - 1, by omega⟩
    simp only [flatI] at h
    split at h
    · rename_i hu
      cases h
      have : b = false := by
        have h' := hb
        simp [aggB, hu] at h'
        first | exact h' | exact h'.symm
      subst this
      refine ⟨fun _ => rfl, ?_⟩
      match xs, ys, hx, hy with
      | [x], [y], _, _ => simp [Op.equalIn, run_underlying hu, BEq.beq]
    · rename_i fs hu
      have : b = true := by
        have h' := hb
        simp [aggB, hu] at h'
        first | exact h' | exact h'.symm
      subst this
      refine ⟨(fun h => by cases h), ?_⟩
      by_cases hs : P.stoodInHeld T = true
      · simp [hs] at h
      · simp only [hs, if_false, Bool.false_eq_true] at h
        have hf : P.fieldsOf T = fs := by simp [Program.fieldsOf, hu]
        obtain ⟨_, h2⟩ := eqFields_ok (fun T n h => eqOk d0 T n h) fs.toList 0 n h
        simp only [cond_true]
        rw [run_equalIn_struct w d T _ _ (by rw [hf]; exact hu) (by simpa using hs), hf, h2 d xs ys w (by omega) hx hy]
        simp
    · rename_i c e hu
      have : b = true := by
        have h' := hb
        simp [aggB, hu] at h'
        first | exact h' | exact h'.symm
      subst this
      refine ⟨(fun h => by cases h), ?_⟩
      cases hfl : flatI P d0 e with
      | none => simp [hfl] at h
      | some m =>
        simp only [hfl, Option.bind_some] at h
        by_cases hc : (P.info? e).map (·.size) = some m ∧ (aggB P e).isSome
        · rw [if_pos hc] at h
          cases h
          obtain ⟨b', hb'⟩ := Option.isSome_iff_exists.1 hc.2
          have hq : ∀ (xs ys : List Int) (w : World), xs.length = m → ys.length = m → _ := fun xs ys w hx hy => eqOk d0 e m hfl d xs ys w (by omega) hx hy b' hb'
          by_cases hm : c = 0
          · subst hm
            have h1 : xs = [] := List.length_eq_zero_iff.1 (by simpa using hx)
            have h2 : ys = [] := List.length_eq_zero_iff.1 (by simpa using hy)
            subst h1; subst h2
            simp [Op.equalIn, run_underlying hu, size_run hc.1]
          · have hb1 : b' = false → m = 1 := fun hbf => by
              have hlen : (List.replicate m (0 : Int)).length = m := by simp
              exact ((hq _ _ w hlen hlen).1 hbf)
            have hloop := run_forIn_arr (P := P) (w := w) (d := d) b' hb' hc.1 hb1 hx hy (fun xs ys w hx hy => (hq xs ys w hx hy).2) c 0 (by omega)
            simp only [cond_true, Op.equalIn, Sem.run_bind, run_underlying hu, Result.andThen, size_run hc.1]
            simp only [Std.Legacy.Range.forIn_eq_forIn_range', Std.Legacy.Range.size, Nat.sub_zero, Nat.add_one_sub_one, Nat.div_one]
            rw [hloop]
            simp only [Nat.zero_mul, List.drop_zero]
            by_cases he : xs = ys
            · simp [he, Result.andThen]
            · simp [he, Result.andThen]
        · rw [if_neg hc] at h; cases h
    · cases h

theorem mkTEq {T : TypeId} {n : Nat} (hg : P.eqGuardType P.depth T = false) (hf : flatI P 8 T = some n) (ha : aggB P T = some true) : TEq P T n :=
  ⟨fun op x y xs ys w => run_eqGuard_agg w op T x y xs ys hg, fun xs ys w hx hy => (eqOk 8 T n hf 10000 xs ys w (by omega) hx hy true ha).2⟩
end
end Go.Proofs.Ytffpfcomikcimaa
