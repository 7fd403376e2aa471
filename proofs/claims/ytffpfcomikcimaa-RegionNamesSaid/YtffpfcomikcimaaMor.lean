/-
  More rules of the engine: loops by a measure; calls with bound arguments; slices that are built; contracts at few blocks. No condition.
-/
import Derived.Test.YtffpfcomikcimaaRng
import Derived.Laws.Small
namespace Go.Proofs.Ytffpfcomikcimaa
open Go

theorem sl0 {α : Type} (l : List α) : List.Sublist [] l := List.nil_sublist l
theorem slA {α : Type} {A B C : List α} (h : A.Sublist B) : A.Sublist (C ++ B) := h.trans (List.sublist_append_right _ _)

/-! ### Weakening of knowledge -/
def allIn : Env → Env → Prop
  | [], _ => True
  | (i, v) :: r, E => look E i = some v ∧ allIn r E
theorem allIn.look : ∀ {E' E : Env}, allIn E' E → ∀ i v, look E' i = some v → look E i = some v
  | [], _, _, i, v, h => by simp [Go.Proofs.Ytffpfcomikcimaa.look] at h
  | (j, u) :: r, E, ⟨h1, h2⟩, i, v, h => by
    rw [look_cons] at h
    by_cases e : i = j
    · subst e; rw [if_pos rfl] at h; rw [h1]; exact h
    · rw [if_neg e] at h; exact h2.look i v h

section
variable {P : Program} {f : FuncId} {ro : Option Nat} {N : Nat} {k : List Item} {E : Env} {D : List Deferred} {H : Heap} {Q : Out → Heap → Prop}

theorem vweak {E' : Env} (hs : allIn E' E) (h : VRun P f ro N k E' D H Q) : VRun P f ro N k E D H Q := h.weak hs.look

/-- A loop, by a measure. -/
theorem vwhile {c : Code} {σ : Type} (μ : σ → Nat) (Es : σ → Env) (Hs : σ → Heap) (A : σ → Prop) (s0 : σ) (h0 : A s0) (hE : allIn (Es s0) E) (hH : (Hs s0).Sublist H)
    (body : ∀ s, A s → (∀ s', A s' → μ s' < μ s → VRun P f ro N (.inLoop c :: k) (Es s') D (Hs s') Q) → VRun P f ro N (.code c :: .inLoop c :: k) (Es s) D (Hs s) Q) :
    VRun P f ro N (.code (.loop c) :: k) E D H Q := by
  have key : ∀ n s, μ s < n → A s → VRun P f ro N (.inLoop c :: k) (Es s) D (Hs s) Q := by
    intro n
    induction n with
    | zero => intro s h; omega
    | succ n ih => exact fun s hn hA => vinloop1 (body s hA fun s' hA' hm => ih s' (by omega) hA')
  exact vloop1 (vweak hE ((body s0 h0 fun s' hA' hm => key _ s' hm hA').sub hH))
theorem vback {Ei : Env} {Hi : Heap} (h : VRun P f ro N k Ei D Hi Q) (hE : allIn Ei E) (hH : Hi.Sublist H) : VRun P f ro N k E D H Q := (vweak hE h).sub hH

variable {ops : Array Oper} {l : List Oper}
variable {d : Nat} {x y : Operand} {T ty : TypeId} {pos : String} {af : Array Edge} {g : Option (Nat × Bool)}

/-- The consumer's blocks lie behind one's own. -/
theorem VY.b1 {y : Value} {args : List Value} {x1 : Nat × Obj} {B : Heap} {R : Bool → Heap → Prop} (h : VY P y args B R) : VY P y args (x1 :: B) (fun b H' => ∃ B', H' = x1 :: B' ∧ R b B') := h.behind (A := [x1])
theorem VY.b2 {y : Value} {args : List Value} {x1 x2 : Nat × Obj} {B : Heap} {R : Bool → Heap → Prop} (h : VY P y args B R) : VY P y args (x1 :: x2 :: B) (fun b H' => ∃ B', H' = x1 :: x2 :: B' ∧ R b B') := h.behind (A := [x1, x2])
theorem VY.b3 {y : Value} {args : List Value} {x1 x2 x3 : Nat × Obj} {B : Heap} {R : Bool → Heap → Prop} (h : VY P y args B R) : VY P y args (x1 :: x2 :: x3 :: B) (fun b H' => ∃ B', H' = x1 :: x2 :: x3 :: B' ∧ R b B') := h.behind (A := [x1, x2, x3])
theorem VY.b4 {y : Value} {args : List Value} {x1 x2 x3 x4 : Nat × Obj} {B : Heap} {R : Bool → Heap → Prop} (h : VY P y args B R) : VY P y args (x1 :: x2 :: x3 :: x4 :: B) (fun b H' => ∃ B', H' = x1 :: x2 :: x3 :: x4 :: B' ∧ R b B') := h.behind (A := [x1, x2, x3, x4])
theorem VY.b5 {y : Value} {args : List Value} {x1 x2 x3 x4 x5 : Nat × Obj} {B : Heap} {R : Bool → Heap → Prop} (h : VY P y args B R) : VY P y args (x1 :: x2 :: x3 :: x4 :: x5 :: B) (fun b H' => ∃ B', H' = x1 :: x2 :: x3 :: x4 :: x5 :: B' ∧ R b B') := h.behind (A := [x1, x2, x3, x4, x5])
theorem VY.b6 {y : Value} {args : List Value} {x1 x2 x3 x4 x5 x6 : Nat × Obj} {B : Heap} {R : Bool → Heap → Prop} (h : VY P y args B R) : VY P y args (x1 :: x2 :: x3 :: x4 :: x5 :: x6 :: B) (fun b H' => ∃ B', H' = x1 :: x2 :: x3 :: x4 :: x5 :: x6 :: B' ∧ R b B') := h.behind (A := [x1, x2, x3, x4, x5, x6])
theorem VY.b7 {y : Value} {args : List Value} {x1 x2 x3 x4 x5 x6 x7 : Nat × Obj} {B : Heap} {R : Bool → Heap → Prop} (h : VY P y args B R) : VY P y args (x1 :: x2 :: x3 :: x4 :: x5 :: x6 :: x7 :: B) (fun b H' => ∃ B', H' = x1 :: x2 :: x3 :: x4 :: x5 :: x6 :: x7 :: B' ∧ R b B') := h.behind (A := [x1, x2, x3, x4, x5, x6, x7])
theorem VY.b8 {y : Value} {args : List Value} {x1 x2 x3 x4 x5 x6 x7 x8 : Nat × Obj} {B : Heap} {R : Bool → Heap → Prop} (h : VY P y args B R) : VY P y args (x1 :: x2 :: x3 :: x4 :: x5 :: x6 :: x7 :: x8 :: B) (fun b H' => ∃ B', H' = x1 :: x2 :: x3 :: x4 :: x5 :: x6 :: x7 :: x8 :: B' ∧ R b B') := h.behind (A := [x1, x2, x3, x4, x5, x6, x7, x8])
theorem VY.b9 {y : Value} {args : List Value} {x1 x2 x3 x4 x5 x6 x7 x8 x9 : Nat × Obj} {B : Heap} {R : Bool → Heap → Prop} (h : VY P y args B R) : VY P y args (x1 :: x2 :: x3 :: x4 :: x5 :: x6 :: x7 :: x8 :: x9 :: B) (fun b H' => ∃ B', H' = x1 :: x2 :: x3 :: x4 :: x5 :: x6 :: x7 :: x8 :: x9 :: B' ∧ R b B') := h.behind (A := [x1, x2, x3, x4, x5, x6, x7, x8, x9])
theorem VY.b10 {y : Value} {args : List Value} {x1 x2 x3 x4 x5 x6 x7 x8 x9 x10 : Nat × Obj} {B : Heap} {R : Bool → Heap → Prop} (h : VY P y args B R) : VY P y args (x1 :: x2 :: x3 :: x4 :: x5 :: x6 :: x7 :: x8 :: x9 :: x10 :: B) (fun b H' => ∃ B', H' = x1 :: x2 :: x3 :: x4 :: x5 :: x6 :: x7 :: x8 :: x9 :: x10 :: B' ∧ R b B') := h.behind (A := [x1, x2, x3, x4, x5, x6, x7, x8, x9, x10])

/-! ### Ends of rounds, with what is asked of them -/
section
variable {lp : Nat} {rec : Loop} {I' : Heap → Prop} {Ix : Code → Heap → Prop} {H' : Heap}
theorem vroundI_end (hs : ((lp, Obj.loop (bsy rec)) :: H').Sublist H) (hq : I' H') : VRun P f (some lp) N [] E [] H (RQ lp rec I' Ix) := vround_end hs ⟨H', rfl, hq⟩
theorem vroundI_ret (hs : ((lp, Obj.loop (bsy rec)) :: H').Sublist H) (hq : Ix .ret H') : VRun P f (some lp) N (.code .ret :: k) E [] H (RQ lp rec I' Ix) := vround_ret hs ⟨H', rfl, hq⟩
theorem vroundI_exit {id : Nat} (hk : exitTo id k = Option.none) (hs : ((lp, Obj.loop (bsy rec)) :: H').Sublist H) (hq : Ix (.exit id) H') : VRun P f (some lp) N (.code (.exit id) :: k) E [] H (RQ lp rec I' Ix) := vround_exit hk hs ⟨H', rfl, hq⟩
end

theorem vneqb {p q : Bool} {T' : TypeId} (hT : P.underlying T = some .bool) (hx : ev E x = some (.bool p)) (hy : ev E y = some (.bool q)) :
    OQ P N E D H ⟨some d, .binOp .neq T x y T', ty, pos, af, g⟩ (.bool (!(p == q))) :=
  ov (by simp) (fun t w hA _ => by
    have := run_neq_bool (P := P) w T p q hT
    simp [execOp, ev_eval hA hx, ev_eval hA hy, eqGuard, this])
theorem vscope {c : Code} {f : FuncId} {ro : Option Nat} {k : List Item} {Q : Out → Heap → Prop} (h : VRun P f ro N (.code c :: .inScope c :: k) E D H Q) : VRun P f ro N (.code (.scope c) :: k) E D H Q :=
  .go (fun _ _ _ _ => step_lone_go (by simp [stepG, stepG.exec, Frame.atR])) h
theorem vinscope {c : Code} {f : FuncId} {ro : Option Nat} {k : List Item} {Q : Out → Heap → Prop} (h : VRun P f ro N k E D H Q) : VRun P f ro N (.inScope c :: k) E D H Q :=
  .go (fun _ _ _ _ => step_lone_go (by simp [stepG, stepG.exec, Frame.atR])) h
theorem vquop {a b : Int} {T' : TypeId} (hx : ev E x = some (.int .i64 a)) (hy : ev E y = some (.int .i64 b)) (ha : 0 ≤ a) (hb : 0 < b) (hr : InR a) :
    OQ P N E D H ⟨some d, .binOp .quo T x y T', ty, pos, af, g⟩ (.int .i64 (a / b)) := by
  have e : a.tdiv b = a / b := Int.tdiv_eq_ediv_of_nonneg ha
  have h1 : 0 ≤ a / b := Int.ediv_nonneg ha (by omega)
  have h2 : a / b ≤ a := Int.ediv_le_self _ ha
  rw [← e]
  exact vquo hx hy (by omega) (by rw [e]; unfold InR at *; omega)
theorem vremp {a b : Int} {T' : TypeId} (hx : ev E x = some (.int .i64 a)) (hy : ev E y = some (.int .i64 b)) (ha : 0 ≤ a) (hb : 0 < b) :
    OQ P N E D H ⟨some d, .binOp .rem T x y T', ty, pos, af, g⟩ (.int .i64 (a % b)) := by
  have e : a.tmod b = a % b := Int.tmod_eq_emod_of_nonneg ha
  rw [← e]
  exact vrem hx hy (by omega)

/-! ### Functions with bound arguments -/
def appO3 (a b c : List Value) : Option (List Value) := match appO a b with | some m => appO m c | Option.none => Option.none
theorem appO3_eq {a b c l : List Value} (h : appO3 a b c = some l) : a ++ b ++ c = l := by
  unfold appO3 at h
  split at h
  · rename_i m hm
    rw [appO_eq _ _ _ hm]; exact appO_eq _ _ _ h
  · cases h

theorem vmff {fn : Fn} {fl cl : List Operand} {us vs : List Value} (hf : evL E fl = some us) (hc : evL E cl = some vs) :
    OQ P N E D H ⟨some d, .makeFunc fn fl.toArray cl.toArray, ty, pos, af, g⟩ (.func fn us.toArray vs.toArray) :=
  ov (by simp) (fun t w hA hE => by
    have h1 := evL_map (D := D) hA cl vs hc
    have h2 := evL_map (D := D) hA fl us hf
    simp [execOp, Instr.makeFunc, h1, h2])

theorem vcgf {gf : FuncId} {cl : Operand} {al : List Operand} {ats : Array TypeId} {fs caps vs as : List Value} {R : Value → Heap → Prop} {R0 : Out → Heap → Prop} [hf : TFn P gf] (hx : ev E cl = some (.func (.func gf) fs.toArray caps.toArray)) (ha : evL E al = some vs) (has : appO3 fs vs caps = some as)
    (hc : VCall P gf as.toArray H R0) (hv : ∀ o H', R0 o H' → ∃ v, o = .val v ∧ R v H') :
    OG P N E D H ⟨some d, .call ⟨.value cl, al.toArray, ats⟩, ty, pos, af, g⟩ R := by
  refine ⟨by simp, fun t w hA hE => ⟨.enter gf as.toArray, w, ?_, fun c cs => ?_⟩⟩
  · have h1 := evL_map (D := D) hA al vs ha
    simp [execOp, resolve, Deferred.ofValue, invoke, ev_eval hA hx, h1, run_callFunc, ← appO3_eq has]
  · obtain ⟨o, w', m', H', hR, hF, hs, hfin⟩ := hc w (c :: cs) hE
    obtain ⟨v, rfl, hv'⟩ := hv o H' hR
    obtain ⟨_, fr', rfl, _, hleave⟩ := hfin
    exact ⟨v, w', ⟨H', hF, hv'⟩, hs.trans (.one (step_leave_returned hleave))⟩
theorem vcpf {gf : FuncId} {cl : Operand} {al : List Operand} {ats : Array TypeId} {fs caps vs as : List Value} {v : Value} [hf : TFn P gf] (hx : ev E cl = some (.func (.func gf) fs.toArray caps.toArray)) (ha : evL E al = some vs) (has : appO3 fs vs caps = some as)
    (hc : VPure P gf as v) : OQ P N E D H ⟨some d, .call ⟨.value cl, al.toArray, ats⟩, ty, pos, af, g⟩ v :=
  vcgf hx ha has (hc H) (fun _ _ h => ⟨v, h.1, rfl, h.2⟩)

/-- A call that makes one block. -/
def VNew (P : Program) (gf : FuncId) (as : List Value) (ob : Obj) (V : Nat → Value) : Prop := ∀ H, VCall P gf as.toArray H (fun o H' => ∃ b, o = .val (V b) ∧ H' = (b, ob) :: H)
theorem vcnew {gf : FuncId} {cl : Operand} {al : List Operand} {ats : Array TypeId} {caps vs as : List Value} {ob : Obj} {V : Nat → Value} [hf : TFn P gf] (hx : ev E cl = some (.func (.func gf) #[] caps.toArray)) (ha : evL E al = some vs) (has : appO vs caps = some as)
    (hc : VNew P gf as ob V) : OG P N E D H ⟨some d, .call ⟨.value cl, al.toArray, ats⟩, ty, pos, af, g⟩ (fun u H' => ∃ b, u = V b ∧ H' = (b, ob) :: H) :=
  vcg hx ha has (hc H) (fun _ _ ⟨b, h1, h2⟩ => ⟨_, h1, b, rfl, h2⟩)
/-- What a call does to the blocks that are known. -/
def VHas (P : Program) (gf : FuncId) (as : List Value) (v : Value) (H H' : Heap) : Prop := VCall P gf as.toArray H (fun o H2 => o = .val v ∧ H2 = H')
/-- A call that leaves all blocks as they are. -/
theorem vcq {gf : FuncId} {cl : Operand} {al : List Operand} {ats : Array TypeId} {caps vs as : List Value} {v : Value} [hf : TFn P gf] (hx : ev E cl = some (.func (.func gf) #[] caps.toArray)) (ha : evL E al = some vs) (has : appO vs caps = some as)
    (hc : VHas P gf as v H H) : OQ P N E D H ⟨some d, .call ⟨.value cl, al.toArray, ats⟩, ty, pos, af, g⟩ v :=
  vcg hx ha has hc (fun _ _ h => ⟨v, h.1, rfl, h.2⟩)
/-- A call that turns blocks. -/
theorem vch {gf : FuncId} {cl : Operand} {al : List Operand} {ats : Array TypeId} {caps vs as : List Value} {v : Value} {H' : Heap} [hf : TFn P gf] (hx : ev E cl = some (.func (.func gf) #[] caps.toArray)) (ha : evL E al = some vs) (has : appO vs caps = some as)
    (hc : VHas P gf as v H H') : OG P N E D H ⟨some d, .call ⟨.value cl, al.toArray, ats⟩, ty, pos, af, g⟩ (fun u H2 => u = v ∧ H2 = H') :=
  vcg hx ha has hc (fun _ _ h => ⟨v, h.1, rfl, h.2⟩)
theorem VPure.has {gf : FuncId} {as : List Value} {v : Value} (h : VPure P gf as v) (H : Heap) : VHas P gf as v H H := h H
theorem VHas.frame {gf : FuncId} {as : List Value} {v : Value} {A A' B : Heap} (h : VHas P gf as v A A') : VHas P gf as v (A ++ B) (A' ++ B) :=
  (VCall.frame (B := B) h).mono fun o H2 ⟨A2, h1, h2, h3⟩ => ⟨h2, by rw [h1, h3]⟩
theorem mid (b : Nat) (o : Obj) (pre post : Heap) : List.Perm ([(b, o)] ++ (pre ++ post)) (pre ++ (b, o) :: post) := (List.perm_middle (a := (b, o)) (l₁ := pre) (l₂ := post)).symm
/-- A contract at one block, where it lies among others. -/
theorem VHas.at1 {gf : FuncId} {as : List Value} {v : Value} {b : Nat} {cs cs' : List Value} {T : TypeId} {F : List Value → Heap} [hu : HUp H b cs T F] (h : VHas P gf as v [(b, blk cs T)] [(b, blk cs' T)]) : VHas P gf as v H (F cs') := by
  obtain ⟨pre, post, rfl, hF⟩ := hu.split
  rw [hF]
  have h1 := h.frame (B := pre ++ post)
  intro w cs0 hE
  obtain ⟨o, w', m', H', ⟨h2, h3⟩, hFr, hs⟩ := h1 w cs0 (hE.perm List.perm_middle)
  subst h3
  exact ⟨o, w', m', _, ⟨h2, rfl⟩, hFr.perm (mid b (blk cs T) pre post) (mid b (blk cs' T) pre post), hs⟩
theorem VHas.keep1 {gf : FuncId} {as : List Value} {v : Value} {b : Nat} {cs : List Value} {T : TypeId} [hu : HAt H b cs T] (h : VHas P gf as v [(b, blk cs T)] [(b, blk cs T)]) : VHas P gf as v H H := by
  obtain ⟨pre, post, rfl⟩ := List.append_of_mem hu.mem
  have h1 := h.frame (B := pre ++ post)
  intro w cs0 hE
  obtain ⟨o, w', m', H', ⟨h2, h3⟩, hFr, hs⟩ := h1 w cs0 (hE.perm List.perm_middle)
  subst h3
  exact ⟨o, w', m', _, ⟨h2, rfl⟩, hFr.perm (mid b (blk cs T) pre post) (mid b (blk cs T) pre post), hs⟩
theorem VHas.cong {gf : FuncId} {as : List Value} {v v' : Value} {A A' : Heap} (h : VHas P gf as v A A') (e : v = v') : VHas P gf as v' A A' := e ▸ h
theorem VPure.cong {gf : FuncId} {as : List Value} {v v' : Value} (h : VPure P gf as v) (e : v = v') : VPure P gf as v' := e ▸ h

/-! ### Slices that are built -/
def rep : Nat → List Value → List Value
  | 0, _ => []
  | n + 1, zs => app zs (rep n zs)
theorem rep_len (zs : List Value) : ∀ n, (rep n zs).length = n * zs.length
  | 0 => by simp [rep]
  | n + 1 => by simp [rep, app_eq, rep_len zs n, Nat.succ_mul]; omega
theorem rep_get (zs : List Value) : ∀ n i, i < n * zs.length → (rep n zs)[i]? = zs[i % zs.length]?
  | 0, i, h => by simp at h
  | n + 1, i, h => by
    rw [rep, app_eq]
    by_cases hi : i < zs.length
    · rw [List.getElem?_append_left hi, Nat.mod_eq_of_lt hi]
    · rw [List.getElem?_append_right (by omega), rep_get zs n (i - zs.length) (by rw [Nat.succ_mul] at h; omega), ← Nat.mod_eq_sub_mod (by omega)]

theorem run_buildSlice {T e esz : Nat} {zs : List Value} [h1 : TSl P T e esz] [h2 : TZe P e zs] (h3 : zs.length = esz) (h4 : 0 < esz) (len : Nat) (parts : Array (Nat × Value)) (c : Array Value) (w : World) (hl : 0 < len) (hm : len * esz ≤ 2 ^ 24)
    (hc : Instr.fill (fun i => some (i * esz, esz)) (rep len zs).toArray parts.toList = some c) :
    (Instr.buildSlice T len parts).run P w = .ok (.slice (some ⟨w.heap.size, 0, Option.none⟩) len len) { w with heap := w.heap.push (.cells c e) } := by
  obtain ⟨z, hz, hr⟩ := h2.zero
  have hrow : (Array.range (len * esz)).map (fun i => z.cells[i % z.cells.size]!) = (rep len zs).toArray := by
    apply Array.ext'
    rw [hz]
    refine List.ext_getElem? fun i => ?_
    by_cases hi : i < len * esz
    · have hp := Nat.mod_lt i h4
      simp only [Array.toList_map, Array.toList_range, List.getElem?_map, List.getElem?_range hi, Option.map_some]
      rw [rep_get _ _ _ (by rw [h3]; exact hi)]
      simp only [List.size_toArray, h3]
      rw [getElem!_pos _ _ (by simp [h3, hp])]
      simp [h3, hp]
    · have h5 : (rep len zs)[i]? = Option.none := List.getElem?_eq_none (by rw [rep_len, h3]; omega)
      have h6 : ((Array.range (len * esz)).map (fun i => zs.toArray[i % zs.toArray.size]!)).toList[i]? = Option.none := List.getElem?_eq_none (by simp; omega)
      rw [h6, h5]
  have hne : ¬ (len * esz = 0) := by
    have := Nat.mul_pos hl h4; omega
  have hle : ¬ (len * esz > 2 ^ 24) := by omega
  simp only [Instr.buildSlice, Sem.run_bind, run_underlying h1.und, Result.andThen, h1.size, if_neg hle, if_neg hne, hr, Sem.run_pure, hrow, hc]
  simp [newRow, newObj, Sem.run]

theorem vbs {ps : List (Nat × Operand)} {qs : List (Nat × List Value)} {e esz n : Nat} {zs cs : List Value} [h1 : TSl P T e esz] [h2 : TZe P e zs] (hz : Nat.beq zs.length esz = true) (h0 : Nat.blt 0 esz = true) (hn : Nat.blt 0 n = true) (hm : Nat.ble (n * esz) 16777216 = true) (hp : evP E ps = some qs) (hc : fillL (fun i => some (i * esz, esz)) (rep n zs) qs = some cs) :
    OG P N E D H ⟨some d, .buildSlice T n ps.toArray, ty, pos, af, g⟩ (fun v H' => ∃ b, v = .slice (some ⟨b, 0, Option.none⟩) n n ∧ H' = (b, blk cs e) :: H) := by
  refine ⟨by simp, fun t w hA hE => ?_⟩
  have h1 := fill_eq (fun i => some (i * esz, esz)) (D := D) hA ps qs (rep n zs) cs hp hc
  have h2 := run_buildSlice (P := P) (T := T) (Nat.eq_of_beq_eq_true hz) (Nat.le_of_ble_eq_true h0) n (ps.toArray.map fun p => (p.1, Act.eval ⟨t, D⟩ p.2)) cs.toArray w (Nat.le_of_ble_eq_true hn) (Nat.le_of_ble_eq_true hm)
  have h3 : (ps.toArray.map fun p => (p.1, Act.eval ⟨t, D⟩ p.2)).toList = ps.map fun p => (p.1, Act.eval ⟨t, D⟩ p.2) := by simp
  rw [h3] at h2
  have h2 := h2 h1
  refine ⟨.value _, { w with heap := w.heap.push (.cells cs.toArray e) }, ?_, (w.heap.size, blk cs e) :: H, Fr.new hE _, w.heap.size, rfl, rfl⟩
  simp only [execOp, Sem.run_bind, h2, Result.andThen, Sem.run_pure]
theorem vbsP {ps : List (Nat × Operand)} {qs : List (Nat × List Value)} {e esz n : Nat} {zs cs : List Value} [h1 : TSl P T e esz] [h2 : TZe P e zs] (hz : Nat.beq zs.length esz = true) (h0 : Nat.blt 0 esz = true) (hn : Nat.blt 0 n = true) (hm : Nat.ble (n * esz) 16777216 = true) (hp : evP E ps = some qs) (hc : fillL (fun i => some (i * esz, esz)) (rep n zs) qs = some cs) :
    ∀ t, Agree N E t → Psh P D ⟨some d, .buildSlice T n ps.toArray, ty, pos, af, g⟩ t (fun b => .slice (some ⟨b, 0, Option.none⟩) n n) (blk cs e) := by
  intro t hA w
  have h1 := fill_eq (fun i => some (i * esz, esz)) (D := D) hA ps qs (rep n zs) cs hp hc
  have h2 := run_buildSlice (P := P) (T := T) (Nat.eq_of_beq_eq_true hz) (Nat.le_of_ble_eq_true h0) n (ps.toArray.map fun p => (p.1, Act.eval ⟨t, D⟩ p.2)) cs.toArray w (Nat.le_of_ble_eq_true hn) (Nat.le_of_ble_eq_true hm)
  have h3 : (ps.toArray.map fun p => (p.1, Act.eval ⟨t, D⟩ p.2)).toList = ps.map fun p => (p.1, Act.eval ⟨t, D⟩ p.2) := by simp
  rw [h3] at h2
  have h2 := h2 h1
  simp only [execOp, Sem.run_bind, h2, Result.andThen, Sem.run_pure]
  rfl
end
end Go.Proofs.Ytffpfcomikcimaa
