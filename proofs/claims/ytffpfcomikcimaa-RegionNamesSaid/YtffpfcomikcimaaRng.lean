/-
  Ranges over functions: what an iterator promises, how a loop over one is run, how a round ends. No condition.
-/
import Derived.Test.YtffpfcomikcimaaDrw
namespace Go.Proofs.Ytffpfcomikcimaa
open Go

/-! ### Objects among the blocks -/
class HOb (H : Heap) (b : Nat) (o : outParam Obj) (F : outParam (Obj → Heap)) : Prop where
  split : ∃ pre post, H = pre ++ (b, o) :: post ∧ ∀ c, F c = pre ++ (b, c) :: post
instance HOb.head {H : Heap} {b : Nat} {o : Obj} : HOb ((b, o) :: H) b o (fun c => (b, c) :: H) := ⟨[], H, rfl, fun _ => rfl⟩
instance (priority := low) HOb.tail {x : Nat × Obj} {H : Heap} {b : Nat} {o : Obj} {F : Obj → Heap} [h : HOb H b o F] : HOb (x :: H) b o (fun c => x :: F c) := by
  obtain ⟨pre, post, h1, h2⟩ := h.split
  exact ⟨x :: pre, post, by rw [h1]; rfl, fun c => by rw [h2]; rfl⟩
theorem HOb.get {H : Heap} {b : Nat} {o : Obj} {F : Obj → Heap} (h : HOb H b o F) {w : World} (hE : Emb H w) : w.heap[b]? = some o := by
  obtain ⟨pre, post, h1, _⟩ := h.split
  exact hE.at_ (b, o) (by rw [h1]; simp)
/-- One object is written over. -/
theorem HOb.set {H : Heap} {b : Nat} {o : Obj} {F : Obj → Heap} (h : HOb H b o F) {w : World} (hE : Emb H w) (c : Obj) : Fr H w (F c) { w with heap := w.heap.setIfInBounds b c } := by
  have hlt : b < w.heap.size := (Array.getElem?_eq_some_iff.1 (h.get hE)).1
  obtain ⟨pre, post, rfl, hF⟩ := h.split
  rw [hF]
  have hnd := hE.nodup
  have hk : (pre ++ (b, c) :: post).map Prod.fst = (pre ++ (b, o) :: post).map Prod.fst := by simp
  have hb : ∀ e, (e ∈ pre ∨ e ∈ post) → e.1 ≠ b := by
    intro e he heb
    simp only [List.map_append, List.map_cons, List.nodup_append, List.nodup_cons] at hnd
    obtain ⟨_, ⟨hp, _⟩, hd⟩ := hnd
    rcases he with he | he
    · exact hd e.1 (List.mem_map.2 ⟨e, he, rfl⟩) b (by simp) heb
    · exact hp (List.mem_map.2 ⟨e, he, heb⟩)
  have hoth : ∀ j, j ≠ b → (w.heap.setIfInBounds b c)[j]? = w.heap[j]? := fun j hj => by rw [Array.getElem?_setIfInBounds_ne (Ne.symm hj)]
  refine ⟨rfl, rfl, rfl, by simp, fun j hj hn => hoth j (fun e => hn (by subst e; simp)), ⟨by rw [hk]; exact hnd, fun e he => ?_⟩, fun e he => .inl (by rw [← hk]; exact List.mem_map.2 ⟨e, he, rfl⟩)⟩
  show (w.heap.setIfInBounds b c)[e.1]? = some e.2
  rcases List.mem_append.1 he with he' | he'
  · rw [hoth _ (hb e (.inl he'))]; exact hE.at_ e (by simp [he'])
  · rcases List.mem_cons.1 he' with rfl | he'
    · simp [hlt]
    · rw [hoth _ (hb e (.inr he'))]; exact hE.at_ e (by simp [he'])

def bsy (rec : Loop) : Loop := { rec with state := .busy }

section
variable {P : Program} {f : FuncId} {ro : Option Nat} {N : Nat} {k : List Item} {E : Env} {D : List Deferred} {H : Heap} {Q : Out → Heap → Prop} {ops : Array Oper} {l : List Oper}

/-! ### Calls of a function value that is a loop's yield -/
def vnext (y : Value) (args : Array Value) : Sem Next := do let d ← Deferred.ofValue y args; invoke d.target d.args

def VY (P : Program) (y : Value) (args : List Value) (H : Heap) (R : Bool → Heap → Prop) : Prop :=
  ∀ w, Emb H w → ∃ n, (vnext y args.toArray).run P w = .ok n w ∧ NGo P n w (fun v w2 => ∃ H' b, Fr H w H' w2 ∧ v = .bool b ∧ R b H')

theorem VY.frame {y : Value} {args : List Value} {A B : Heap} {R : Bool → Heap → Prop} (h : VY P y args A R) : VY P y args (A ++ B) (fun b H' => ∃ A', H' = A' ++ B ∧ R b A') :=
  fun w hE => let ⟨n, h1, h2⟩ := h w (hE.sub (List.sublist_append_left A B)); ⟨n, h1, h2.mono fun v w2 ⟨H', b, hF, hv, hR⟩ => ⟨H' ++ B, b, hF.frame hE, hv, H', rfl, hR⟩⟩
theorem VY.perm {y : Value} {args : List Value} {H H' : Heap} {R : Bool → Heap → Prop} (hp : H.Perm H') (h : VY P y args H R) : VY P y args H' R :=
  fun w hE => let ⟨n, h1, h2⟩ := h w (hE.perm hp.symm); ⟨n, h1, h2.mono fun v w2 ⟨H2, b, hF, hv, hR⟩ => ⟨H2, b, hF.perm hp (.refl _), hv, hR⟩⟩
theorem VY.mono {y : Value} {args : List Value} {R R' : Bool → Heap → Prop} (h : VY P y args H R) (hr : ∀ b H', R b H' → R' b H') : VY P y args H R' :=
  fun w hE => let ⟨n, h1, h2⟩ := h w hE; ⟨n, h1, h2.mono fun v w2 ⟨H', b, hF, hv, hR⟩ => ⟨H', b, hF, hv, hr _ _ hR⟩⟩
/-- The consumer's blocks lie behind one's own. -/
theorem VY.behind {y : Value} {args : List Value} {A B : Heap} {R : Bool → Heap → Prop} (h : VY P y args B R) : VY P y args (A ++ B) (fun b H' => ∃ B', H' = A ++ B' ∧ R b B') := by
  have h1 := (h.frame (B := A)).perm (List.perm_append_comm (l₁ := B) (l₂ := A))
  intro w hE
  obtain ⟨n, g1, g2⟩ := h1 w hE
  refine ⟨n, g1, g2.mono fun v w2 ⟨H2, b, hF, hv, A', hA, hR⟩ => ?_⟩
  subst hA
  exact ⟨A ++ A', b, hF.perm (.refl _) List.perm_append_comm, hv, A', rfl, hR⟩

theorem vcy {d : Nat} {cl : Operand} {al : List Operand} {ats : Array TypeId} {ty : TypeId} {pos : String} {af : Array Edge} {g : Option (Nat × Bool)} {y : Value} {vs : List Value} {R : Bool → Heap → Prop}
    (hx : ev E cl = some y) (ha : evL E al = some vs) (hy : VY P y vs H R) : OG P N E D H ⟨some d, .call ⟨.value cl, al.toArray, ats⟩, ty, pos, af, g⟩ (fun v H' => ∃ b, v = .bool b ∧ R b H') := by
  refine ⟨by simp, fun t w hA hE => ?_⟩
  obtain ⟨n, h1, h2⟩ := hy w hE
  refine ⟨n, w, ?_, h2.mono fun v w2 ⟨H', b, hF, hv, hR⟩ => ⟨H', hF, b, hv, hR⟩⟩
  have h3 := evL_map (D := D) hA al vs ha
  simp only [execOp, resolve, ev_eval hA hx, List.map_toArray, h3]
  simpa [vnext] using h1

/-! ### What an iterator promises -/
def VIt {α : Type} (P : Program) (kf : FuncId) (caps : List Value) (enc : α → List Value) (xs : List α) (Hi : Heap) : Prop :=
  ∀ (yf : Fn) (ya yc : Array Value) (J : List α → Heap → Prop) (Jx : Heap → Prop) (Hc : Heap), J [] Hc →
    (∀ pre x post, xs = pre ++ x :: post → ∀ H1, J pre H1 → VY P (.func yf ya yc) (enc x) H1 (fun b H2 => if b = true then J (pre ++ [x]) H2 else Jx H2)) →
    VCall P kf (Value.func yf ya yc :: caps).toArray (Hi ++ Hc) (fun o H' => o = .val (.tuple #[]) ∧ ∃ Hc', H' = Hi ++ Hc' ∧ (J xs Hc' ∨ Jx Hc'))

/-! ### Rounds -/
/-- What is asked at a round's end. -/
def RQ (lp : Nat) (rec : Loop) (I' : Heap → Prop) (Ix : Code → Heap → Prop) : Out → Heap → Prop
  | .jump Option.none, H2 => ∃ H', H2 = (lp, .loop (bsy rec)) :: H' ∧ I' H'
  | .jump (some c), H2 => ∃ H', H2 = (lp, .loop (bsy rec)) :: H' ∧ Ix c H'
  | _, _ => False

theorem vbegin {lp : Nat} {rec : Loop} {F : Obj → Heap} [hH : HOb H lp (.loop rec) F] (hs : rec.state = .ready) (h : VRun P f (some lp) N k E D (F (.loop (bsy rec))) Q) : VRun P f (some lp) N (.beginRound :: k) E D H Q := by
  refine .stp fun t w cs hA hE => ?_
  have hget := hH.get hE
  have hlt : lp < w.heap.size := (Array.getElem?_eq_some_iff.1 hget).1
  have hrun : (Instr.beginRound lp).run P w = .ok () { w with heap := w.heap.setIfInBounds lp (.loop (bsy rec)) } := by
    simp [Instr.beginRound, Instr.getLoop, getObj, setObj, Sem.run, hget, hs, bsy, Result.andThen]
  exact ⟨t, _, k, E, D, _, .one (stepR_beginRound (b := bas f (some lp)) (a := ⟨t, D⟩) rfl hrun), hA, hH.set hE _, h⟩

theorem vround_end {lp : Nat} {H' : Heap} (hs : H'.Sublist H) (hq : Q (.jump Option.none) H') : VRun P f (some lp) N [] E [] H Q := fun t w cs hA hE =>
  ⟨.jump Option.none, w, _, H', hq, (Fr.refl hE).sub hs, .refl _ _, lp, ⟨t, []⟩, rfl, rfl, rfl⟩
theorem vround_ret {lp : Nat} {H' : Heap} (hs : H'.Sublist H) (hq : Q (.jump (some .ret)) H') : VRun P f (some lp) N (.code .ret :: k) E [] H Q := fun t w cs hA hE =>
  ⟨.jump (some .ret), w, _, H', hq, (Fr.refl hE).sub hs, .refl _ _, lp, ⟨t, []⟩, k, rfl, rfl, rfl⟩
theorem vround_exit {lp id : Nat} {H' : Heap} (hk : exitTo id k = Option.none) (hs : H'.Sublist H) (hq : Q (.jump (some (.exit id))) H') : VRun P f (some lp) N (.code (.exit id) :: k) E [] H Q := fun t w cs hA hE =>
  ⟨.jump (some (.exit id)), w, _, H', hq, (Fr.refl hE).sub hs, .refl _ _, lp, ⟨t, []⟩, k, rfl, rfl, rfl, hk⟩

def parE : List Nat → List Value → Env → Env
  | p :: ps, v :: vs, E => parE ps vs ((p, v) :: E)
  | _, _, E => E

theorem parE_agree : ∀ (ps : List Nat) (vs : List Value) (E : Env) (t : Array Value), Agree N E t → ps.length = vs.length → (ps.all fun p => Nat.blt p N) = true →
    Agree N (parE ps vs E) ((ps.zip vs).foldl (fun t p => t.setIfInBounds p.1 p.2) t)
  | [], [], E, t, h, _, _ => h
  | p :: ps, v :: vs, E, t, h, hl, hp => by
    simp only [List.all_cons, Bool.and_eq_true] at hp
    simp only [List.zip_cons_cons, List.foldl_cons, parE]
    exact parE_agree ps vs _ _ (h.put (Nat.le_of_ble_eq_true hp.1) v) (by simpa using hl) hp.2
  | [], _ :: _, _, _, _, hl, _ => by simp at hl
  | _ :: _, [], _, _, _, hl, _ => by simp at hl

/-- One round, as the iterator sees it. -/
theorem round_VY {lp : Nat} {rec : Loop} {ps : List Nat} {vs : List Value} {t : Array Value} {as bd : Code} {H1 : Heap} {I' : Heap → Prop} {Ix : Code → Heap → Prop}
    (hrec : rec.fn = f ∧ rec.tmps = t ∧ rec.params = ps.toArray ∧ rec.assign = as ∧ rec.body = bd ∧ rec.state = .ready ∧ rec.pending = Option.none) (hA : Agree N E t) (hl : ps.length = vs.length) (hp : (ps.all fun p => Nat.blt p N) = true)
    (body : VRun P f (some lp) N [.code as, .beginRound, .code bd] (parE ps vs E) [] ((lp, .loop rec) :: H1) (RQ lp rec I' Ix)) :
    VY P (.func (.yield lp) #[] #[]) vs ((lp, .loop rec) :: H1) (fun b H2 => if b = true then ∃ H', H2 = (lp, .loop rec) :: H' ∧ I' H' else ∃ c H', H2 = (lp, .loop { rec with state := .done, pending := some c }) :: H' ∧ Ix c H') := by
  intro w hE
  obtain ⟨h1, h2, h3, h4, h5, h6, h7⟩ := hrec
  have hget : w.heap[lp]? = some (.loop rec) := hE.at_ (lp, .loop rec) (by simp)
  refine ⟨.round lp rec.fn ((ps.zip vs).foldl (fun t p => t.setIfInBounds p.1 p.2) t) rec.assign rec.body, ?_, ?_⟩
  · simp [vnext, Deferred.ofValue, invoke, Instr.yield, Instr.getLoop, getObj, Sem.run, hget, Result.andThen, h2, h3, hl]
  · intro c cs
    rw [show rec.fn = f from h1, show rec.assign = as from h4, show rec.body = bd from h5]
    have hfr : Frame.round lp f ((ps.zip vs).foldl (fun t p => t.setIfInBounds p.1 p.2) t) as bd .normal = (bas f (some lp)).atR ⟨(ps.zip vs).foldl (fun t p => t.setIfInBounds p.1 p.2) t, []⟩ [.code as, .beginRound, .code bd] := by
      simp [Frame.round, Frame.atR, bas]
    rw [hfr]
    obtain ⟨o, w', m', H', hq, hF, hs, hfin⟩ := body _ w (c :: cs) (parE_agree ps vs E t hA hl hp) hE
    have fin2 : ∀ (H2 : Heap) (j : Option Code), H' = (lp, .loop (bsy rec)) :: H2 → ∃ b w2, (Instr.endRound lp j).run P w' = .ok (.bool b) w2 ∧ b = j.isNone ∧ Fr H' w' ((lp, .loop { rec with state := if j.isNone then .ready else .done, pending := j }) :: H2) w2 := by
      intro H2 j hH
      subst hH
      have hg : w'.heap[lp]? = some (.loop (bsy rec)) := hF.emb.at_ (lp, .loop (bsy rec)) (by simp)
      have hset := (HOb.head (H := H2) (b := lp) (o := .loop (bsy rec))).set hF.emb (.loop { rec with state := if j.isNone then .ready else .done, pending := j })
      exact ⟨j.isNone, _, by simp [Instr.endRound, Instr.getLoop, getObj, setObj, Sem.run, hg, Result.andThen, bsy], rfl, hset⟩
    cases o with
    | val v => exact hq.elim
    | pan ch => exact hq.elim
    | jump j =>
      cases j with
      | none =>
        obtain ⟨H2, hH, hI⟩ := hq
        obtain ⟨b, w2, hr, hb, hF2⟩ := fin2 H2 Option.none hH
        subst hb
        obtain ⟨l', a, hl', rfl, _⟩ := hfin
        cases hl'
        refine ⟨_, w2, ⟨_, true, hF.trans hF2, rfl, ?_⟩, hs.trans (.one (stepR_round_end (b := bas f (some lp)) rfl rfl hr))⟩
        simp only [if_true]
        exact ⟨H2, by simp [← h6, ← h7], hI⟩
      | some c' =>
        obtain ⟨H2, hH, hI⟩ := hq
        obtain ⟨b, w2, hr, hb, hF2⟩ := fin2 H2 (some c') hH
        subst hb
        have : Steps P m' (lone (c.finish (.bool (some c').isNone)) cs w2) := by
          cases c' with
          | ret =>
            obtain ⟨l', a, k1, hl', rfl, _⟩ := hfin
            cases hl'
            exact .one (stepR_round_ret (b := bas f (some lp)) rfl rfl hr)
          | exit id =>
            obtain ⟨l', a, k1, hl', rfl, _, hk⟩ := hfin
            cases hl'
            exact .one (stepR_round_exit (b := bas f (some lp)) rfl rfl hk hr)
          | _ => exact hfin.elim
        refine ⟨_, w2, ⟨_, false, hF.trans hF2, rfl, ?_⟩, hs.trans this⟩
        rw [if_neg (by simp)]
        exact ⟨c', H2, by simp [← h1, ← h4, ← h5], hI⟩

def mark (r : Nat) : Deferred := { target := .collected r, args := #[] }

theorem range_steps {kf : FuncId} {caps : List Value} {gop : Operand} {ps : List Nat} {as bd : Code} {t : Array Value} {w w1 : World} {cs : List Frame} {lp : Nat} {mk : List Deferred} [hf : TFn P kf] (hA : Agree N E t) (hg : ev E gop = some (.func (.func kf) #[] caps.toArray))
    (he : (Instr.enterLoop f t ps.toArray as bd ro).run P w = .ok (lp, mk) w1) :
    step P (lone ((bas f ro).atR ⟨t, D⟩ (.code (.rangeFunc gop ps.toArray as bd) :: k)) cs w) =
      .next (lone (Frame.enter P kf (Value.func (.yield lp) #[] #[] :: caps).toArray .normal) ((bas f ro).atR ⟨t, mk ++ D⟩ (.inRangeFunc lp :: k) :: cs) w1) := by
  refine stepR_rangeFunc (P := P) (b := bas f ro) (a := ⟨t, D⟩) (w₁' := w1) (d := { target := .fn (.func kf) caps.toArray, args := #[.func (.yield lp) #[] #[]] }) he ?_ ?_
  · have h1 := ev_eval (D := D) hA hg
    simp only [resolve, rangeCall, List.map_toArray, List.map_cons, List.map_nil, h1]
    simp [Act.eval, Deferred.ofValue]
  · have := run_callFunc (P := P) (g := kf) (#[Value.func (.yield lp) #[] #[]] ++ caps.toArray) w1
    simpa [invoke] using this

/-- **A loop over an iterator, outside of every round.** -/
theorem vrange {α : Type} {enc : α → List Value} {xs : List α} {kf : FuncId} {caps : List Value} {Hi Hc : Heap} {gop : Operand} {ps : List Nat} {as bd : Code} [TFn P kf] (I : List α → Heap → Prop) (Ix : Code → Heap → Prop)
    (hg : ev E gop = some (.func (.func kf) #[] caps.toArray)) (hit : VIt P kf caps enc xs Hi) (hp : H.Perm (Hi ++ Hc)) (h0 : I [] Hc) (hsz : ∀ x, ps.length = (enc x).length) (hps : (ps.all fun p => Nat.blt p N) = true)
    (body : ∀ lp rec pre x post H1, rec.state = .ready → xs = pre ++ x :: post → I pre H1 → VRun P f (some lp) N [.code as, .beginRound, .code bd] (parE ps (enc x) E) [] ((lp, .loop rec) :: H1) (RQ lp rec (I (pre ++ [x])) Ix))
    (done : ∀ r H1, I xs H1 → VRun P f Option.none N k E (mark r :: D) ((r, .deferred (some [])) :: (Hi ++ H1)) Q)
    (stop : ∀ r c H1, Ix c H1 → VRun P f Option.none N (.code c :: k) E (mark r :: D) ((r, .deferred (some [])) :: (Hi ++ H1)) Q) :
    VRun P f Option.none N (.code (.rangeFunc gop ps.toArray as bd) :: k) E D H Q := by
  intro t w cs hA hE
  let rc : Loop := { state := .ready, pending := Option.none, fn := f, tmps := t, params := ps.toArray, assign := as, body := bd, defers := w.heap.size }
  let w1 : World := { w with heap := w.heap.push (.deferred (some [])) }
  let w2 : World := { w1 with heap := w1.heap.push (.loop rc) }
  have hF1 : Fr H w ((w.heap.size, .deferred (some [])) :: H) w1 := Fr.new hE _
  have hF2 : Fr ((w.heap.size, .deferred (some [])) :: H) w1 ((w.heap.size + 1, .loop rc) :: (w.heap.size, .deferred (some [])) :: H) w2 := by
    have h := Fr.new hF1.emb (.loop rc)
    rw [show w1.heap.size = w.heap.size + 1 from Array.size_push _] at h
    exact h
  have henter : (Instr.enterLoop f t ps.toArray as bd Option.none).run P w = .ok (w.heap.size + 1, [mark w.heap.size]) w2 := by
    simp only [w2, w1, rc, mark]
    rw [show w.heap.size + 1 = (w.heap.push (Obj.deferred (some []))).size from (Array.size_push _).symm]
    rfl
  have hst := range_steps (P := P) (D := D) (k := k) (cs := cs) (ro := Option.none) hA hg henter
  have hcall := hit (.yield (w.heap.size + 1)) #[] #[] (fun pre Hx => ∃ H1, Hx = (w.heap.size + 1, .loop rc) :: H1 ∧ I pre H1)
    (fun Hx => ∃ c H1, Hx = (w.heap.size + 1, .loop { rc with state := .done, pending := some c }) :: H1 ∧ Ix c H1) ((w.heap.size + 1, .loop rc) :: Hc) ⟨Hc, rfl, h0⟩
    (by
      rintro pre x post hx Hx ⟨H1, rfl, hI⟩
      exact round_VY (f := f) (t := t) (rec := rc) ⟨rfl, rfl, rfl, rfl, rfl, rfl, rfl⟩ hA (hsz x) hps (body _ rc pre x post H1 rfl hx hI))
  have hperm : ((w.heap.size + 1, Obj.loop rc) :: (w.heap.size, Obj.deferred (some [])) :: H).Perm ((Hi ++ (w.heap.size + 1, .loop rc) :: Hc) ++ [(w.heap.size, .deferred (some []))]) := by
    refine List.Perm.trans ?_ List.perm_append_comm
    refine List.Perm.trans (List.Perm.swap _ _ _) ?_
    refine List.Perm.cons _ ?_
    refine List.Perm.trans (List.Perm.cons _ hp) ?_
    exact List.perm_middle.symm
  obtain ⟨o, w3, m3, H3, hR, hF3, hs3, hfin⟩ := (hcall.frame (B := [(w.heap.size, .deferred (some []))])).perm hperm w2 ((bas f Option.none).atR ⟨t, [mark w.heap.size] ++ D⟩ (.inRangeFunc (w.heap.size + 1) :: k) :: cs) (hF1.trans hF2).emb
  obtain ⟨A', rfl, rfl, Hc', rfl, hJ⟩ := hR
  obtain ⟨_, fr', rfl, _, hleave⟩ := hfin
  have hback : Steps P (lone ((bas f Option.none).atR ⟨t, D⟩ (.code (.rangeFunc gop ps.toArray as bd) :: k)) cs w) (lone ((bas f Option.none).atR ⟨t, [mark w.heap.size] ++ D⟩ (.endRangeFunc (w.heap.size + 1) :: k)) cs w3) := by
    refine .head hst (hs3.trans (.one ?_))
    rw [← finish_atR_inRangeFunc (b := bas f Option.none) (a := ⟨t, [mark w.heap.size] ++ D⟩) (k := k) (w.heap.size + 1) (.tuple #[])]
    exact step_leave_returned hleave
  have hFall := (hF1.trans hF2).trans hF3
  have fin : ∀ (rc' : Loop) (H1 : Heap), Hc' = (w.heap.size + 1, .loop rc') :: H1 → rc'.state ≠ .busy → ∃ w4, (Instr.endLoop (w.heap.size + 1)).run P w3 = .ok rc'.pending w4 ∧ Fr H w ((w.heap.size, .deferred (some [])) :: (Hi ++ H1)) w4 := by
    intro rc' H1 hH hb
    subst hH
    have hg : w3.heap[w.heap.size + 1]? = some (.loop rc') := hF3.emb.at_ (w.heap.size + 1, .loop rc') (by simp)
    have hpm : ((Hi ++ (w.heap.size + 1, Obj.loop rc') :: H1) ++ [(w.heap.size, Obj.deferred (some []))]).Perm ((w.heap.size + 1, .loop rc') :: ((w.heap.size, .deferred (some [])) :: (Hi ++ H1))) := by
      refine List.Perm.trans List.perm_append_comm ?_
      refine List.Perm.trans (List.Perm.cons _ List.perm_middle) ?_
      exact List.Perm.swap _ _ _
    have hE3 := hF3.emb.perm hpm
    have hset := (HOb.head (H := (w.heap.size, .deferred (some [])) :: (Hi ++ H1)) (b := w.heap.size + 1) (o := .loop rc')).set hE3 (.loop { rc' with state := .exhausted })
    refine ⟨_, ?_, (hFall.perm (.refl _) hpm).trans (hset.sub (List.sublist_cons_self _ _))⟩
    simp [Instr.endLoop, Instr.getLoop, getObj, setObj, Sem.run, hg, Result.andThen, hb]
  rcases hJ with ⟨H1, hH, hI⟩ | ⟨c, H1, hH, hI⟩
  · obtain ⟨w4, hr, hF4⟩ := fin rc H1 hH (by simp [rc])
    obtain ⟨o, w5, m5, H5, hq, hF5, hs5, hfin5⟩ := done w.heap.size H1 hI t w4 cs hA hF4.emb
    refine ⟨o, w5, m5, H5, hq, hF4.trans hF5, hback.trans (.head (stepR_endRangeFunc (b := bas f Option.none) hr) ?_), hfin5⟩
    simpa [rc] using hs5
  · obtain ⟨w4, hr, hF4⟩ := fin _ H1 hH (by simp)
    obtain ⟨o, w5, m5, H5, hq, hF5, hs5, hfin5⟩ := stop w.heap.size c H1 hI t w4 cs hA hF4.emb
    refine ⟨o, w5, m5, H5, hq, hF4.trans hF5, hback.trans (.head (stepR_endRangeFunc (b := bas f Option.none) hr) ?_), hfin5⟩
    simpa using hs5

/-- **A loop over an iterator within a round.** -/
theorem vrangeN {α : Type} {enc : α → List Value} {xs : List α} {kf : FuncId} {caps : List Value} {Hi Hc : Heap} {gop : Operand} {ps : List Nat} {as bd : Code} {l0 : Nat} {r0 : Loop} {F0 : Obj → Heap} [TFn P kf] [h00 : HOb H l0 (.loop r0) F0] (I : List α → Heap → Prop) (Ix : Code → Heap → Prop)
    (hg : ev E gop = some (.func (.func kf) #[] caps.toArray)) (hit : VIt P kf caps enc xs Hi) (hp : H.Perm (Hi ++ Hc)) (h0 : I [] Hc) (hsz : ∀ x, ps.length = (enc x).length) (hps : (ps.all fun p => Nat.blt p N) = true)
    (body : ∀ lp rec pre x post H1, rec.state = .ready → xs = pre ++ x :: post → I pre H1 → VRun P f (some lp) N [.code as, .beginRound, .code bd] (parE ps (enc x) E) [] ((lp, .loop rec) :: H1) (RQ lp rec (I (pre ++ [x])) Ix))
    (done : ∀ H1, I xs H1 → VRun P f (some l0) N k E D (Hi ++ H1) Q)
    (stop : ∀ c H1, Ix c H1 → VRun P f (some l0) N (.code c :: k) E D (Hi ++ H1) Q) :
    VRun P f (some l0) N (.code (.rangeFunc gop ps.toArray as bd) :: k) E D H Q := by
  intro t w cs hA hE
  have hg0 := h00.get hE
  let rc : Loop := { state := .ready, pending := Option.none, fn := f, tmps := t, params := ps.toArray, assign := as, body := bd, defers := r0.defers }
  let w2 : World := { w with heap := w.heap.push (.loop rc) }
  have hF2 : Fr H w ((w.heap.size, .loop rc) :: H) w2 := Fr.new hE _
  have henter : (Instr.enterLoop f t ps.toArray as bd (some l0)).run P w = .ok (w.heap.size, []) w2 := by
    simp [Instr.enterLoop, Instr.getLoop, getObj, newObj, Sem.run, Result.andThen, hg0, w2, rc]
  have hst := range_steps (P := P) (D := D) (k := k) (cs := cs) (ro := some l0) hA hg henter
  have hcall := hit (.yield w.heap.size) #[] #[] (fun pre Hx => ∃ H1, Hx = (w.heap.size, .loop rc) :: H1 ∧ I pre H1)
    (fun Hx => ∃ c H1, Hx = (w.heap.size, .loop { rc with state := .done, pending := some c }) :: H1 ∧ Ix c H1) ((w.heap.size, .loop rc) :: Hc) ⟨Hc, rfl, h0⟩
    (by
      rintro pre x post hx Hx ⟨H1, rfl, hI⟩
      exact round_VY (f := f) (t := t) (rec := rc) ⟨rfl, rfl, rfl, rfl, rfl, rfl, rfl⟩ hA (hsz x) hps (body _ rc pre x post H1 rfl hx hI))
  have hperm : ((w.heap.size, Obj.loop rc) :: H).Perm (Hi ++ (w.heap.size, .loop rc) :: Hc) :=
    List.Perm.trans (List.Perm.cons _ hp) List.perm_middle.symm
  obtain ⟨o, w3, m3, H3, hR, hF3, hs3, hfin⟩ := hcall.perm hperm w2 ((bas f (some l0)).atR ⟨t, [] ++ D⟩ (.inRangeFunc w.heap.size :: k) :: cs) hF2.emb
  obtain ⟨rfl, Hc', rfl, hJ⟩ := hR
  obtain ⟨_, fr', rfl, _, hleave⟩ := hfin
  have hback : Steps P (lone ((bas f (some l0)).atR ⟨t, D⟩ (.code (.rangeFunc gop ps.toArray as bd) :: k)) cs w) (lone ((bas f (some l0)).atR ⟨t, [] ++ D⟩ (.endRangeFunc w.heap.size :: k)) cs w3) := by
    refine .head hst (hs3.trans (.one ?_))
    rw [← finish_atR_inRangeFunc (b := bas f (some l0)) (a := ⟨t, [] ++ D⟩) (k := k) w.heap.size (.tuple #[])]
    exact step_leave_returned hleave
  have hFall := hF2.trans hF3
  have fin : ∀ (rc' : Loop) (H1 : Heap), Hc' = (w.heap.size, .loop rc') :: H1 → rc'.state ≠ .busy → ∃ w4, (Instr.endLoop w.heap.size).run P w3 = .ok rc'.pending w4 ∧ Fr H w (Hi ++ H1) w4 := by
    intro rc' H1 hH hb
    subst hH
    have hg : w3.heap[w.heap.size]? = some (.loop rc') := hF3.emb.at_ (w.heap.size, .loop rc') (by simp)
    have hpm : (Hi ++ (w.heap.size, Obj.loop rc') :: H1).Perm ((w.heap.size, .loop rc') :: (Hi ++ H1)) := List.perm_middle
    have hE3 := hF3.emb.perm hpm
    have hset := (HOb.head (H := Hi ++ H1) (b := w.heap.size) (o := .loop rc')).set hE3 (.loop { rc' with state := .exhausted })
    refine ⟨_, ?_, (hFall.perm (.refl _) hpm).trans (hset.sub (List.sublist_cons_self _ _))⟩
    simp [Instr.endLoop, Instr.getLoop, getObj, setObj, Sem.run, hg, Result.andThen, hb]
  rcases hJ with ⟨H1, hH, hI⟩ | ⟨c, H1, hH, hI⟩
  · obtain ⟨w4, hr, hF4⟩ := fin rc H1 hH (by simp [rc])
    obtain ⟨o, w5, m5, H5, hq, hF5, hs5, hfin5⟩ := done H1 hI t w4 cs hA hF4.emb
    refine ⟨o, w5, m5, H5, hq, hF4.trans hF5, hback.trans (.head (stepR_endRangeFunc (b := bas f (some l0)) hr) ?_), hfin5⟩
    simpa [rc] using hs5
  · obtain ⟨w4, hr, hF4⟩ := fin _ H1 hH (by simp)
    obtain ⟨o, w5, m5, H5, hq, hF5, hs5, hfin5⟩ := stop c H1 hI t w4 cs hA hF4.emb
    refine ⟨o, w5, m5, H5, hq, hF4.trans hF5, hback.trans (.head (stepR_endRangeFunc (b := bas f (some l0)) hr) ?_), hfin5⟩
    simpa using hs5

/-! ### The end of a function that has ranged over an iterator -/
theorem vret_mark {r : Nat} {F : Obj → Heap} [hH : HOb H r (.deferred (some [])) F] (h : VRet P f N E D (F (.deferred Option.none)) Q) : VRet P f N E (mark r :: D) H Q := by
  intro t w cs k hA hE
  have hg := hH.get hE
  obtain ⟨o, w', m', H', hq, hF, hs, hfin⟩ := h t _ cs k hA (hH.set hE (.deferred Option.none)).emb
  refine ⟨o, w', m', H', hq, (hH.set hE _).trans hF, .head (step_lone_go ?_) hs, hfin⟩
  have hr : (Instr.takeDeferred r).run P w = .ok [] { w with heap := w.heap.setIfInBounds r (.deferred Option.none) } := by
    simp [Instr.takeDeferred, getObj, setObj, Sem.run, hg, Result.andThen]
  simp [stepG, unwind, mark, Frame.atR, Sem.runT_eq, hr, bas]
end
end Go.Proofs.Ytffpfcomikcimaa
