/-
  Parts of the proof: rules of the engine, walks of functions, plain Lean. No condition.
-/
import Derived.Test.YtoebpndlbldfcaaGreatDoorTd01
import Derived.Laws.Small
namespace Go.Proofs.YtoebpndlbldfcaaGreatDoor
open Go
inductive Kd where
  | q | n | a (ob : Obj) | m | g | s | c | w | e
section
variable {P : Program} {f : FuncId} {ro : Option Nat} {N : Nat} {k : List Item} {D : List Deferred} {Q : Out → Heap → Prop} {ops : Array Oper}
def Good (P : Program) (f : FuncId) (ro : Option Nat) (D : List Deferred) (Q : Out → Heap → Prop) (k : List Item) (t : Array Value) (G H : Heap) : Prop :=
  ∀ (w : World) (cs : List Frame), Emb (G ++ H) w → ∃ o w' m' H', Q o H' ∧ Fr (G ++ H) w H' w' ∧ Steps P (lone ((bas f ro).atR ⟨t, D⟩ k) cs w) m' ∧ Fin P f ro cs w' m' o
def St (P : Program) (D : List Deferred) (o : Oper) (R : Value → Heap → Prop) (t : Array Value) (H : Heap) : Prop :=
  ∀ w, Emb H w → ∃ n w1, (execOp (Act.eval ⟨t, D⟩) o).run P w = .ok n w1 ∧ NGo P n w1 (fun v w2 => ∃ H', Fr H w H' w2 ∧ R v H')
def pu (D : List Deferred) (t : Array Value) (d : Option Nat) (v : Value) : Array Value := (Act.put ⟨t, D⟩ d v).tmps
def Want (ops : Array Oper) (o : Oper) (t : Array Value) : Prop := Region.wanted o (yielded ops t) = true
abbrev KK := Array Value → Heap → Heap → Prop
def NE (G H : Heap) : Prop := ∃ w : World, Emb (G ++ H) w
def Gd (K : KK) : KK := fun t G H => NE G H → K t G H
def Psh (P : Program) (D : List Deferred) (o : Oper) (t : Array Value) (V : Nat → Value) (ob : Obj) : Prop :=
  ∀ w : World, (execOp (Act.eval ⟨t, D⟩) o).run P w = .ok (.value (V w.heap.size)) { w with heap := w.heap.push ob }
def Stp (P : Program) (D : List Deferred) (ops : Array Oper) (kd : Kd) (o : Oper) (K : KK) (t : Array Value) (G H : Heap) : Prop :=
  match kd with
  | .q => ∃ v, ((Want ops o t ∧ St P D o (fun u H' => u = v ∧ H' = H) t H) ∨ (¬ Want ops o t ∧ v = undef)) ∧ K (pu D t o.dst v) G H
  | .n => ∃ v, Want ops o t ∧ St P D o (fun u H' => u = v ∧ H' = G ++ H) t (G ++ H) ∧ K (pu D t o.dst v) G H
  | .a ob => ∀ b, K (pu D t o.dst (.pointer (some ⟨b, 0, Option.none⟩))) ((b, ob) :: G) H
  | .m => Want ops o t ∧ ∃ V ob, Psh P D o t V ob ∧ ∀ b, K (pu D t o.dst (V b)) ((b, ob) :: G) H
  | .g => Want ops o t ∧ St P D o (fun v H' => ∃ B, H' = B ++ (G ++ H) ∧ K (pu D t o.dst v) (B ++ G) H) t (G ++ H)
  | .s => Want ops o t ∧ St P D o (fun v H' => K (pu D t o.dst v) H' H) t G
  | .c => Want ops o t ∧ St P D o (fun v H' => K (pu D t o.dst v) G H') t H
  | .w => Want ops o t ∧ St P D o (fun v H' => ∃ G2 H2, H'.Perm (G2 ++ H2) ∧ K (pu D t o.dst v) G2 H2) t (G ++ H)
  | .e => Want ops o t ∧ St P D o (fun v H' => ∃ G2, H' = G2 ++ H ∧ K (pu D t o.dst v) G2 H) t (G ++ H)
def PermC (K : KK) : Prop := ∀ t G G' H H', G.Perm G' → H.Perm H' → K t G H → K t G' H'
theorem St.mono {o : Oper} {R R' : Value → Heap → Prop} {t : Array Value} {H : Heap} (h : St P D o R t H) (hr : ∀ v H', R v H' → R' v H') : St P D o R' t H :=
  fun w hE => let ⟨n, w1, h1, h2⟩ := h w hE; ⟨n, w1, h1, h2.mono fun v w2 ⟨H', hF, hR⟩ => ⟨H', hF, hr v H' hR⟩⟩
theorem St.perm {o : Oper} {R : Value → Heap → Prop} {t : Array Value} {H H' : Heap} (hp : H.Perm H') (h : St P D o R t H) : St P D o R t H' :=
  fun w hE => let ⟨n, w1, h1, h2⟩ := h w (hE.perm hp.symm); ⟨n, w1, h1, h2.mono fun v w2 ⟨H2, hF, hR⟩ => ⟨H2, hF.perm hp (.refl _), hR⟩⟩
theorem St.out {o : Oper} {R : Value → Heap → Prop} {t : Array Value} {H : Heap} (h : St P D o R t H) : St P D o (fun v H' => ∃ H2, H2.Perm H' ∧ R v H2) t H :=
  h.mono fun v H' hR => ⟨H', .refl _, hR⟩
theorem St.outp {o : Oper} {R R' : Value → Heap → Prop} {t : Array Value} {H : Heap} (h : St P D o R t H) (hr : ∀ v H', R v H' → ∃ H2, H'.Perm H2 ∧ R' v H2) : St P D o R' t H :=
  fun w hE => let ⟨n, w1, h1, h2⟩ := h w hE; ⟨n, w1, h1, h2.mono fun v w2 ⟨H', hF, hR⟩ => let ⟨H2, hp, hR'⟩ := hr v H' hR; ⟨H2, hF.perm (.refl _) hp, hR'⟩⟩
theorem St.frame {o : Oper} {R : Value → Heap → Prop} {t : Array Value} {A B : Heap} (h : St P D o R t A) : St P D o (fun v H' => ∃ A', H' = A' ++ B ∧ R v A') t (A ++ B) :=
  fun w hE => let ⟨n, w1, h1, h2⟩ := h w (hE.sub (List.sublist_append_left A B)); ⟨n, w1, h1, h2.mono fun v w2 ⟨A', hF, hR⟩ => ⟨A' ++ B, hF.frame hE, A', rfl, hR⟩⟩
theorem St.front {o : Oper} {R : Value → Heap → Prop} {t : Array Value} {H : Heap} (G : Heap) (h : St P D o R t H) : St P D o (fun v H' => ∃ A', H' = G ++ A' ∧ R v A') t (G ++ H) := by
  refine ((h.frame (B := G)).perm List.perm_append_comm).outp fun v H' ⟨A', e, hR⟩ => ?_
  subst e
  exact ⟨G ++ A', List.perm_append_comm, A', rfl, hR⟩
theorem quiet_perm {o : Oper} {v : Value} {t : Array Value} {H H' : Heap} (hp : H.Perm H') (h : St P D o (fun u H2 => u = v ∧ H2 = H) t H) : St P D o (fun u H2 => u = v ∧ H2 = H') t H' :=
  (h.perm hp).outp fun u H2 ⟨e1, e2⟩ => by subst e2; exact ⟨H', hp, e1, rfl⟩
theorem Stp.permC {kd : Kd} {o : Oper} {K : KK} (hK : PermC K) : PermC (Stp P D ops kd o K) := by
  intro t G G' H H' hg hp h
  have hgp := hg.append hp
  cases kd with
  | q =>
    obtain ⟨v, h1, h2⟩ := h
    exact ⟨v, h1.imp (fun hh => ⟨hh.1, quiet_perm hp hh.2⟩) id, hK _ _ _ _ _ hg hp h2⟩
  | n =>
    obtain ⟨v, h1, h2, h3⟩ := h
    exact ⟨v, h1, quiet_perm hgp h2, hK _ _ _ _ _ hg hp h3⟩
  | a ob => exact fun b => hK _ _ _ _ _ (hg.cons _) hp (h b)
  | m => obtain ⟨h1, V, ob, h2, h3⟩ := h; exact ⟨h1, V, ob, h2, fun b => hK _ _ _ _ _ (hg.cons _) hp (h3 b)⟩
  | g =>
    refine ⟨h.1, (h.2.perm hgp).outp fun v H2 ⟨B, e, hk⟩ => ?_⟩
    subst e
    exact ⟨B ++ (G' ++ H'), hgp.append_left B, B, rfl, hK _ _ _ _ _ (hg.append_left B) hp hk⟩
  | s => exact ⟨h.1, (h.2.perm hg).mono fun v H2 hk => hK _ _ _ _ _ (.refl _) hp hk⟩
  | c => exact ⟨h.1, (h.2.perm hp).mono fun v H2 hk => hK _ _ _ _ _ hg (.refl _) hk⟩
  | w => exact ⟨h.1, h.2.perm hgp⟩
  | e =>
    refine ⟨h.1, (h.2.perm hgp).outp fun v H2 ⟨G2, e, hk⟩ => ?_⟩
    subst e
    exact ⟨G2 ++ H', hp.append_left G2, G2, rfl, hK _ _ _ _ _ (.refl _) hp hk⟩
theorem Stp.mono {kd : Kd} {o : Oper} {K K' : KK} (hK : ∀ t G H, K t G H → K' t G H) {t : Array Value} {G H : Heap} (h : Stp P D ops kd o K t G H) : Stp P D ops kd o K' t G H := by
  cases kd with
  | q => obtain ⟨v, h1, h2⟩ := h; exact ⟨v, h1, hK _ _ _ h2⟩
  | n => obtain ⟨v, h1, h2, h3⟩ := h; exact ⟨v, h1, h2, hK _ _ _ h3⟩
  | a ob => exact fun b => hK _ _ _ (h b)
  | m => obtain ⟨h1, V, ob, h2, h3⟩ := h; exact ⟨h1, V, ob, h2, fun b => hK _ _ _ (h3 b)⟩
  | g => exact ⟨h.1, h.2.mono fun v H' ⟨x, e, hh⟩ => ⟨x, e, hK _ _ _ hh⟩⟩
  | s => exact ⟨h.1, h.2.mono fun v H' hh => hK _ _ _ hh⟩
  | c => exact ⟨h.1, h.2.mono fun v H' hh => hK _ _ _ hh⟩
  | w => exact ⟨h.1, h.2.mono fun v H' ⟨G2, H2, hp, hh⟩ => ⟨G2, H2, hp, hK _ _ _ hh⟩⟩
  | e => exact ⟨h.1, h.2.mono fun v H' ⟨x, e, hh⟩ => ⟨x, e, hK _ _ _ hh⟩⟩
def mayFlip : Kd → Kd → Bool
  | .q, .m | .n, .m | .a _, .m | .m, .a _ | .m, .m | .s, .m | .c, .m | .g, .m | .w, .m => true
  | .q, .q | .q, .n | .n, .q | .n, .n | .q, .a _ | .n, .a _ | .a _, .a _ | .s, .a _ | .c, .a _ | .g, .a _ | .q, .g | .n, .g | .q, .s | .q, .e => true
  | _, _ => false
def sel (o : Oper) : Bool := match o.op with | .select .. => false | _ => true
theorem sel_spec {o : Oper} (h : sel o = true) (cs : Array SelectCase) (b : Bool) : o.op ≠ .select cs b := by
  intro e; simp [sel, e] at h
theorem St.put {oi oj : Oper} {v : Value} (hj : sel oj = true) (h1 : ∀ d, oi.dst = some d → d ∉ oj.looksAt ops) {R : Value → Heap → Prop} {t : Array Value} {H : Heap} :
    St P D oj R (pu D t oi.dst v) H ↔ St P D oj R t H := by
  have e : execOp (Act.eval ⟨pu D t oi.dst v, D⟩) oj = execOp (Act.eval ⟨t, D⟩) oj := by
    have := execOp_put (ops := ops) oj (sel_spec hj) ⟨t, D⟩ oi.dst v h1
    rw [put_defers] at this
    exact this
  unfold St
  rw [e]
theorem Want.put {oi oj : Oper} {v : Value} (h1 : ∀ d, oi.dst = some d → d ∉ oj.looksAt ops) {t : Array Value} : Want ops oj (pu D t oi.dst v) ↔ Want ops oj t := by
  have := wanted_put (ops := ops) oj ⟨t, D⟩ oi.dst v h1
  unfold Want pu
  rw [this]
theorem pu_comm {oi oj : Oper} {v u : Value} (h : ∀ d, oi.dst = some d → oj.dst ≠ some d) (t : Array Value) : pu D (pu D t oi.dst v) oj.dst u = pu D (pu D t oj.dst u) oi.dst v := by
  have := Act.put_comm ⟨t, D⟩ (x := oi.dst) (y := oj.dst) v u h
  have h2 := congrArg Act.tmps this
  unfold pu
  rw [put_defers t oi.dst v, put_defers t oj.dst u] at h2
  exact h2
theorem NE.sub {G H G' H' : Heap} (h : NE G' H') (hs : (G ++ H).Sublist (G' ++ H')) : NE G H := let ⟨w, hE⟩ := h; ⟨w, hE.sub hs⟩
theorem NE.perm {G H G' H' : Heap} (h : NE G' H') (hs : (G' ++ H').Perm (G ++ H)) : NE G H := let ⟨w, hE⟩ := h; ⟨w, hE.perm hs⟩
theorem NE.drop {x : Nat × Obj} {G H : Heap} (h : NE (x :: G) H) : NE G H := h.sub (List.Sublist.cons _ (List.Sublist.refl _))
theorem NE.drop2 {x y : Nat × Obj} {G H : Heap} (h : NE (x :: y :: G) H) : NE (x :: G) H := h.sub (List.Sublist.cons_cons _ (List.Sublist.cons _ (List.Sublist.refl _)))
theorem NE.dropM {y : Nat × Obj} {B G H : Heap} (h : NE (B ++ y :: G) H) : NE (B ++ G) H := h.sub ((List.Sublist.append_left (List.sublist_cons_self _ _) _).append_right _)
theorem NE.swap {x y : Nat × Obj} {G H : Heap} (h : NE (x :: y :: G) H) : NE (y :: x :: G) H := h.perm (List.Perm.swap _ _ _)
theorem Psh.put {oi oj : Oper} {v : Value} (hj : sel oj = true) (h1 : ∀ d, oi.dst = some d → d ∉ oj.looksAt ops) {V : Nat → Value} {ob : Obj} {t : Array Value} :
    Psh P D oj (pu D t oi.dst v) V ob ↔ Psh P D oj t V ob := by
  have e : execOp (Act.eval ⟨pu D t oi.dst v, D⟩) oj = execOp (Act.eval ⟨t, D⟩) oj := by
    have := execOp_put (ops := ops) oj (sel_spec hj) ⟨t, D⟩ oi.dst v h1
    rw [put_defers] at this
    exact this
  unfold Psh
  rw [e]
theorem Psh.uniq {o : Oper} {t : Array Value} {V V' : Nat → Value} {ob ob' : Obj} (h : Psh P D o t V ob) (h' : Psh P D o t V' ob') : V = V' ∧ ob = ob' := by
  have key : ∀ n : Nat, V n = V' n ∧ ob = ob' := fun n => by
    let w : World := { (default : World) with heap := Array.replicate n ob }
    have e := (h w).symm.trans (h' w)
    simp only [Result.ok.injEq, Next.value.injEq] at e
    obtain ⟨e1, e2⟩ := e
    have hs : w.heap.size = n := by simp [w]
    refine ⟨by rw [← hs]; exact e1, ?_⟩
    have e3 := congrArg (fun x : World => x.heap.back?) e2
    simpa using e3
  exact ⟨funext fun n => (key n).1, (key 0).2⟩
theorem NGo.ex {n : Next} {w : World} {R : Value → World → Prop} (h : NGo P n w R) : ∃ v w', R v w' := by
  cases n <;> simp only [NGo] at h
  case value v => exact ⟨v, w, h⟩
  case skip => exact ⟨_, w, h⟩
  case enter g a => obtain ⟨v, w', hr, _⟩ := h default []; exact ⟨v, w', hr⟩
  case round l g tt a b => obtain ⟨v, w', hr, _⟩ := h default []; exact ⟨v, w', hr⟩
theorem St.ex {o : Oper} {R : Value → Heap → Prop} {t : Array Value} {H : Heap} (h : St P D o R t H) {w : World} (hE : Emb H w) : ∃ v H', (∃ w', Emb H' w') ∧ R v H' := by
  obtain ⟨n, w1, _, h2⟩ := h w hE
  obtain ⟨v, w2, H', hF, hR⟩ := h2.ex
  exact ⟨v, H', ⟨w2, hF.emb⟩, hR⟩
theorem NE.new {G H : Heap} (h : NE G H) (ob : Obj) : ∃ b, NE ((b, ob) :: G) H := let ⟨w, hE⟩ := h; ⟨w.heap.size, _, (Fr.new hE ob).emb⟩
theorem Gd.permC {K : KK} (hK : PermC K) : PermC (Gd K) := fun t G G' H H' hg hp h hn => hK _ _ _ _ _ hg hp (h (hn.perm (hg.append hp).symm))
theorem Stp.flip {x y : Kd} {oi oj : Oper} {K : KK} (hK : PermC K) (hi : sel oi = true) (hj : sel oj = true) (hap : oi.apart ops oj = true) (hf : mayFlip x y = true) {t : Array Value} {G H : Heap} (hne : NE G H)
    (h : Stp P D ops x oi (Gd (Stp P D ops y oj (Gd K))) t G H) : Stp P D ops y oj (Gd (Stp P D ops x oi (Gd K))) t G H := by
  obtain ⟨a1, a2, a3⟩ := Oper.apart_spec hap
  cases x with
  | q =>
    obtain ⟨vi, hqi, h⟩ := h
    have h := h hne
    have hqi' : ∀ u, ((Want ops oi (pu D t oj.dst u) ∧ St P D oi (fun v H2 => v = vi ∧ H2 = H) (pu D t oj.dst u) H) ∨ (¬ Want ops oi (pu D t oj.dst u) ∧ vi = undef)) := by
      intro u
      rw [Want.put a3, St.put hi a3]
      exact hqi
    cases y with
    | q =>
      obtain ⟨vj, hqj, h⟩ := h
      rw [Want.put a1, St.put hj a1] at hqj
      exact ⟨vj, hqj, fun _ => ⟨vi, hqi' vj, by rw [← pu_comm a2]; exact h⟩⟩
    | n =>
      obtain ⟨vj, hw, hqj, h⟩ := h
      rw [Want.put a1] at hw
      rw [St.put hj a1] at hqj
      exact ⟨vj, hw, hqj, fun _ => ⟨vi, hqi' vj, by rw [← pu_comm a2]; exact h⟩⟩
    | a ob => exact fun b _ => ⟨vi, hqi' _, by rw [← pu_comm a2]; exact h b⟩
    | m =>
      obtain ⟨hw, V, ob, hp, h⟩ := h
      rw [Want.put a1] at hw
      rw [Psh.put (ops := ops) hj a1] at hp
      exact ⟨hw, V, ob, hp, fun b _ => ⟨vi, hqi' _, by rw [← pu_comm a2]; exact h b⟩⟩
    | g =>
      obtain ⟨hw, h⟩ := h
      rw [Want.put a1] at hw
      rw [St.put hj a1] at h
      exact ⟨hw, h.mono fun u H' ⟨x, e, hh⟩ => ⟨x, e, fun _ => ⟨vi, hqi' u, by rw [← pu_comm a2]; exact hh⟩⟩⟩
    | s =>
      obtain ⟨hw, h⟩ := h
      rw [Want.put a1] at hw
      rw [St.put hj a1] at h
      exact ⟨hw, h.mono fun u H' hh _ => ⟨vi, hqi' u, by rw [← pu_comm a2]; exact hh⟩⟩
    | e =>
      obtain ⟨hw, h⟩ := h
      rw [Want.put a1] at hw
      rw [St.put hj a1] at h
      exact ⟨hw, h.mono fun u H' ⟨x, e, hh⟩ => ⟨x, e, fun _ => ⟨vi, hqi' u, by rw [← pu_comm a2]; exact hh⟩⟩⟩
    | _ => cases hf
  | n =>
    obtain ⟨vi, hwi, hqi, h⟩ := h
    have h := h hne
    have hwi' : ∀ u, Want ops oi (pu D t oj.dst u) := fun u => (Want.put a3).2 hwi
    have hqi' : ∀ u, St P D oi (fun v H2 => v = vi ∧ H2 = G ++ H) (pu D t oj.dst u) (G ++ H) := fun u => (St.put hi a3).2 hqi
    cases y with
    | q =>
      obtain ⟨vj, hqj, h⟩ := h
      rw [Want.put a1, St.put hj a1] at hqj
      exact ⟨vj, hqj, fun _ => ⟨vi, hwi' vj, hqi' vj, by rw [← pu_comm a2]; exact h⟩⟩
    | n =>
      obtain ⟨vj, hw, hqj, h⟩ := h
      rw [Want.put a1] at hw
      rw [St.put hj a1] at hqj
      exact ⟨vj, hw, hqj, fun _ => ⟨vi, hwi' vj, hqi' vj, by rw [← pu_comm a2]; exact h⟩⟩
    | a ob =>
      refine fun b _ => ⟨vi, hwi' _, ?_, by rw [← pu_comm a2]; exact h b⟩
      exact ((hqi' (.pointer (some ⟨b, 0, Option.none⟩))).front [(b, ob)]).mono fun v H2 ⟨A', e1, e2, e3⟩ => ⟨e2, by rw [e1, e3]; rfl⟩
    | m =>
      obtain ⟨hw, V, ob, hp, h⟩ := h
      rw [Want.put a1] at hw
      rw [Psh.put (ops := ops) hj a1] at hp
      refine ⟨hw, V, ob, hp, fun b _ => ⟨vi, hwi' _, ?_, by rw [← pu_comm a2]; exact h b⟩⟩
      exact ((hqi' (V b)).front [(b, ob)]).mono fun v H2 ⟨A', e1, e2, e3⟩ => ⟨e2, by rw [e1, e3]; rfl⟩
    | g =>
      obtain ⟨hw, h⟩ := h
      rw [Want.put a1] at hw
      rw [St.put hj a1] at h
      refine ⟨hw, h.mono fun u H' ⟨x, e, hh⟩ => ⟨x, e, fun _ => ⟨vi, hwi' u, ?_, by rw [← pu_comm a2]; exact hh⟩⟩⟩
      rw [List.append_assoc]
      exact ((hqi' u).front x).mono fun v H2 ⟨A', e1, e2, e3⟩ => ⟨e2, by rw [e1, e3]⟩
    | _ => cases hf
  | a ob =>
    cases y with
    | a ob' =>
      intro b' _ b hn2
      rw [← pu_comm a2]
      exact Gd.permC hK _ _ _ _ _ (List.Perm.swap _ _ _) (.refl _) (h b hn2.drop2 b') hn2
    | m =>
      obtain ⟨b0, hn0⟩ := hne.new ob
      obtain ⟨hw, V, obm, hp, _⟩ := h b0 hn0
      rw [Want.put a1] at hw
      rw [Psh.put (ops := ops) hj a1] at hp
      refine ⟨hw, V, obm, hp, fun b' _ b hn2 => ?_⟩
      obtain ⟨_, V', ob', hp', hk⟩ := h b hn2.drop2
      rw [Psh.put (ops := ops) hj a1] at hp'
      obtain ⟨rfl, rfl⟩ := hp.uniq hp'
      rw [← pu_comm a2]
      exact Gd.permC hK _ _ _ _ _ (List.Perm.swap _ _ _) (.refl _) (hk b') hn2
    | _ => cases hf
  | m =>
    obtain ⟨hwi, V, ob, hpi, h⟩ := h
    cases y with
    | a ob' =>
      intro b' _
      refine ⟨(Want.put a3).2 hwi, V, ob, (Psh.put (ops := ops) hi a3).2 hpi, fun b hn2 => ?_⟩
      rw [← pu_comm a2]
      exact Gd.permC hK _ _ _ _ _ (List.Perm.swap _ _ _) (.refl _) (h b hn2.drop2 b') hn2
    | m =>
      obtain ⟨b0, hn0⟩ := hne.new ob
      obtain ⟨hw, V', ob', hp, _⟩ := h b0 hn0
      rw [Want.put a1] at hw
      rw [Psh.put (ops := ops) hj a1] at hp
      refine ⟨hw, V', ob', hp, fun b' _ => ⟨(Want.put a3).2 hwi, V, ob, (Psh.put (ops := ops) hi a3).2 hpi, fun b hn2 => ?_⟩⟩
      obtain ⟨_, V2, ob2, hp2, hk⟩ := h b hn2.drop2
      rw [Psh.put (ops := ops) hj a1] at hp2
      obtain ⟨rfl, rfl⟩ := hp.uniq hp2
      rw [← pu_comm a2]
      exact Gd.permC hK _ _ _ _ _ (List.Perm.swap _ _ _) (.refl _) (hk b') hn2
    | _ => cases hf
  | g =>
    obtain ⟨hwi, h⟩ := h
    cases y with
    | a ob =>
      intro b _
      refine ⟨(Want.put a3).2 hwi, (St.put hi a3).2 ?_⟩
      refine (h.front [(b, ob)]).outp fun v H2 ⟨A', e1, x, e2, hh⟩ => ?_
      subst e1; subst e2
      refine ⟨x ++ ((b, ob) :: G ++ H), (List.perm_middle (a := (b, ob)) (l₁ := x) (l₂ := G ++ H)).symm, x, rfl, fun hn => ?_⟩
      rw [← pu_comm a2]
      exact Gd.permC hK _ _ _ _ _ List.perm_middle.symm (.refl _) (hh hn.dropM b) hn
    | m =>
      obtain ⟨w0, hE0⟩ := hne
      obtain ⟨v0, H0, ⟨w1, hE1⟩, x0, e0, h0⟩ := h.ex hE0
      subst e0
      obtain ⟨hw, V, ob, hp, _⟩ := h0 ⟨w1, by rw [List.append_assoc]; exact hE1⟩
      rw [Want.put a1] at hw
      rw [Psh.put (ops := ops) hj a1] at hp
      refine ⟨hw, V, ob, hp, fun b _ => ⟨(Want.put a3).2 hwi, (St.put hi a3).2 ?_⟩⟩
      refine (h.front [(b, ob)]).outp fun v H2 ⟨A', e1, x, e2, hh⟩ => ?_
      subst e1; subst e2
      refine ⟨x ++ ((b, ob) :: G ++ H), (List.perm_middle (a := (b, ob)) (l₁ := x) (l₂ := G ++ H)).symm, x, rfl, fun hn => ?_⟩
      obtain ⟨_, V2, ob2, hp2, hk⟩ := hh hn.dropM
      rw [Psh.put (ops := ops) hj a1] at hp2
      obtain ⟨rfl, rfl⟩ := hp.uniq hp2
      rw [← pu_comm a2]
      exact Gd.permC hK _ _ _ _ _ List.perm_middle.symm (.refl _) (hk b) hn
    | _ => cases hf
  | s =>
    obtain ⟨hwi, h⟩ := h
    cases y with
    | a ob =>
      intro b _
      refine ⟨(Want.put a3).2 hwi, (St.put hi a3).2 ?_⟩
      refine (h.front [(b, ob)]).mono fun v H2 ⟨A', e1, hh⟩ hn => ?_
      subst e1
      rw [← pu_comm a2]
      exact hh hn.drop b hn
    | m =>
      obtain ⟨w0, hE0⟩ := hne
      obtain ⟨v0, H0, ⟨w1, hE1⟩, h0⟩ := (h.frame (B := H)).ex hE0
      obtain ⟨A0, e0, h0⟩ := h0
      subst e0
      obtain ⟨hw, V, ob, hp, _⟩ := h0 ⟨w1, hE1⟩
      rw [Want.put a1] at hw
      rw [Psh.put (ops := ops) hj a1] at hp
      refine ⟨hw, V, ob, hp, fun b _ => ⟨(Want.put a3).2 hwi, (St.put hi a3).2 ?_⟩⟩
      refine (h.front [(b, ob)]).mono fun v H2 ⟨A', e1, hh⟩ hn => ?_
      subst e1
      obtain ⟨_, V2, ob2, hp2, hk⟩ := hh hn.drop
      rw [Psh.put (ops := ops) hj a1] at hp2
      obtain ⟨rfl, rfl⟩ := hp.uniq hp2
      rw [← pu_comm a2]
      exact hk b hn
    | _ => cases hf
  | c =>
    obtain ⟨hwi, h⟩ := h
    cases y with
    | a ob =>
      intro b hnb
      refine ⟨(Want.put a3).2 hwi, (St.put hi a3).2 ?_⟩
      refine h.mono fun v H2 hh hn => ?_
      rw [← pu_comm a2]
      exact hh hn.drop b hn
    | m =>
      obtain ⟨w0, hE0⟩ := hne
      obtain ⟨v0, H0, ⟨w1, hE1⟩, A0, e0, h0⟩ := (h.front G).ex hE0
      subst e0
      obtain ⟨hw, V, ob, hp, _⟩ := h0 ⟨w1, hE1⟩
      rw [Want.put a1] at hw
      rw [Psh.put (ops := ops) hj a1] at hp
      refine ⟨hw, V, ob, hp, fun b _ => ⟨(Want.put a3).2 hwi, (St.put hi a3).2 ?_⟩⟩
      refine h.mono fun v H2 hh hn => ?_
      obtain ⟨_, V2, ob2, hp2, hk⟩ := hh hn.drop
      rw [Psh.put (ops := ops) hj a1] at hp2
      obtain ⟨rfl, rfl⟩ := hp.uniq hp2
      rw [← pu_comm a2]
      exact hk b hn
    | _ => cases hf
  | w =>
    obtain ⟨hwi, h⟩ := h
    cases y with
    | m =>
      obtain ⟨w0, hE0⟩ := hne
      obtain ⟨v0, H0, ⟨w1, hE1⟩, G0, A0, hp0, h0⟩ := h.ex hE0
      obtain ⟨hw, V, ob, hp, _⟩ := h0 ⟨w1, hE1.perm hp0⟩
      rw [Want.put a1] at hw
      rw [Psh.put (ops := ops) hj a1] at hp
      refine ⟨hw, V, ob, hp, fun b _ => ⟨(Want.put a3).2 hwi, (St.put hi a3).2 ?_⟩⟩
      refine (h.front [(b, ob)]).mono fun v H2 ⟨A', e1, G2, A2, hp2, hh⟩ => ?_
      subst e1
      refine ⟨(b, ob) :: G2, A2, hp2.cons _, fun hn => ?_⟩
      obtain ⟨_, V2, ob2, hp3, hk⟩ := hh hn.drop
      rw [Psh.put (ops := ops) hj a1] at hp3
      obtain ⟨rfl, rfl⟩ := hp.uniq hp3
      rw [← pu_comm a2]
      exact hk b hn
    | _ => cases hf
  | e => cases y <;> cases hf
def Canon (P : Program) (D : List Deferred) (ops : Array Oper) (K : KK) : List (Kd × Oper) → KK
  | [], t, G, H => K t G H
  | (kd, o) :: l, t, G, H => Stp P D ops kd o (Gd (Canon P D ops K l)) t G H
theorem Canon.permC {K : KK} (hK : PermC K) : ∀ l, PermC (Canon P D ops K l)
  | [] => hK
  | (_, _) :: l => Stp.permC (Gd.permC (Canon.permC hK l))
theorem Canon.front {K : KK} (hK : PermC K) {y : Kd} {oj : Oper} (hj : sel oj = true) : ∀ (A B : List (Kd × Oper)) (t : Array Value) (G H : Heap), NE G H →
    (∀ p ∈ A, sel p.2 = true ∧ p.2.apart ops oj = true ∧ mayFlip p.1 y = true) → Canon P D ops K (A ++ (y, oj) :: B) t G H → Canon P D ops K ((y, oj) :: (A ++ B)) t G H
  | [], _, _, _, _, _, _, h => h
  | (x, oi) :: A, B, t, G, H, hne, hA, h => by
    obtain ⟨h1, h2, h3⟩ := hA _ (List.mem_cons_self ..)
    have h4 : Stp P D ops x oi (Gd (Stp P D ops y oj (Gd (Canon P D ops K (A ++ B))))) t G H :=
      Stp.mono (fun t G H hh hn => Canon.front hK hj A B t G H hn (fun p hp => hA p (List.mem_cons_of_mem _ hp)) (hh hn)) h
    exact Stp.flip (Canon.permC hK _) h1 hj h2 h3 hne h4
theorem Stp.good {kd : Kd} {o : Oper} {i : Nat} {is : List Nat} (hi : ops[i]? = some o) (hdef : ∀ c, o.op ≠ .defer c) (ha : ∀ ob, kd = .a ob → o.guard = Option.none ∧ ∀ (t : Array Value) (w : World), (execOp (Act.eval ⟨t, D⟩) o).run P w = .ok (.value (.pointer (some ⟨w.heap.size, 0, Option.none⟩))) { w with heap := w.heap.push ob })
    {t : Array Value} {G H : Heap} (h : Stp P D ops kd o (Gd (Good P f ro D Q (.inRegion ops is :: k))) t G H) : Good P f ro D Q (.inRegion ops (i :: is) :: k) t G H := by
  replace h : Stp P D ops kd o (Good P f ro D Q (.inRegion ops is :: k)) t G H := Stp.mono (fun t G H hh w cs hE => hh ⟨w, hE⟩ w cs hE) h
  intro w cs hE
  have hfin : ∀ v, ((bas f ro).atR ⟨t, D⟩ (.inRegion ops (i :: is) :: k)).finish v = (bas f ro).atR (Act.put ⟨t, D⟩ o.dst v) (.inRegion ops is :: k) := by
    intro v; rw [Frame.finish_atR, hi]; rfl
  have key : ∀ v w' G' H', Fr (G ++ H) w (G' ++ H') w' → Good P f ro D Q (.inRegion ops is :: k) (pu D t o.dst v) G' H' →
      Steps P (lone ((bas f ro).atR ⟨t, D⟩ (.inRegion ops (i :: is) :: k)) cs w) (lone ((bas f ro).atR (Act.put ⟨t, D⟩ o.dst v) (.inRegion ops is :: k)) cs w') →
      ∃ o w' m' H', Q o H' ∧ Fr (G ++ H) w H' w' ∧ Steps P (lone ((bas f ro).atR ⟨t, D⟩ (.inRegion ops (i :: is) :: k)) cs w) m' ∧ Fin P f ro cs w' m' o := by
    intro v w' G' H' hF hg hs
    rw [put_defers] at hs
    obtain ⟨oo, w2, m2, H2, hq, hF2, hs2, hfi⟩ := hg w' cs hF.emb
    exact ⟨oo, w2, m2, H2, hq, hF.trans hF2, hs.trans hs2, hfi⟩
  have run : ∀ (R : Value → Heap → Prop), Want ops o t → St P D o R t (G ++ H) → (∀ v H', R v H' → ∃ G2 H2, H'.Perm (G2 ++ H2) ∧ Good P f ro D Q (.inRegion ops is :: k) (pu D t o.dst v) G2 H2) →
      ∃ o w' m' H', Q o H' ∧ Fr (G ++ H) w H' w' ∧ Steps P (lone ((bas f ro).atR ⟨t, D⟩ (.inRegion ops (i :: is) :: k)) cs w) m' ∧ Fin P f ro cs w' m' o := by
    intro R hw hst hgood
    have hg := stepGR_op (P := P) (b := bas f ro) (a := ⟨t, D⟩) (k := k) (cs := cs) (w := w) (rest := is) hi hw
    rw [Oper.semAt_eq _ _ _ hdef] at hg
    obtain ⟨n, w1, hr, hn⟩ := hst w hE
    cases n <;> simp only [NGo] at hn
    case value v =>
      obtain ⟨H', hF, hR⟩ := hn
      obtain ⟨G2, H2, hp, hR⟩ := hgood v H' hR
      refine key v w1 G2 H2 (hF.perm (.refl _) hp) hR (.one (step_lone_go ?_))
      rw [hg, ← hfin]; simp [stepG.apply, hr]
    case skip =>
      obtain ⟨H', hF, hR⟩ := hn
      obtain ⟨G2, H2, hp, hR⟩ := hgood undef H' hR
      refine key undef w1 G2 H2 (hF.perm (.refl _) hp) hR (.one (step_lone_go ?_))
      rw [hg, ← hfin]; simp [stepG.apply, hr]
    case enter g args =>
      obtain ⟨v, w', ⟨H', hF, hR⟩, hs⟩ := hn ((bas f ro).atR ⟨t, D⟩ (.inRegion ops (i :: is) :: k)) cs
      obtain ⟨G2, H2, hp, hR⟩ := hgood v H' hR
      refine key v w' G2 H2 (hF.perm (.refl _) hp) hR (.head (step_lone_go ?_) (by rw [← hfin]; exact hs))
      rw [hg]; simp [stepG.apply, hr, Frame.atR]
    case round l g tmps assign body =>
      obtain ⟨v, w', ⟨H', hF, hR⟩, hs⟩ := hn ((bas f ro).atR ⟨t, D⟩ (.inRegion ops (i :: is) :: k)) cs
      obtain ⟨G2, H2, hp, hR⟩ := hgood v H' hR
      refine key v w' G2 H2 (hF.perm (.refl _) hp) hR (.head (step_lone_go ?_) (by rw [← hfin]; exact hs))
      rw [hg]; simp [stepG.apply, hr, Frame.atR]
  cases kd with
  | q =>
    obtain ⟨v, hq, hg⟩ := h
    rcases hq with ⟨hw, hst⟩ | ⟨hw, rfl⟩
    · exact run _ hw (hst.front G) (fun u H' ⟨A', e1, e2, e3⟩ => by subst e1; subst e2; subst e3; exact ⟨G, _, .refl _, hg⟩)
    · have hs := stepR_op_skip (P := P) (b := bas f ro) (a := ⟨t, D⟩) (k := k) (cs := cs) (w := w) (ops := ops) (i := i) (rest := is)
        (by simp only [hi, Option.map_some, Option.getD_some]; simpa [Want] using hw)
      simp only [hi, Option.bind_some] at hs
      exact key undef w G H (Fr.refl hE) hg (.one hs)
  | n =>
    obtain ⟨v, hw, hst, hg⟩ := h
    exact run _ hw hst (fun u H' ⟨e2, e3⟩ => by subst e2; subst e3; exact ⟨G, H, .refl _, hg⟩)
  | a ob =>
    obtain ⟨h1, h2⟩ := ha ob rfl
    exact run (fun v H' => ∃ b, v = .pointer (some ⟨b, 0, Option.none⟩) ∧ H' = (b, ob) :: (G ++ H)) (by simp [Want, Region.wanted, h1])
      (fun w hE => ⟨_, _, h2 t w, (w.heap.size, ob) :: (G ++ H), Fr.new hE ob, w.heap.size, rfl, rfl⟩) (fun v H' hR => by obtain ⟨b, rfl, rfl⟩ := hR; exact ⟨(b, ob) :: G, H, .refl _, h b⟩)
  | g => exact run _ h.1 h.2 (fun v H' ⟨x, e, hR⟩ => by subst e; exact ⟨x ++ G, H, by rw [List.append_assoc], hR⟩)
  | s => exact run _ h.1 h.2.frame (fun v H' ⟨A', e, hR⟩ => by subst e; exact ⟨A', H, .refl _, hR⟩)
  | c => exact run _ h.1 (h.2.front G) (fun v H' ⟨A', e, hR⟩ => by subst e; exact ⟨G, A', .refl _, hR⟩)
  | m =>
    obtain ⟨h1, V, ob, h2, h3⟩ := h
    exact run (fun v H' => ∃ b, v = V b ∧ H' = (b, ob) :: (G ++ H)) h1 (fun w hE => ⟨_, _, h2 w, (w.heap.size, ob) :: (G ++ H), Fr.new hE ob, w.heap.size, rfl, rfl⟩) (fun v H' hR => by obtain ⟨b, rfl, rfl⟩ := hR; exact ⟨(b, ob) :: G, H, .refl _, h3 b⟩)
  | w => exact run _ h.1 h.2 (fun v H' hR => hR)
  | e => exact run _ h.1 h.2 (fun v H' ⟨x, e, hR⟩ => by subst e; exact ⟨x, H, .refl _, hR⟩)
inductive Anc (ops : Array Oper) : Nat → Nat → Prop
  | dir {j : Nat} {o : Oper} {e : Edge} : ops[j]? = some o → e ∈ o.after → Region.binds .any e = true → Anc ops e.on j
  | step {i j : Nat} {o : Oper} {e : Edge} : ops[j]? = some o → e ∈ o.after → Region.binds .any e = true → Anc ops i e.on → Anc ops i j
def maskE (ms : List Nat) : List Edge → Nat
  | [] => 0
  | e :: r => bif Region.binds .any e then Nat.lor (Nat.lor (Nat.shiftLeft 1 e.on) (ms.getD e.on 0)) (maskE ms r) else maskE ms r
def masksL : List Oper → List Nat → List Nat
  | [], ms => ms
  | o :: r, ms => masksL r (ms ++ [maskE ms o.after.toList])
theorem maskE_bit (ms : List Nat) (i : Nat) : ∀ l : List Edge, (maskE ms l).testBit i = true → ∃ e ∈ l, Region.binds .any e = true ∧ (e.on = i ∨ (ms.getD e.on 0).testBit i = true)
  | [], h => by simp [maskE] at h
  | e :: r, h => by
    unfold maskE at h
    cases hb : Region.binds .any e with
    | false =>
      rw [hb] at h
      obtain ⟨e', h1, h2⟩ := maskE_bit ms i r h
      exact ⟨e', by simp [h1], h2⟩
    | true =>
      rw [hb] at h
      have h : ((1 <<< e.on ||| ms.getD e.on 0) ||| maskE ms r).testBit i = true := h
      rw [Nat.testBit_or, Nat.testBit_or, Bool.or_eq_true, Bool.or_eq_true] at h
      rcases h with (h | h) | h
      · refine ⟨e, by simp, hb, .inl ?_⟩
        rw [Nat.one_shiftLeft, Nat.testBit_two_pow] at h
        simpa using h
      · exact ⟨e, by simp, hb, .inr h⟩
      · obtain ⟨e', h1, h2⟩ := maskE_bit ms i r h
        exact ⟨e', by simp [h1], h2⟩
theorem masks_anc (ops : Array Oper) : ∀ (r : List Oper) (pre : List Oper) (ms : List Nat), ops.toList = pre ++ r → ms.length = pre.length → (∀ i j, (ms.getD j 0).testBit i = true → Anc ops i j) → ∀ i j, ((masksL r ms).getD j 0).testBit i = true → Anc ops i j
  | [], _, _, _, _, h => h
  | o :: r, pre, ms, he, hl, h => by
    refine masks_anc ops r (pre ++ [o]) (ms ++ [maskE ms o.after.toList]) (by rw [he]; simp) (by simp [hl]) fun i j hb => ?_
    by_cases hj : j < ms.length
    · rw [List.getD_eq_getElem?_getD, List.getElem?_append_left hj, ← List.getD_eq_getElem?_getD] at hb
      exact h i j hb
    · by_cases hj2 : j = ms.length
      · subst hj2
        rw [List.getD_eq_getElem?_getD, List.getElem?_append_right (Nat.le_refl _)] at hb
        simp only [Nat.sub_self, List.getElem?_cons_zero, Option.getD_some] at hb
        have ho : ops[ms.length]? = some o := by
          rw [← Array.getElem?_toList, he, hl, List.getElem?_append_right (Nat.le_refl _)]; simp
        obtain ⟨e, h1, h2, h3⟩ := maskE_bit ms i _ hb
        rcases h3 with rfl | h3
        · exact .dir ho (by simpa using h1) h2
        · exact .step ho (by simpa using h1) h2 (h i e.on h3)
      · rw [List.getD_eq_getElem?_getD, List.getElem?_append_right (by omega), List.getElem?_eq_none (by simp; omega)] at hb
        simp at hb
def pairOk (ops : Array Oper) (ms : List Nat) (x y : Kd × Nat) : Bool :=
  (match ops[x.2]?, ops[y.2]? with | some oi, some oj => mayFlip x.1 y.1 && oi.apart ops oj | _, _ => false) || Nat.testBit (ms.getD y.2 0) x.2
def pairsOk (ops : Array Oper) (ms : List Nat) : List (Kd × Nat) → Bool
  | [] => true
  | x :: l => l.all (pairOk ops ms x) && pairsOk ops ms l
def drawOk (ops : Array Oper) (l : List (Kd × Nat)) : Bool :=
  (ops.toList.zipIdx.all fun p => p.1.after.all (fun e => !Region.binds .any e || Nat.blt e.on p.2) && sel p.1 && (match p.1.op with | .defer _ => false | _ => true)) &&
  (List.range ops.size).all (fun i => (l.map (·.2)).contains i) && (decide (l.map (·.2)).Nodup && l.all (fun p => Nat.blt p.2 ops.size)) && pairsOk ops (masksL ops.toList []) l
structure Inv (ops : Array Oper) (listed : Array Bool) : Prop where
  size : listed.size = ops.size
  closed : ∀ j oj, ops[j]? = some oj → listed.getD j false = true → ∀ e ∈ oj.after, Region.binds .any e = true → listed.getD e.on false = true
theorem getD_b {listed : Array Bool} {i : Nat} (hi : i < listed.size) : listed.getD i true = listed.getD i false := by simp [Array.getD, hi]
theorem anc_listed {listed : Array Bool} (inv : Inv ops listed) {i j : Nat} (h : Anc ops i j) : (∀ oj, ops[j]? = some oj → ∀ e ∈ oj.after, Region.binds .any e = true → listed.getD e.on false = true) → listed.getD i false = true := by
  induction h with
  | dir ho he hb => exact fun hj => hj _ ho _ he hb
  | step ho he hb _ ih => exact fun hj => ih fun oj hoj => inv.closed _ oj hoj (hj _ ho _ he hb)
theorem pairsOk_split {n : List Nat} : ∀ (A : List (Kd × Nat)) (y : Kd × Nat) (B : List (Kd × Nat)), pairsOk ops n (A ++ y :: B) = true → (∀ x ∈ A, pairOk ops n x y = true) ∧ pairsOk ops n (A ++ B) = true
  | [], y, B, h => by simp only [List.nil_append, pairsOk, Bool.and_eq_true] at h; exact ⟨(fun x hx => by cases hx), h.2⟩
  | x :: A, y, B, h => by
    simp only [List.cons_append, pairsOk, Bool.and_eq_true, List.all_eq_true] at h
    obtain ⟨h1, h2⟩ := pairsOk_split A y B h.2
    refine ⟨fun z hz => ?_, ?_⟩
    · rcases List.mem_cons.1 hz with rfl | hz
      · exact h.1 y (by simp)
      · exact h1 z hz
    · simp only [List.cons_append, pairsOk, Bool.and_eq_true, List.all_eq_true]
      refine ⟨fun z hz => h.1 z ?_, h2⟩
      rcases List.mem_append.1 hz with hz | hz
      · exact List.mem_append_left _ hz
      · exact List.mem_append_right _ (List.mem_cons_of_mem _ hz)
theorem nodup_len : ∀ {l l' : List Nat}, l.Nodup → (∀ i ∈ l, i ∈ l') → l.length ≤ l'.length
  | [], _, _, _ => by simp
  | x :: l, l', h, hs => by
    have hx := hs x (by simp)
    obtain ⟨h1, h2⟩ := List.nodup_cons.1 h
    have h3 := nodup_len (l := l) (l' := l'.erase x) h2 (fun i hi => (List.mem_erase_of_ne (by rintro rfl; exact h1 hi)).2 (hs i (List.mem_cons_of_mem _ hi)))
    rw [List.length_erase_of_mem hx] at h3
    have : 0 < l'.length := List.length_pos_of_mem hx
    simp; omega
def oseq (ops : Array Oper) (l : List (Kd × Nat)) : List (Kd × Oper) := l.filterMap fun p => (ops[p.2]?).map fun o => (p.1, o)
theorem Good.of_ne {t : Array Value} {G H : Heap} (h : NE G H → Good P f ro D Q k t G H) : Good P f ro D Q k t G H := fun w cs hE => h ⟨w, hE⟩ w cs hE
theorem draw_go {Al : Nat → Obj → Prop} (hsel : ∀ (j : Nat) (o : Oper), ops[j]? = some o → sel o = true ∧ (∀ c, o.op ≠ .defer c) ∧ ∀ e ∈ o.after, Region.binds .any e = true → e.on < j)
    (hAl : ∀ (j : Nat) (o : Oper) (ob : Obj), Al j ob → ops[j]? = some o → o.guard = Option.none ∧ ∀ (t : Array Value) (w : World), (execOp (Act.eval ⟨t, D⟩) o).run P w = .ok (.value (.pointer (some ⟨w.heap.size, 0, Option.none⟩))) { w with heap := w.heap.push ob })
    (hG : PermC (Good P f ro D Q (.inRegion ops [] :: k))) {ms : List Nat} (hms : ∀ i j, (ms.getD j 0).testBit i = true → Anc ops i j) :
    ∀ (fuel tp : Nat) (listed : Array Bool) (l : List (Kd × Nat)) (t : Array Value) (G H : Heap), Inv ops listed → l.length = fuel → (l.map (·.2)).Nodup → (∀ j, j ∈ l.map (·.2) ↔ (j < ops.size ∧ listed.getD j false = false)) →
      (∀ j ob, (Kd.a ob, j) ∈ l → Al j ob) → pairsOk ops ms l = true → Canon P D ops (Good P f ro D Q (.inRegion ops [] :: k)) (oseq ops l) t G H →
      Good P f ro D Q (.inRegion ops (Region.linearise.go .any ops fuel tp listed []) :: k) t G H := by
  intro fuel
  induction fuel with
  | zero =>
    intro tp listed l t G H _ hlen _ _ _ _ h
    have : l = [] := List.length_eq_zero_iff.1 hlen
    subst this
    simpa [Region.linearise.go, oseq, Canon] using h
  | succ fuel ih =>
    intro tp listed l t G H inv hlen hnd hmem hal hpo h
    simp only [Region.linearise.go]
    change Good P f ro D Q (.inRegion ops (match (Region.ready .any ops listed)[tp % (Region.ready .any ops listed).length]? with
      | some i => Region.linearise.go .any ops fuel (tp / (Region.ready .any ops listed).length) (listed.setIfInBounds i true) [i]
      | Option.none => [].reverse) :: k) t G H
    cases hi : (Region.ready .any ops listed)[tp % (Region.ready .any ops listed).length]? with
    | none =>
      exfalso
      have hnil : Region.ready .any ops listed = [] := by
        cases hr : Region.ready .any ops listed with
        | nil => rfl
        | cons x xs =>
          rw [hr] at hi
          have hlt : tp % (x :: xs).length < (x :: xs).length := Nat.mod_lt _ (by simp)
          simp at hi
          simp at hlt
          omega
      -- the least one that is not listed is ready
      have key : ∀ m, ∀ j, j < m → j ∈ l.map (·.2) → False := by
        intro m
        induction m with
        | zero => intro j hj; omega
        | succ m ihm =>
          intro j hj hjl
          obtain ⟨h1, h2⟩ := (hmem j).1 hjl
          obtain ⟨o, ho⟩ : ∃ o, ops[j]? = some o := ⟨ops[j], by simp [h1]⟩
          have hrd : j ∈ Region.ready .any ops listed := by
            refine mem_ready.2 ⟨by rw [getD_b (by rw [inv.size]; exact h1)]; exact h2, o, ho, fun e he hb => ?_⟩
            have hlt := (hsel j o ho).2.2 e he hb
            cases hl : listed.getD e.on false with
            | true => rfl
            | false => exact (ihm e.on (by omega) ((hmem e.on).2 ⟨by omega, hl⟩)).elim
          rw [hnil] at hrd; cases hrd
      cases l with
      | nil => simp at hlen
      | cons p l => exact key (p.2 + 1) p.2 (by omega) (by simp)
    | some i =>
      simp only []
      rw [linearise_go_acc, List.reverse_singleton, List.singleton_append]
      have hrd : i ∈ Region.ready .any ops listed := List.mem_of_getElem? hi
      obtain ⟨hun, oi, hoi, hall⟩ := mem_ready.1 hrd
      have hlt : i < ops.size := (Array.getElem?_eq_some_iff.1 hoi).1
      have hil : i ∈ l.map (·.2) := (hmem i).2 ⟨hlt, by rw [← getD_b (by rw [inv.size]; exact hlt)]; exact hun⟩
      obtain ⟨⟨kd, i'⟩, hp, rfl⟩ := List.mem_map.1 hil
      obtain ⟨A, B, rfl⟩ := List.append_of_mem hp
      obtain ⟨hpa, hpo'⟩ := pairsOk_split A _ B hpo
      have hoA : oseq ops (A ++ (kd, i') :: B) = oseq ops A ++ (kd, oi) :: oseq ops B := by simp [oseq, List.filterMap_append, hoi]
      rw [hoA] at h
      refine Good.of_ne fun hne => ?_
      have hfront := Canon.front hG (hsel i' oi hoi).1 (oseq ops A) (oseq ops B) t G H hne (by
        rintro ⟨x, o⟩ hpx
        obtain ⟨⟨x', j⟩, hj, hj2⟩ := List.mem_filterMap.1 hpx
        simp only [Option.map_eq_some_iff, Prod.mk.injEq] at hj2
        obtain ⟨o', ho', rfl, rfl⟩ := hj2
        refine ⟨(hsel j o' ho').1, ?_⟩
        have hok := hpa _ hj
        have hjl : j ∈ (A ++ (kd, i') :: B).map (·.2) := List.mem_map.2 ⟨(x', j), List.mem_append_left _ hj, rfl⟩
        have hjun := ((hmem j).1 hjl).2
        simp only [pairOk, Bool.or_eq_true, ho', hoi, Bool.and_eq_true] at hok
        rcases hok with hok | hok
        · exact ⟨hok.2, hok.1⟩
        · have := anc_listed inv (hms _ _ hok) (fun oj hoj e he hb => by
            have : oj = oi := Option.some.inj (hoj.symm.trans hoi)
            subst this; exact hall e he hb)
          rw [hjun] at this; cases this) h
      have hoAB : oseq ops A ++ oseq ops B = oseq ops (A ++ B) := by simp [oseq, List.filterMap_append]
      rw [hoAB] at hfront
      refine Stp.good hoi (hsel i' oi hoi).2.1 (fun ob (e : kd = Kd.a ob) => hAl i' oi ob (hal i' ob (by subst e; exact hp)) hoi) ?_
      refine Stp.mono (fun t' G' H' hc0 _ => Good.of_ne fun hne' => ?_) hfront
      have hc := hc0 hne'
      have hnd' : ((A ++ B).map (·.2)).Nodup ∧ i' ∉ (A ++ B).map (·.2) := by
        simp only [List.map_append, List.map_cons] at hnd ⊢
        have hp : (A.map (·.2) ++ i' :: B.map (·.2)).Perm (i' :: (A.map (·.2) ++ B.map (·.2))) := List.perm_middle
        have := hp.nodup_iff.1 hnd
        rw [List.nodup_cons] at this
        exact ⟨this.2, this.1⟩
      refine ih _ _ (A ++ B) t' G' H' ⟨by simp [inv.size], fun j oj hj hl e he hb => ?_⟩ (by simp at hlen ⊢; omega) hnd'.1 (fun j => ?_) (fun j ob hm => hal j ob ?_) hpo' hc
      · by_cases hij : i' = j
        · subst hij
          have : oj = oi := Option.some.inj (hj.symm.trans hoi)
          subst this
          exact getD_set_true (hall e he hb)
        · rw [getD_set_ne false hij] at hl
          exact getD_set_true (inv.closed j oj hj hl e he hb)
      · have h0 := hmem j
        by_cases hij : i' = j
        · subst hij
          refine ⟨fun hm => (hnd'.2 hm).elim, fun hm => ?_⟩
          have : (listed.setIfInBounds i' true).getD i' false = true := by
            have hs : i' < listed.size := by rw [inv.size]; exact hlt
            simp [Array.getD, hs]
          rw [this] at hm; cases hm.2
        · rw [getD_set_ne false hij, ← h0]
          simp only [List.map_append, List.map_cons, List.mem_append, List.mem_cons]
          constructor
          · rintro (h1 | h1)
            · exact .inl h1
            · exact .inr (.inr h1)
          · rintro (h1 | h1 | h1)
            · exact .inl h1
            · exact absurd h1.symm hij
            · exact .inr h1
      · rcases List.mem_append.1 hm with hm | hm
        · exact List.mem_append_left _ hm
        · exact List.mem_append_right _ (List.mem_cons_of_mem _ hm)
def VD (P : Program) (f : FuncId) (ro : Option Nat) (N : Nat) (ops : Array Oper) (l : List (Kd × Oper)) (k : List Item) (E : Env) (D : List Deferred) (G H : Heap) (Q : Out → Heap → Prop) : Prop :=
  ∀ t, Agree N E t → Canon P D ops (Good P f ro D Q (.inRegion ops [] :: k)) l t G H
variable {E : Env} {G H : Heap} {l : List (Kd × Oper)}
theorem Good.permC : PermC (Good P f ro D Q k) := fun _ _ _ _ _ hg hp h w cs hE =>
  let ⟨o, w', m', H2, q, fr, r⟩ := h w cs (hE.perm (hg.append hp).symm); ⟨o, w', m', H2, q, fr.perm (hg.append hp) (.refl _), r⟩
def allocOk (P : Program) (ops : Array Oper) : List (Kd × Nat) → Prop
  | [] => True
  | (.a ob, i) :: l => (∃ d T ty pos af, ops[i]? = some ⟨d, .alloc T, ty, pos, af, Option.none⟩ ∧ ∃ zs, TZe P T zs ∧ ob = blk zs T) ∧ allocOk P ops l
  | (.q, _) :: l => allocOk P ops l
  | (.n, _) :: l => allocOk P ops l
  | (.m, _) :: l => allocOk P ops l
  | (.g, _) :: l => allocOk P ops l
  | (.e, _) :: l => allocOk P ops l
  | (.s, _) :: l => allocOk P ops l
  | (.c, _) :: l => allocOk P ops l
  | (.w, _) :: l => allocOk P ops l
theorem allocOk_mem {ob : Obj} {j : Nat} : ∀ l : List (Kd × Nat), allocOk P ops l → (Kd.a ob, j) ∈ l → ∃ d T ty pos af, ops[j]? = some ⟨d, .alloc T, ty, pos, af, Option.none⟩ ∧ ∃ zs, TZe P T zs ∧ ob = blk zs T
  | [], _, h => by cases h
  | (kd, i) :: l, h, hm => by
    rcases List.mem_cons.1 hm with e | hm
    · cases e; exact h.1
    · refine allocOk_mem l ?_ hm
      cases kd <;> first | exact h | exact h.2
theorem vdrawP {id : Nat} {lo : List Oper} {G0 H0 : Heap} (hp : H.Perm (G0 ++ H0)) (π : List (Kd × Nat)) (hm : P.follows .mixedOrders = true) (hok : drawOk lo.toArray π = true) (hal : allocOk P lo.toArray π)
    (h : VD P f ro N lo.toArray (oseq lo.toArray π) k E D G0 H0 Q) : VRun P f ro N (.code (.region id lo.toArray true) :: k) E D H Q := by
  refine VRun.perm hp ?_
  simp only [drawOk, Bool.and_eq_true] at hok
  obtain ⟨⟨⟨h1, h2⟩, h3⟩, h4⟩ := hok
  obtain ⟨h3, h3'⟩ := h3
  have hcont : ∀ i, i < lo.toArray.size → i ∈ π.map (·.2) := fun i hi => by
    have := List.all_eq_true.1 h2 i (List.mem_range.2 hi)
    simpa using this
  have hnd : (π.map (·.2)).Nodup := of_decide_eq_true h3
  have hbd : ∀ i, i ∈ π.map (·.2) → i < lo.toArray.size := fun i hi => by
    obtain ⟨p, hp, rfl⟩ := List.mem_map.1 hi
    exact Nat.le_of_ble_eq_true (List.all_eq_true.1 h3' p hp)
  have hlen : π.length = lo.toArray.size := by
    have h1 : (π.map (·.2)).length ≤ (List.range lo.toArray.size).length := nodup_len hnd fun i hi => List.mem_range.2 (hbd i hi)
    have h2 : (List.range lo.toArray.size).length ≤ (π.map (·.2)).length := nodup_len List.nodup_range fun i hi => hcont i (List.mem_range.1 hi)
    simp at h1 h2
    simp; omega
  have hsel : ∀ (j : Nat) (o : Oper), lo.toArray[j]? = some o → sel o = true ∧ (∀ c, o.op ≠ .defer c) ∧ ∀ e ∈ o.after, Region.binds .any e = true → e.on < j := by
    intro j o ho
    have hz : (o, j) ∈ lo.toArray.toList.zipIdx := by
      rw [List.mem_zipIdx_iff_getElem?]
      simpa using ho
    have := List.all_eq_true.1 h1 _ hz
    simp only [Bool.and_eq_true] at this
    obtain ⟨⟨g1, g2⟩, g3⟩ := this
    refine ⟨g2, fun c e => by simp [e] at g3, fun e he hb => ?_⟩
    have := Array.all_eq_true_iff_forall_mem.1 g1 e he
    simp only [hb, Bool.not_true, Bool.false_or] at this
    exact Nat.le_of_ble_eq_true this
  intro t w cs hA hE
  have hgo := draw_go (P := P) (f := f) (ro := ro) (D := D) (Q := Q) (k := k) (ops := lo.toArray) (Al := fun j ob => (Kd.a ob, j) ∈ π) hsel (fun j o ob hj ho => by
      obtain ⟨d, T, ty, pos, af, ho', zs, hT, rfl⟩ := allocOk_mem _ hal hj
      have : o = ⟨d, .alloc T, ty, pos, af, Option.none⟩ := Option.some.inj (ho.symm.trans ho')
      subst this
      refine ⟨rfl, fun t w => ?_⟩
      obtain ⟨z, hz, hzr⟩ := hT.zero
      simp [execOp, Instr.alloc, hzr, run_newVar, hz, blk]) Good.permC (masks_anc lo.toArray lo [] [] (by simp) rfl (fun i j h => by simp at h))
    lo.toArray.size (w.tape w.drawn (.order f id)) (Array.replicate lo.toArray.size false) π t G0 H0
    ⟨by simp, fun j oj _ hl => by
      have : (Array.replicate lo.toArray.size false).getD j false = false := by
        rcases Nat.lt_or_ge j lo.toArray.size with h | h <;> simp [Array.getD, h]
      rw [this] at hl; cases hl⟩ hlen hnd (fun j => by
      have : (Array.replicate lo.toArray.size false).getD j false = false := by
        rcases Nat.lt_or_ge j lo.toArray.size with h | h <;> simp [Array.getD, h]
      rw [this]; exact ⟨fun h => ⟨hbd j h, rfl⟩, fun h => hcont j h.1⟩) (fun j ob hj => hj) h4 (h t hA)
  have hstep := stepR_region_draw (P := P) (b := bas f ro) (a := ⟨t, D⟩) (k := k) (cs := cs) (w := w) (ops := lo.toArray) (id := id)
  have hF : Fr (G0 ++ H0) w (G0 ++ H0) { w with drawn := w.drawn + 1 } := ⟨rfl, rfl, rfl, Nat.le_refl _, fun _ _ _ => rfl, ⟨hE.nodup, hE.at_⟩, fun e he => .inl (List.mem_map.2 ⟨e, he, rfl⟩)⟩
  have hsched : Region.schedule (P.follows .mixedOrders) lo.toArray (w.tape w.drawn (.order (bas f ro).fn id)) = Region.linearise.go .any lo.toArray lo.toArray.size (w.tape w.drawn (.order f id)) (Array.replicate lo.toArray.size false) [] := by
    simp only [Region.schedule, hm, Bool.true_or, if_true, Region.linearise]
    rfl
  rw [hsched] at hstep
  obtain ⟨o, w', m', H', hq, hF2, hs, hfin⟩ := hgo { w with drawn := w.drawn + 1 } cs hF.emb
  exact ⟨o, w', m', H', hq, hF.trans hF2, .head hstep hs, hfin⟩
theorem vdraw {id : Nat} {lo : List Oper} (π : List (Kd × Nat)) (hm : P.follows .mixedOrders = true) (hok : drawOk lo.toArray π = true) (hal : allocOk P lo.toArray π)
    (h : VD P f ro N lo.toArray (oseq lo.toArray π) k E D [] H Q) : VRun P f ro N (.code (.region id lo.toArray true) :: k) E D H Q := vdrawP (G0 := []) (.refl _) π hm hok hal h
class HOut (H : Heap) (b : Nat) (o : outParam Obj) (H0 : outParam Heap) : Prop where
  perm : H.Perm ((b, o) :: H0)
instance HOut.head {H : Heap} {b : Nat} {o : Obj} : HOut ((b, o) :: H) b o H := ⟨.refl _⟩
instance (priority := low) HOut.tail {x : Nat × Obj} {H H0 : Heap} {b : Nat} {o : Obj} [h : HOut H b o H0] : HOut (x :: H) b o (x :: H0) := ⟨(h.perm.cons x).trans (List.Perm.swap _ _ _)⟩
theorem vdraw1 {id d b : Nat} {lo : List Oper} {o : Obj} {H1 : Heap} (hd : look E d = some (.pointer (some ⟨b, 0, Option.none⟩))) [h1 : HOut H b o H1] (π : List (Kd × Nat)) (hm : P.follows .mixedOrders = true) (hok : drawOk lo.toArray π = true) (hal : allocOk P lo.toArray π)
    (h : VD P f ro N lo.toArray (oseq lo.toArray π) k E D [(b, o)] H1 Q) : VRun P f ro N (.code (.region id lo.toArray true) :: k) E D H Q := vdrawP (G0 := [(b, o)]) h1.perm π hm hok hal h
def noAlloc : List (Kd × Nat) → Bool
  | [] => true
  | (.a _, _) :: _ => false
  | _ :: l => noAlloc l
theorem allocOk_of : ∀ l : List (Kd × Nat), noAlloc l = true → allocOk P ops l
  | [], _ => True.intro
  | (kd, i) :: l, h => by
    cases kd <;> first | (simp [noAlloc] at h; done) | exact allocOk_of l (by simpa [noAlloc] using h)
theorem vdraw0 {id : Nat} {lo : List Oper} (π : List (Kd × Nat)) (hm : P.follows .mixedOrders = true) (hok : drawOk lo.toArray π = true) (hal : noAlloc π = true)
    (h : VD P f ro N lo.toArray (oseq lo.toArray π) k E D [] H Q) : VRun P f ro N (.code (.region id lo.toArray true) :: k) E D H Q := vdraw π hm hok (allocOk_of π hal) h
theorem vdnil (h : VRun P f ro N (.inRegion ops [] :: k) E D (G ++ H) Q) : VD P f ro N ops [] k E D G H Q := fun t hA w cs hE => h t w cs hA hE
def appHO : Heap → Heap → Option Heap
  | [], ys => some ys
  | x :: xs, ys => match appHO xs ys with | some l => some (x :: l) | Option.none => Option.none
theorem appHO_eq : ∀ (xs ys l : Heap), appHO xs ys = some l → xs ++ ys = l
  | [], ys, l, h => by simp [appHO] at h; simp [h]
  | x :: xs, ys, l, h => by
    simp only [appHO] at h
    split at h
    · rename_i m hm; cases h; simp [appHO_eq xs ys m hm]
    · cases h
theorem vdend {M : Heap} (hM : appHO G H = some M) (h : VRun P f ro N k E D M Q) : VD P f ro N ops [] k E D G H Q := vdnil (vregend (by rw [appHO_eq _ _ _ hM]; exact h))
theorem OG.st {o : Oper} {R : Value → Heap → Prop} (h : OG P N E D H o R) {t : Array Value} (hA : Agree N E t) : St P D o R t H := fun w hE => h.go t w hA hE
theorem agree_pu {t : Array Value} (hA : Agree N E t) {o : Option Nat} (hN : ∀ d, o = some d → d < N) (v : Value) : Agree N (upd E o v) (pu D t o v) := Agree.upd hA hN v D
def Met (ops : Array Oper) (N : Nat) (E : Env) (o : Oper) : Prop := ∀ t, Agree N E t → Region.wanted o (yielded ops t) = true
theorem mone {o : Oper} (hg : o.guard = Option.none) : Met ops N E o := fun t _ => by simp [Region.wanted, hg]
theorem myes {o : Oper} {j d : Nat} {want : Bool} (hg : o.guard = some (j, want)) (hd : (ops[j]?).bind (·.dst) = some d) (hb : look E d = some (.bool want)) : Met ops N E o :=
  fun t hA => by simp [Region.wanted, hg, yielded_of hA hd hb]
theorem vdq {o : Oper} {d : Nat} {v : Value} (hm : Met ops N E o) (h : OQ P N E D H o v) (ho : o.dst = some d) (hN : Nat.blt d N = true) (hL : VD P f ro N ops l k ((d, v) :: E) D G H Q) : VD P f ro N ops ((.q, o) :: l) k E D G H Q := by
  intro t hA
  refine ⟨v, .inl ⟨hm t hA, h.st hA⟩, fun _ => hL _ ?_⟩
  have := agree_pu hA (D := D) (o := o.dst) (fun d' hd' => by rw [ho] at hd'; cases hd'; exact Nat.le_of_ble_eq_true hN) v
  rwa [ho] at this ⊢
theorem vdno {o : Oper} {j d d' : Nat} {want : Bool} (hg : o.guard = some (j, want)) (hd : (ops[j]?).bind (·.dst) = some d) (hb : look E d = some (.bool (!want))) (ho : o.dst = some d') (hN : Nat.blt d' N = true)
    (hL : VD P f ro N ops l k ((d', undef) :: E) D G H Q) : VD P f ro N ops ((.q, o) :: l) k E D G H Q := by
  intro t hA
  refine ⟨undef, .inr ⟨by simp [Want, Region.wanted, hg, yielded_of hA hd hb], rfl⟩, fun _ => hL _ ?_⟩
  have := agree_pu hA (D := D) (o := o.dst) (fun d' hd' => by rw [ho] at hd'; cases hd'; exact Nat.le_of_ble_eq_true hN) undef
  rwa [ho] at this ⊢
theorem vdnou {o : Oper} {j d d' : Nat} {want : Bool} (hg : o.guard = some (j, want)) (hd : (ops[j]?).bind (·.dst) = some d) (hb : look E d = some undef) (ho : o.dst = some d') (hN : Nat.blt d' N = true)
    (hL : VD P f ro N ops l k ((d', undef) :: E) D G H Q) : VD P f ro N ops ((.q, o) :: l) k E D G H Q := by
  intro t hA
  refine ⟨undef, .inr ⟨by simp [Want, Region.wanted, hg, yielded_undef hA hd hb], rfl⟩, fun _ => hL _ ?_⟩
  have := agree_pu hA (D := D) (o := o.dst) (fun d' hd' => by rw [ho] at hd'; cases hd'; exact Nat.le_of_ble_eq_true hN) undef
  rwa [ho] at this ⊢
theorem vdqn {o : Oper} (hm : Met ops N E o) (h : OQ P N E D H o undef) (ho : o.dst = Option.none) (hL : VD P f ro N ops l k E D G H Q) : VD P f ro N ops ((.q, o) :: l) k E D G H Q := by
  intro t hA
  refine ⟨undef, .inl ⟨hm t hA, h.st hA⟩, fun _ => hL _ ?_⟩
  have := agree_pu hA (D := D) (o := o.dst) (fun d' hd' => by rw [ho] at hd'; cases hd') undef
  rwa [ho] at this ⊢
theorem vdn {o : Oper} {d : Nat} {v : Value} {M : Heap} (hM : appHO G H = some M) (hm : Met ops N E o) (h : OQ P N E D M o v) (ho : o.dst = some d) (hN : Nat.blt d N = true) (hL : VD P f ro N ops l k ((d, v) :: E) D G H Q) : VD P f ro N ops ((.n, o) :: l) k E D G H Q := by
  intro t hA
  have hM := appHO_eq _ _ _ hM
  subst hM
  refine ⟨v, hm t hA, h.st hA, fun _ => hL _ ?_⟩
  have := agree_pu hA (D := D) (o := o.dst) (fun d' hd' => by rw [ho] at hd'; cases hd'; exact Nat.le_of_ble_eq_true hN) v
  rwa [ho] at this ⊢
theorem vda {o : Oper} {d : Nat} {ob : Obj} (ho : o.dst = some d) (hN : Nat.blt d N = true) (hL : ∀ b, VD P f ro N ops l k ((d, .pointer (some ⟨b, 0, Option.none⟩)) :: E) D ((b, ob) :: G) H Q) : VD P f ro N ops ((.a ob, o) :: l) k E D G H Q := by
  intro t hA b _
  refine hL b _ ?_
  have := agree_pu hA (D := D) (o := o.dst) (fun d' hd' => by rw [ho] at hd'; cases hd'; exact Nat.le_of_ble_eq_true hN) (.pointer (some ⟨b, 0, Option.none⟩))
  rwa [ho] at this ⊢
theorem vdw {o : Oper} {d : Nat} {R : Value → Heap → Prop} {M : Heap} (hM : appHO G H = some M) (hm : Met ops N E o) (h : OG P N E D M o R) (ho : o.dst = some d) (hN : Nat.blt d N = true) (hL : ∀ v H', R v H' → VD P f ro N ops l k ((d, v) :: E) D [] H' Q) : VD P f ro N ops ((.w, o) :: l) k E D G H Q := by
  intro t hA
  have hM := appHO_eq _ _ _ hM
  subst hM
  refine ⟨hm t hA, (h.st hA).mono fun v H' hR => ⟨[], H', .refl _, fun _ => hL v H' hR _ ?_⟩⟩
  have := agree_pu hA (D := D) (o := o.dst) (fun d' hd' => by rw [ho] at hd'; cases hd'; exact Nat.le_of_ble_eq_true hN) v
  rwa [ho] at this ⊢
theorem vdg {o : Oper} {d : Nat} {V : Nat → Value} {ob : Obj} {M : Heap} (hM : appHO G H = some M) (hm : Met ops N E o) (h : OG P N E D M o (fun v H' => ∃ b, v = V b ∧ H' = (b, ob) :: M)) (ho : o.dst = some d) (hN : Nat.blt d N = true) (hL : ∀ b, VD P f ro N ops l k ((d, V b) :: E) D ((b, ob) :: G) H Q) :
    VD P f ro N ops ((.g, o) :: l) k E D G H Q := by
  intro t hA
  have hM := appHO_eq _ _ _ hM
  subst hM
  refine ⟨hm t hA, (h.st hA).mono fun v H' hR => ?_⟩
  obtain ⟨b, rfl, rfl⟩ := hR
  refine ⟨[(b, ob)], rfl, fun _ => hL b _ ?_⟩
  have := agree_pu hA (D := D) (o := o.dst) (fun d' hd' => by rw [ho] at hd'; cases hd'; exact Nat.le_of_ble_eq_true hN) (V b)
  rwa [ho] at this ⊢
theorem vdgl {o : Oper} {d : Nat} {R : Value → Heap → Prop} {M : Heap} (hM : appHO G H = some M) (hm : Met ops N E o) (h : OG P N E D M o (fun v H' => ∃ B, H' = B ++ M ∧ R v B)) (ho : o.dst = some d) (hN : Nat.blt d N = true) (hL : ∀ v B, R v B → VD P f ro N ops l k ((d, v) :: E) D (B ++ G) H Q) :
    VD P f ro N ops ((.g, o) :: l) k E D G H Q := by
  intro t hA
  have hM := appHO_eq _ _ _ hM
  subst hM
  refine ⟨hm t hA, (h.st hA).mono fun v H' hR => ?_⟩
  obtain ⟨B, rfl, hR⟩ := hR
  refine ⟨B, rfl, fun _ => hL v B hR _ ?_⟩
  have := agree_pu hA (D := D) (o := o.dst) (fun d' hd' => by rw [ho] at hd'; cases hd'; exact Nat.le_of_ble_eq_true hN) v
  rwa [ho] at this ⊢
theorem vde {o : Oper} {d : Nat} {R : Value → Heap → Prop} (hm : Met ops N E o) (h : OG P N E D (G ++ H) o (fun v H' => ∃ G2, H' = G2 ++ H ∧ R v G2)) (ho : o.dst = some d) (hN : Nat.blt d N = true) (hL : ∀ v G2, R v G2 → VD P f ro N ops l k ((d, v) :: E) D G2 H Q) :
    VD P f ro N ops ((.e, o) :: l) k E D G H Q := by
  intro t hA
  refine ⟨hm t hA, (h.st hA).mono fun v H' ⟨G2, e, hR⟩ => ⟨G2, e, fun _ => hL v G2 hR _ ?_⟩⟩
  have := agree_pu hA (D := D) (o := o.dst) (fun d' hd' => by rw [ho] at hd'; cases hd'; exact Nat.le_of_ble_eq_true hN) v
  rwa [ho] at this ⊢
theorem vdsd {o : Oper} {d : Nat} {R : Value → Heap → Prop} (hm : Met ops N E o) (h : OG P N E D G o R) (ho : o.dst = some d) (hN : Nat.blt d N = true) (hL : ∀ v H', R v H' → VD P f ro N ops l k ((d, v) :: E) D H' H Q) :
    VD P f ro N ops ((.s, o) :: l) k E D G H Q := by
  intro t hA
  refine ⟨hm t hA, (h.st hA).mono fun v H' hR _ => hL v H' hR _ ?_⟩
  have := agree_pu hA (D := D) (o := o.dst) (fun d' hd' => by rw [ho] at hd'; cases hd'; exact Nat.le_of_ble_eq_true hN) v
  rwa [ho] at this ⊢
theorem appHO_of : ∀ (G H : Heap), appHO G H = some (G ++ H)
  | [], _ => rfl
  | x :: G, H => by simp [appHO, appHO_of G H]
theorem vdm {o : Oper} {d : Nat} {V : Nat → Value} {ob : Obj} (hm : Met ops N E o) (h : ∀ t, Agree N E t → Psh P D o t V ob) (ho : o.dst = some d) (hN : Nat.blt d N = true) (hL : ∀ b, VD P f ro N ops l k ((d, V b) :: E) D ((b, ob) :: G) H Q) : VD P f ro N ops ((.m, o) :: l) k E D G H Q := by
  intro t hA
  refine ⟨hm t hA, V, ob, h t hA, fun b _ => hL b _ ?_⟩
  have := agree_pu hA (D := D) (o := o.dst) (fun d' hd' => by rw [ho] at hd'; cases hd'; exact Nat.le_of_ble_eq_true hN) (V b)
  rwa [ho] at this ⊢
theorem vds {o : Oper} {G1 : Heap} (hm : Met ops N E o) (h : OG P N E D G o (fun _ H' => H' = G1)) (ho : o.dst = Option.none) (hL : VD P f ro N ops l k E D G1 H Q) : VD P f ro N ops ((.s, o) :: l) k E D G H Q := by
  intro t hA
  refine ⟨hm t hA, (h.st hA).mono fun v H' hR => ?_⟩
  subst hR
  intro _
  refine hL _ ?_
  have := agree_pu hA (D := D) (o := o.dst) (fun d' hd' => by rw [ho] at hd'; cases hd') v
  rwa [ho] at this ⊢
theorem vdcs {o : Oper} {H1 : Heap} (hm : Met ops N E o) (h : OG P N E D H o (fun _ H' => H' = H1)) (ho : o.dst = Option.none) (hL : VD P f ro N ops l k E D G H1 Q) : VD P f ro N ops ((.c, o) :: l) k E D G H Q := by
  intro t hA
  refine ⟨hm t hA, (h.st hA).mono fun v H' hR => ?_⟩
  subst hR
  intro _
  refine hL _ ?_
  have := agree_pu hA (D := D) (o := o.dst) (fun d' hd' => by rw [ho] at hd'; cases hd') v
  rwa [ho] at this ⊢
theorem vdsplit {d : Nat} {b : Bool} (hb : look E d = some (.bool b)) (ht : b = true → VD P f ro N ops l k ((d, .bool true) :: E) D G H Q) (hf : b = false → VD P f ro N ops l k ((d, .bool false) :: E) D G H Q) :
    VD P f ro N ops l k E D G H Q := by
  intro t hA
  have key : ∀ b', b = b' → VD P f ro N ops l k ((d, .bool b') :: E) D G H Q → Canon P D ops (Good P f ro D Q (.inRegion ops [] :: k)) l t G H := by
    intro b' hbb h
    refine h t (hA.weak fun i v hi => ?_)
    rw [look_cons] at hi
    by_cases e : i = d
    · subst e; rw [if_pos rfl] at hi; rw [hb, hbb]; exact hi
    · rw [if_neg e] at hi; exact hi
  cases b
  · exact key false rfl (hf rfl)
  · exact key true rfl (ht rfl)
theorem vdsplitd {d : Nat} {p : Prop} {_ : Decidable p} (hb : look E d = some (.bool (decide p))) (ht : p → VD P f ro N ops l k ((d, .bool true) :: E) D G H Q) (hf : ¬ p → VD P f ro N ops l k ((d, .bool false) :: E) D G H Q) :
    VD P f ro N ops l k E D G H Q := vdsplit hb (fun h => ht (of_decide_eq_true h)) (fun h => hf (of_decide_eq_false h))
theorem vdknow {d : Nat} {b b' : Bool} (hb : look E d = some (.bool b)) (hbb : b = b') (h : VD P f ro N ops l k ((d, .bool b') :: E) D G H Q) : VD P f ro N ops l k E D G H Q := by
  subst hbb
  cases b
  · exact vdsplit hb (fun h => by cases h) (fun _ => h)
  · exact vdsplit hb (fun _ => h) (fun h => by cases h)
end
end Go.Proofs.YtoebpndlbldfcaaGreatDoor
namespace Go.Proofs.YtoebpndlbldfcaaGreatDoor
structure Bd where
  lo : Int
  hi : Int
  deriving DecidableEq
structure Pt where
  x : Int
  y : Int
  deriving DecidableEq
structure Rg where
  x : Bd
  y : Bd
  s : Bd
  d : Bd
  deriving DecidableEq
def Bd.fits (b : Bd) (l : Int) : Prop := -l ≤ b.lo ∧ b.lo ≤ b.hi ∧ b.hi ≤ l
instance (b : Bd) (l : Int) : Decidable (b.fits l) := by unfold Bd.fits; exact inferInstance
def Rg.ok (r : Rg) : Prop := r.x.fits 32768 ∧ r.y.fits 32768 ∧ r.s.fits 65536 ∧ r.d.fits 65536
instance (r : Rg) : Decidable r.ok := by unfold Rg.ok; exact inferInstance
def Pt.ok (p : Pt) : Prop := (-32768 ≤ p.x ∧ p.x ≤ 32768) ∧ (-32768 ≤ p.y ∧ p.y ≤ 32768)
instance (p : Pt) : Decidable p.ok := by unfold Pt.ok; exact inferInstance
def chkR (r : Rg) : Int := if r.ok then 0 else 11
def chkP (p : Pt) : Int := if p.ok then 0 else 10
end Go.Proofs.YtoebpndlbldfcaaGreatDoor
namespace Go.Proofs.YtoebpndlbldfcaaGreatDoor
open Go
class HOb (H : Heap) (b : Nat) (o : outParam Obj) (F : outParam (Obj → Heap)) : Prop where
  split : ∃ pre post, H = pre ++ (b, o) :: post ∧ ∀ c, F c = pre ++ (b, c) :: post
instance HOb.head {H : Heap} {b : Nat} {o : Obj} : HOb ((b, o) :: H) b o (fun c => (b, c) :: H) := ⟨[], H, rfl, fun _ => rfl⟩
instance (priority := low) HOb.tail {x : Nat × Obj} {H : Heap} {b : Nat} {o : Obj} {F : Obj → Heap} [h : HOb H b o F] : HOb (x :: H) b o (fun c => x :: F c) := by
  obtain ⟨pre, post, h1, h2⟩ := h.split
  exact ⟨x :: pre, post, by rw [h1]; rfl, fun c => by rw [h2]; rfl⟩
theorem HOb.get {H : Heap} {b : Nat} {o : Obj} {F : Obj → Heap} (h : HOb H b o F) {w : World} (hE : Emb H w) : w.heap[b]? = some o := by
  obtain ⟨pre, post, h1, _⟩ := h.split
  exact hE.at_ (b, o) (by rw [h1]; simp)
theorem HOb.set {H : Heap} {b : Nat} {o : Obj} {F : Obj → Heap} (h : HOb H b o F) {w : World} (hE : Emb H w) (c : Obj) : Fr H w (F c) { w with heap := w.heap.setIfInBounds b c } := by
  have hlt : b < w.heap.size := (Array.getElem?_eq_some_iff.1 (h.get hE)).1
  obtain ⟨pre, post, rfl, hF⟩ := h.split
  rw [hF]
  have hnd := hE.nodup
  have hk : (pre ++ (b, c) :: post).map Prod.fst = (pre ++ (b, o) :: post).map Prod.fst := by simp
  have hb : ∀ e, (e ∈ pre ∨ e ∈ post) → e.1 ≠ b := by
    intro e he heb
    simp only [List.map_append, List.map_cons, List.nodup_append, List.nodup_cons] at hnd
    obtain ⟨_, ⟨hp, _⟩, hd⟩ := hnd
    rcases he with he | he
    · exact hd e.1 (List.mem_map.2 ⟨e, he, rfl⟩) b (by simp) heb
    · exact hp (List.mem_map.2 ⟨e, he, heb⟩)
  have hoth : ∀ j, j ≠ b → (w.heap.setIfInBounds b c)[j]? = w.heap[j]? := fun j hj => by rw [Array.getElem?_setIfInBounds_ne (Ne.symm hj)]
  refine ⟨rfl, rfl, rfl, by simp, fun j hj hn => hoth j (fun e => hn (by subst e; simp)), ⟨by rw [hk]; exact hnd, fun e he => ?_⟩, fun e he => .inl (by rw [← hk]; exact List.mem_map.2 ⟨e, he, rfl⟩)⟩
  show (w.heap.setIfInBounds b c)[e.1]? = some e.2
  rcases List.mem_append.1 he with he' | he'
  · rw [hoth _ (hb e (.inl he'))]; exact hE.at_ e (by simp [he'])
  · rcases List.mem_cons.1 he' with rfl | he'
    · simp [hlt]
    · rw [hoth _ (hb e (.inr he'))]; exact hE.at_ e (by simp [he'])
def bsy (rec : Loop) : Loop := { rec with state := .busy }
section
variable {P : Program} {f : FuncId} {ro : Option Nat} {N : Nat} {k : List Item} {E : Env} {D : List Deferred} {H : Heap} {Q : Out → Heap → Prop} {ops : Array Oper} {l : List Oper}
def vnext (y : Value) (args : Array Value) : Sem Next := do let d ← Deferred.ofValue y args; invoke d.target d.args
def VY (P : Program) (y : Value) (args : List Value) (H : Heap) (R : Bool → Heap → Prop) : Prop :=
  ∀ w, Emb H w → ∃ n, (vnext y args.toArray).run P w = .ok n w ∧ NGo P n w (fun v w2 => ∃ H' b, Fr H w H' w2 ∧ v = .bool b ∧ R b H')
theorem VY.frame {y : Value} {args : List Value} {A B : Heap} {R : Bool → Heap → Prop} (h : VY P y args A R) : VY P y args (A ++ B) (fun b H' => ∃ A', H' = A' ++ B ∧ R b A') :=
  fun w hE => let ⟨n, h1, h2⟩ := h w (hE.sub (List.sublist_append_left A B)); ⟨n, h1, h2.mono fun v w2 ⟨H', b, hF, hv, hR⟩ => ⟨H' ++ B, b, hF.frame hE, hv, H', rfl, hR⟩⟩
theorem VY.perm {y : Value} {args : List Value} {H H' : Heap} {R : Bool → Heap → Prop} (hp : H.Perm H') (h : VY P y args H R) : VY P y args H' R :=
  fun w hE => let ⟨n, h1, h2⟩ := h w (hE.perm hp.symm); ⟨n, h1, h2.mono fun v w2 ⟨H2, b, hF, hv, hR⟩ => ⟨H2, b, hF.perm hp (.refl _), hv, hR⟩⟩
theorem VY.mono {y : Value} {args : List Value} {R R' : Bool → Heap → Prop} (h : VY P y args H R) (hr : ∀ b H', R b H' → R' b H') : VY P y args H R' :=
  fun w hE => let ⟨n, h1, h2⟩ := h w hE; ⟨n, h1, h2.mono fun v w2 ⟨H', b, hF, hv, hR⟩ => ⟨H', b, hF, hv, hr _ _ hR⟩⟩
theorem VY.behind {y : Value} {args : List Value} {A B : Heap} {R : Bool → Heap → Prop} (h : VY P y args B R) : VY P y args (A ++ B) (fun b H' => ∃ B', H' = A ++ B' ∧ R b B') := by
  have h1 := (h.frame (B := A)).perm (List.perm_append_comm (l₁ := B) (l₂ := A))
  intro w hE
  obtain ⟨n, g1, g2⟩ := h1 w hE
  refine ⟨n, g1, g2.mono fun v w2 ⟨H2, b, hF, hv, A', hA, hR⟩ => ?_⟩
  subst hA
  exact ⟨A ++ A', b, hF.perm (.refl _) List.perm_append_comm, hv, A', rfl, hR⟩
theorem vcy {d : Nat} {cl : Operand} {al : List Operand} {ats : Array TypeId} {ty : TypeId} {pos : String} {af : Array Edge} {g : Option (Nat × Bool)} {y : Value} {vs : List Value} {R : Bool → Heap → Prop}
    (hx : ev E cl = some y) (ha : evL E al = some vs) (hy : VY P y vs H R) : OG P N E D H ⟨some d, .call ⟨.value cl, al.toArray, ats⟩, ty, pos, af, g⟩ (fun v H' => ∃ b, v = .bool b ∧ R b H') := by
  refine ⟨by simp, fun t w hA hE => ?_⟩
  obtain ⟨n, h1, h2⟩ := hy w hE
  refine ⟨n, w, ?_, h2.mono fun v w2 ⟨H', b, hF, hv, hR⟩ => ⟨H', hF, b, hv, hR⟩⟩
  have h3 := evL_map (D := D) hA al vs ha
  simp only [execOp, resolve, ev_eval hA hx, List.map_toArray, h3]
  simpa [vnext] using h1
def VIt {α : Type} (P : Program) (kf : FuncId) (caps : List Value) (enc : α → List Value) (xs : List α) (Hi : Heap) : Prop :=
  ∀ (yf : Fn) (ya yc : Array Value) (J : List α → Heap → Prop) (Jx : Heap → Prop) (Hc : Heap), J [] Hc →
    (∀ pre x post, xs = pre ++ x :: post → ∀ H1, J pre H1 → VY P (.func yf ya yc) (enc x) H1 (fun b H2 => if b = true then J (pre ++ [x]) H2 else Jx H2)) →
    VCall P kf (Value.func yf ya yc :: caps).toArray (Hi ++ Hc) (fun o H' => o = .val (.tuple #[]) ∧ ∃ Hc', H' = Hi ++ Hc' ∧ (J xs Hc' ∨ Jx Hc'))
def RQ (lp : Nat) (rec : Loop) (I' : Heap → Prop) (Ix : Code → Heap → Prop) : Out → Heap → Prop
  | .jump Option.none, H2 => ∃ H', H2 = (lp, .loop (bsy rec)) :: H' ∧ I' H'
  | .jump (some c), H2 => ∃ H', H2 = (lp, .loop (bsy rec)) :: H' ∧ Ix c H'
  | _, _ => False
theorem vbegin {lp : Nat} {rec : Loop} {F : Obj → Heap} [hH : HOb H lp (.loop rec) F] (hs : rec.state = .ready) (h : VRun P f (some lp) N k E D (F (.loop (bsy rec))) Q) : VRun P f (some lp) N (.beginRound :: k) E D H Q := by
  refine .stp fun t w cs hA hE => ?_
  have hget := hH.get hE
  have hlt : lp < w.heap.size := (Array.getElem?_eq_some_iff.1 hget).1
  have hrun : (Instr.beginRound lp).run P w = .ok () { w with heap := w.heap.setIfInBounds lp (.loop (bsy rec)) } := by
    simp [Instr.beginRound, Instr.getLoop, getObj, setObj, Sem.run, hget, hs, bsy, Result.andThen]
  exact ⟨t, _, k, E, D, _, .one (stepR_beginRound (b := bas f (some lp)) (a := ⟨t, D⟩) rfl hrun), hA, hH.set hE _, h⟩
theorem vround_end {lp : Nat} {H' : Heap} (hs : H'.Sublist H) (hq : Q (.jump Option.none) H') : VRun P f (some lp) N [] E [] H Q := fun t w cs hA hE =>
  ⟨.jump Option.none, w, _, H', hq, (Fr.refl hE).sub hs, .refl _ _, lp, ⟨t, []⟩, rfl, rfl, rfl⟩
theorem vround_ret {lp : Nat} {H' : Heap} (hs : H'.Sublist H) (hq : Q (.jump (some .ret)) H') : VRun P f (some lp) N (.code .ret :: k) E [] H Q := fun t w cs hA hE =>
  ⟨.jump (some .ret), w, _, H', hq, (Fr.refl hE).sub hs, .refl _ _, lp, ⟨t, []⟩, k, rfl, rfl, rfl⟩
theorem vround_exit {lp id : Nat} {H' : Heap} (hk : exitTo id k = Option.none) (hs : H'.Sublist H) (hq : Q (.jump (some (.exit id))) H') : VRun P f (some lp) N (.code (.exit id) :: k) E [] H Q := fun t w cs hA hE =>
  ⟨.jump (some (.exit id)), w, _, H', hq, (Fr.refl hE).sub hs, .refl _ _, lp, ⟨t, []⟩, k, rfl, rfl, rfl, hk⟩
def parE : List Nat → List Value → Env → Env
  | p :: ps, v :: vs, E => parE ps vs ((p, v) :: E)
  | _, _, E => E
theorem parE_agree : ∀ (ps : List Nat) (vs : List Value) (E : Env) (t : Array Value), Agree N E t → ps.length = vs.length → (ps.all fun p => Nat.blt p N) = true →
    Agree N (parE ps vs E) ((ps.zip vs).foldl (fun t p => t.setIfInBounds p.1 p.2) t)
  | [], [], E, t, h, _, _ => h
  | p :: ps, v :: vs, E, t, h, hl, hp => by
    simp only [List.all_cons, Bool.and_eq_true] at hp
    simp only [List.zip_cons_cons, List.foldl_cons, parE]
    exact parE_agree ps vs _ _ (h.put (Nat.le_of_ble_eq_true hp.1) v) (by simpa using hl) hp.2
  | [], _ :: _, _, _, _, hl, _ => by simp at hl
  | _ :: _, [], _, _, _, hl, _ => by simp at hl
theorem round_VY {lp : Nat} {rec : Loop} {ps : List Nat} {vs : List Value} {t : Array Value} {as bd : Code} {H1 : Heap} {I' : Heap → Prop} {Ix : Code → Heap → Prop}
    (hrec : rec.fn = f ∧ rec.tmps = t ∧ rec.params = ps.toArray ∧ rec.assign = as ∧ rec.body = bd ∧ rec.state = .ready ∧ rec.pending = Option.none) (hA : Agree N E t) (hl : ps.length = vs.length) (hp : (ps.all fun p => Nat.blt p N) = true)
    (body : VRun P f (some lp) N [.code as, .beginRound, .code bd] (parE ps vs E) [] ((lp, .loop rec) :: H1) (RQ lp rec I' Ix)) :
    VY P (.func (.yield lp) #[] #[]) vs ((lp, .loop rec) :: H1) (fun b H2 => if b = true then ∃ H', H2 = (lp, .loop rec) :: H' ∧ I' H' else ∃ c H', H2 = (lp, .loop { rec with state := .done, pending := some c }) :: H' ∧ Ix c H') := by
  intro w hE
  obtain ⟨h1, h2, h3, h4, h5, h6, h7⟩ := hrec
  have hget : w.heap[lp]? = some (.loop rec) := hE.at_ (lp, .loop rec) (by simp)
  refine ⟨.round lp rec.fn ((ps.zip vs).foldl (fun t p => t.setIfInBounds p.1 p.2) t) rec.assign rec.body, ?_, ?_⟩
  · simp [vnext, Deferred.ofValue, invoke, Instr.yield, Instr.getLoop, getObj, Sem.run, hget, Result.andThen, h2, h3, hl]
  · intro c cs
    rw [show rec.fn = f from h1, show rec.assign = as from h4, show rec.body = bd from h5]
    have hfr : Frame.round lp f ((ps.zip vs).foldl (fun t p => t.setIfInBounds p.1 p.2) t) as bd .normal = (bas f (some lp)).atR ⟨(ps.zip vs).foldl (fun t p => t.setIfInBounds p.1 p.2) t, []⟩ [.code as, .beginRound, .code bd] := by
      simp [Frame.round, Frame.atR, bas]
    rw [hfr]
    obtain ⟨o, w', m', H', hq, hF, hs, hfin⟩ := body _ w (c :: cs) (parE_agree ps vs E t hA hl hp) hE
    have fin2 : ∀ (H2 : Heap) (j : Option Code), H' = (lp, .loop (bsy rec)) :: H2 → ∃ b w2, (Instr.endRound lp j).run P w' = .ok (.bool b) w2 ∧ b = j.isNone ∧ Fr H' w' ((lp, .loop { rec with state := if j.isNone then .ready else .done, pending := j }) :: H2) w2 := by
      intro H2 j hH
      subst hH
      have hg : w'.heap[lp]? = some (.loop (bsy rec)) := hF.emb.at_ (lp, .loop (bsy rec)) (by simp)
      have hset := (HOb.head (H := H2) (b := lp) (o := .loop (bsy rec))).set hF.emb (.loop { rec with state := if j.isNone then .ready else .done, pending := j })
      exact ⟨j.isNone, _, by simp [Instr.endRound, Instr.getLoop, getObj, setObj, Sem.run, hg, Result.andThen, bsy], rfl, hset⟩
    cases o with
    | val v => exact hq.elim
    | pan ch => exact hq.elim
    | jump j =>
      cases j with
      | none =>
        obtain ⟨H2, hH, hI⟩ := hq
        obtain ⟨b, w2, hr, hb, hF2⟩ := fin2 H2 Option.none hH
        subst hb
        obtain ⟨l', a, hl', rfl, _⟩ := hfin
        cases hl'
        refine ⟨_, w2, ⟨_, true, hF.trans hF2, rfl, ?_⟩, hs.trans (.one (stepR_round_end (b := bas f (some lp)) rfl rfl hr))⟩
        simp only [if_true]
        exact ⟨H2, by simp [← h6, ← h7], hI⟩
      | some c' =>
        obtain ⟨H2, hH, hI⟩ := hq
        obtain ⟨b, w2, hr, hb, hF2⟩ := fin2 H2 (some c') hH
        subst hb
        have : Steps P m' (lone (c.finish (.bool (some c').isNone)) cs w2) := by
          cases c' with
          | ret =>
            obtain ⟨l', a, k1, hl', rfl, _⟩ := hfin
            cases hl'
            exact .one (stepR_round_ret (b := bas f (some lp)) rfl rfl hr)
          | exit id =>
            obtain ⟨l', a, k1, hl', rfl, _, hk⟩ := hfin
            cases hl'
            exact .one (stepR_round_exit (b := bas f (some lp)) rfl rfl hk hr)
          | _ => exact hfin.elim
        refine ⟨_, w2, ⟨_, false, hF.trans hF2, rfl, ?_⟩, hs.trans this⟩
        rw [if_neg (by simp)]
        exact ⟨c', H2, by simp [← h1, ← h4, ← h5], hI⟩
def mark (r : Nat) : Deferred := { target := .collected r, args := #[] }
theorem range_steps {kf : FuncId} {caps : List Value} {gop : Operand} {ps : List Nat} {as bd : Code} {t : Array Value} {w w1 : World} {cs : List Frame} {lp : Nat} {mk : List Deferred} [hf : TFn P kf] (hA : Agree N E t) (hg : ev E gop = some (.func (.func kf) #[] caps.toArray))
    (he : (Instr.enterLoop f t ps.toArray as bd ro).run P w = .ok (lp, mk) w1) :
    step P (lone ((bas f ro).atR ⟨t, D⟩ (.code (.rangeFunc gop ps.toArray as bd) :: k)) cs w) =
      .next (lone (Frame.enter P kf (Value.func (.yield lp) #[] #[] :: caps).toArray .normal) ((bas f ro).atR ⟨t, mk ++ D⟩ (.inRangeFunc lp :: k) :: cs) w1) := by
  refine stepR_rangeFunc (P := P) (b := bas f ro) (a := ⟨t, D⟩) (w₁' := w1) (d := { target := .fn (.func kf) caps.toArray, args := #[.func (.yield lp) #[] #[]] }) he ?_ ?_
  · have h1 := ev_eval (D := D) hA hg
    simp only [resolve, rangeCall, List.map_toArray, List.map_cons, List.map_nil, h1]
    simp [Act.eval, Deferred.ofValue]
  · have := run_callFunc (P := P) (g := kf) (#[Value.func (.yield lp) #[] #[]] ++ caps.toArray) w1
    simpa [invoke] using this
theorem vrange {α : Type} {enc : α → List Value} {xs : List α} {kf : FuncId} {caps : List Value} {Hi Hc : Heap} {gop : Operand} {ps : List Nat} {as bd : Code} [TFn P kf] (I : List α → Heap → Prop) (Ix : Code → Heap → Prop)
    (hg : ev E gop = some (.func (.func kf) #[] caps.toArray)) (hit : VIt P kf caps enc xs Hi) (hp : H.Perm (Hi ++ Hc)) (h0 : I [] Hc) (hsz : ∀ x, ps.length = (enc x).length) (hps : (ps.all fun p => Nat.blt p N) = true)
    (body : ∀ lp rec pre x post H1, rec.state = .ready → xs = pre ++ x :: post → I pre H1 → VRun P f (some lp) N [.code as, .beginRound, .code bd] (parE ps (enc x) E) [] ((lp, .loop rec) :: H1) (RQ lp rec (I (pre ++ [x])) Ix))
    (done : ∀ r H1, I xs H1 → VRun P f Option.none N k E (mark r :: D) ((r, .deferred (some [])) :: (Hi ++ H1)) Q)
    (stop : ∀ r c H1, Ix c H1 → VRun P f Option.none N (.code c :: k) E (mark r :: D) ((r, .deferred (some [])) :: (Hi ++ H1)) Q) :
    VRun P f Option.none N (.code (.rangeFunc gop ps.toArray as bd) :: k) E D H Q := by
  intro t w cs hA hE
  let rc : Loop := { state := .ready, pending := Option.none, fn := f, tmps := t, params := ps.toArray, assign := as, body := bd, defers := w.heap.size }
  let w1 : World := { w with heap := w.heap.push (.deferred (some [])) }
  let w2 : World := { w1 with heap := w1.heap.push (.loop rc) }
  have hF1 : Fr H w ((w.heap.size, .deferred (some [])) :: H) w1 := Fr.new hE _
  have hF2 : Fr ((w.heap.size, .deferred (some [])) :: H) w1 ((w.heap.size + 1, .loop rc) :: (w.heap.size, .deferred (some [])) :: H) w2 := by
    have h := Fr.new hF1.emb (.loop rc)
    rw [show w1.heap.size = w.heap.size + 1 from Array.size_push _] at h
    exact h
  have henter : (Instr.enterLoop f t ps.toArray as bd Option.none).run P w = .ok (w.heap.size + 1, [mark w.heap.size]) w2 := by
    simp only [w2, w1, rc, mark]
    rw [show w.heap.size + 1 = (w.heap.push (Obj.deferred (some []))).size from (Array.size_push _).symm]
    rfl
  have hst := range_steps (P := P) (D := D) (k := k) (cs := cs) (ro := Option.none) hA hg henter
  have hcall := hit (.yield (w.heap.size + 1)) #[] #[] (fun pre Hx => ∃ H1, Hx = (w.heap.size + 1, .loop rc) :: H1 ∧ I pre H1)
    (fun Hx => ∃ c H1, Hx = (w.heap.size + 1, .loop { rc with state := .done, pending := some c }) :: H1 ∧ Ix c H1) ((w.heap.size + 1, .loop rc) :: Hc) ⟨Hc, rfl, h0⟩
    (by
      rintro pre x post hx Hx ⟨H1, rfl, hI⟩
      exact round_VY (f := f) (t := t) (rec := rc) ⟨rfl, rfl, rfl, rfl, rfl, rfl, rfl⟩ hA (hsz x) hps (body _ rc pre x post H1 rfl hx hI))
  have hperm : ((w.heap.size + 1, Obj.loop rc) :: (w.heap.size, Obj.deferred (some [])) :: H).Perm ((Hi ++ (w.heap.size + 1, .loop rc) :: Hc) ++ [(w.heap.size, .deferred (some []))]) := by
    refine List.Perm.trans ?_ List.perm_append_comm
    refine List.Perm.trans (List.Perm.swap _ _ _) ?_
    refine List.Perm.cons _ ?_
    refine List.Perm.trans (List.Perm.cons _ hp) ?_
    exact List.perm_middle.symm
  obtain ⟨o, w3, m3, H3, hR, hF3, hs3, hfin⟩ := (hcall.frame (B := [(w.heap.size, .deferred (some []))])).perm hperm w2 ((bas f Option.none).atR ⟨t, [mark w.heap.size] ++ D⟩ (.inRangeFunc (w.heap.size + 1) :: k) :: cs) (hF1.trans hF2).emb
  obtain ⟨A', rfl, rfl, Hc', rfl, hJ⟩ := hR
  obtain ⟨_, fr', rfl, _, hleave⟩ := hfin
  have hback : Steps P (lone ((bas f Option.none).atR ⟨t, D⟩ (.code (.rangeFunc gop ps.toArray as bd) :: k)) cs w) (lone ((bas f Option.none).atR ⟨t, [mark w.heap.size] ++ D⟩ (.endRangeFunc (w.heap.size + 1) :: k)) cs w3) := by
    refine .head hst (hs3.trans (.one ?_))
    rw [← finish_atR_inRangeFunc (b := bas f Option.none) (a := ⟨t, [mark w.heap.size] ++ D⟩) (k := k) (w.heap.size + 1) (.tuple #[])]
    exact step_leave_returned hleave
  have hFall := (hF1.trans hF2).trans hF3
  have fin : ∀ (rc' : Loop) (H1 : Heap), Hc' = (w.heap.size + 1, .loop rc') :: H1 → rc'.state ≠ .busy → ∃ w4, (Instr.endLoop (w.heap.size + 1)).run P w3 = .ok rc'.pending w4 ∧ Fr H w ((w.heap.size, .deferred (some [])) :: (Hi ++ H1)) w4 := by
    intro rc' H1 hH hb
    subst hH
    have hg : w3.heap[w.heap.size + 1]? = some (.loop rc') := hF3.emb.at_ (w.heap.size + 1, .loop rc') (by simp)
    have hpm : ((Hi ++ (w.heap.size + 1, Obj.loop rc') :: H1) ++ [(w.heap.size, Obj.deferred (some []))]).Perm ((w.heap.size + 1, .loop rc') :: ((w.heap.size, .deferred (some [])) :: (Hi ++ H1))) := by
      refine List.Perm.trans List.perm_append_comm ?_
      refine List.Perm.trans (List.Perm.cons _ List.perm_middle) ?_
      exact List.Perm.swap _ _ _
    have hE3 := hF3.emb.perm hpm
    have hset := (HOb.head (H := (w.heap.size, .deferred (some [])) :: (Hi ++ H1)) (b := w.heap.size + 1) (o := .loop rc')).set hE3 (.loop { rc' with state := .exhausted })
    refine ⟨_, ?_, (hFall.perm (.refl _) hpm).trans (hset.sub (List.sublist_cons_self _ _))⟩
    simp [Instr.endLoop, Instr.getLoop, getObj, setObj, Sem.run, hg, Result.andThen, hb]
  rcases hJ with ⟨H1, hH, hI⟩ | ⟨c, H1, hH, hI⟩
  · obtain ⟨w4, hr, hF4⟩ := fin rc H1 hH (by simp [rc])
    obtain ⟨o, w5, m5, H5, hq, hF5, hs5, hfin5⟩ := done w.heap.size H1 hI t w4 cs hA hF4.emb
    refine ⟨o, w5, m5, H5, hq, hF4.trans hF5, hback.trans (.head (stepR_endRangeFunc (b := bas f Option.none) hr) ?_), hfin5⟩
    simpa [rc] using hs5
  · obtain ⟨w4, hr, hF4⟩ := fin _ H1 hH (by simp)
    obtain ⟨o, w5, m5, H5, hq, hF5, hs5, hfin5⟩ := stop w.heap.size c H1 hI t w4 cs hA hF4.emb
    refine ⟨o, w5, m5, H5, hq, hF4.trans hF5, hback.trans (.head (stepR_endRangeFunc (b := bas f Option.none) hr) ?_), hfin5⟩
    simpa using hs5
theorem vrangeN {α : Type} {enc : α → List Value} {xs : List α} {kf : FuncId} {caps : List Value} {Hi Hc : Heap} {gop : Operand} {ps : List Nat} {as bd : Code} {l0 : Nat} {r0 : Loop} {F0 : Obj → Heap} [TFn P kf] [h00 : HOb H l0 (.loop r0) F0] (I : List α → Heap → Prop) (Ix : Code → Heap → Prop)
    (hg : ev E gop = some (.func (.func kf) #[] caps.toArray)) (hit : VIt P kf caps enc xs Hi) (hp : H.Perm (Hi ++ Hc)) (h0 : I [] Hc) (hsz : ∀ x, ps.length = (enc x).length) (hps : (ps.all fun p => Nat.blt p N) = true)
    (body : ∀ lp rec pre x post H1, rec.state = .ready → xs = pre ++ x :: post → I pre H1 → VRun P f (some lp) N [.code as, .beginRound, .code bd] (parE ps (enc x) E) [] ((lp, .loop rec) :: H1) (RQ lp rec (I (pre ++ [x])) Ix))
    (done : ∀ H1, I xs H1 → VRun P f (some l0) N k E D (Hi ++ H1) Q)
    (stop : ∀ c H1, Ix c H1 → VRun P f (some l0) N (.code c :: k) E D (Hi ++ H1) Q) :
    VRun P f (some l0) N (.code (.rangeFunc gop ps.toArray as bd) :: k) E D H Q := by
  intro t w cs hA hE
  have hg0 := h00.get hE
  let rc : Loop := { state := .ready, pending := Option.none, fn := f, tmps := t, params := ps.toArray, assign := as, body := bd, defers := r0.defers }
  let w2 : World := { w with heap := w.heap.push (.loop rc) }
  have hF2 : Fr H w ((w.heap.size, .loop rc) :: H) w2 := Fr.new hE _
  have henter : (Instr.enterLoop f t ps.toArray as bd (some l0)).run P w = .ok (w.heap.size, []) w2 := by
    simp [Instr.enterLoop, Instr.getLoop, getObj, newObj, Sem.run, Result.andThen, hg0, w2, rc]
  have hst := range_steps (P := P) (D := D) (k := k) (cs := cs) (ro := some l0) hA hg henter
  have hcall := hit (.yield w.heap.size) #[] #[] (fun pre Hx => ∃ H1, Hx = (w.heap.size, .loop rc) :: H1 ∧ I pre H1)
    (fun Hx => ∃ c H1, Hx = (w.heap.size, .loop { rc with state := .done, pending := some c }) :: H1 ∧ Ix c H1) ((w.heap.size, .loop rc) :: Hc) ⟨Hc, rfl, h0⟩
    (by
      rintro pre x post hx Hx ⟨H1, rfl, hI⟩
      exact round_VY (f := f) (t := t) (rec := rc) ⟨rfl, rfl, rfl, rfl, rfl, rfl, rfl⟩ hA (hsz x) hps (body _ rc pre x post H1 rfl hx hI))
  have hperm : ((w.heap.size, Obj.loop rc) :: H).Perm (Hi ++ (w.heap.size, .loop rc) :: Hc) :=
    List.Perm.trans (List.Perm.cons _ hp) List.perm_middle.symm
  obtain ⟨o, w3, m3, H3, hR, hF3, hs3, hfin⟩ := hcall.perm hperm w2 ((bas f (some l0)).atR ⟨t, [] ++ D⟩ (.inRangeFunc w.heap.size :: k) :: cs) hF2.emb
  obtain ⟨rfl, Hc', rfl, hJ⟩ := hR
  obtain ⟨_, fr', rfl, _, hleave⟩ := hfin
  have hback : Steps P (lone ((bas f (some l0)).atR ⟨t, D⟩ (.code (.rangeFunc gop ps.toArray as bd) :: k)) cs w) (lone ((bas f (some l0)).atR ⟨t, [] ++ D⟩ (.endRangeFunc w.heap.size :: k)) cs w3) := by
    refine .head hst (hs3.trans (.one ?_))
    rw [← finish_atR_inRangeFunc (b := bas f (some l0)) (a := ⟨t, [] ++ D⟩) (k := k) w.heap.size (.tuple #[])]
    exact step_leave_returned hleave
  have hFall := hF2.trans hF3
  have fin : ∀ (rc' : Loop) (H1 : Heap), Hc' = (w.heap.size, .loop rc') :: H1 → rc'.state ≠ .busy → ∃ w4, (Instr.endLoop w.heap.size).run P w3 = .ok rc'.pending w4 ∧ Fr H w (Hi ++ H1) w4 := by
    intro rc' H1 hH hb
    subst hH
    have hg : w3.heap[w.heap.size]? = some (.loop rc') := hF3.emb.at_ (w.heap.size, .loop rc') (by simp)
    have hpm : (Hi ++ (w.heap.size, Obj.loop rc') :: H1).Perm ((w.heap.size, .loop rc') :: (Hi ++ H1)) := List.perm_middle
    have hE3 := hF3.emb.perm hpm
    have hset := (HOb.head (H := Hi ++ H1) (b := w.heap.size) (o := .loop rc')).set hE3 (.loop { rc' with state := .exhausted })
    refine ⟨_, ?_, (hFall.perm (.refl _) hpm).trans (hset.sub (List.sublist_cons_self _ _))⟩
    simp [Instr.endLoop, Instr.getLoop, getObj, setObj, Sem.run, hg, Result.andThen, hb]
  rcases hJ with ⟨H1, hH, hI⟩ | ⟨c, H1, hH, hI⟩
  · obtain ⟨w4, hr, hF4⟩ := fin rc H1 hH (by simp [rc])
    obtain ⟨o, w5, m5, H5, hq, hF5, hs5, hfin5⟩ := done H1 hI t w4 cs hA hF4.emb
    refine ⟨o, w5, m5, H5, hq, hF4.trans hF5, hback.trans (.head (stepR_endRangeFunc (b := bas f (some l0)) hr) ?_), hfin5⟩
    simpa [rc] using hs5
  · obtain ⟨w4, hr, hF4⟩ := fin _ H1 hH (by simp)
    obtain ⟨o, w5, m5, H5, hq, hF5, hs5, hfin5⟩ := stop c H1 hI t w4 cs hA hF4.emb
    refine ⟨o, w5, m5, H5, hq, hF4.trans hF5, hback.trans (.head (stepR_endRangeFunc (b := bas f (some l0)) hr) ?_), hfin5⟩
    simpa using hs5
theorem vret_mark {r : Nat} {F : Obj → Heap} [hH : HOb H r (.deferred (some [])) F] (h : VRet P f N E D (F (.deferred Option.none)) Q) : VRet P f N E (mark r :: D) H Q := by
  intro t w cs k hA hE
  have hg := hH.get hE
  obtain ⟨o, w', m', H', hq, hF, hs, hfin⟩ := h t _ cs k hA (hH.set hE (.deferred Option.none)).emb
  refine ⟨o, w', m', H', hq, (hH.set hE _).trans hF, .head (step_lone_go ?_) hs, hfin⟩
  have hr : (Instr.takeDeferred r).run P w = .ok [] { w with heap := w.heap.setIfInBounds r (.deferred Option.none) } := by
    simp [Instr.takeDeferred, getObj, setObj, Sem.run, hg, Result.andThen]
  simp [stepG, unwind, mark, Frame.atR, Sem.runT_eq, hr, bas]
end
end Go.Proofs.YtoebpndlbldfcaaGreatDoor
namespace Go.Proofs.YtoebpndlbldfcaaGreatDoor
open Go
theorem sl0 {α : Type} (l : List α) : List.Sublist [] l := List.nil_sublist l
theorem slA {α : Type} {A B C : List α} (h : A.Sublist B) : A.Sublist (C ++ B) := h.trans (List.sublist_append_right _ _)
theorem slM {α : Type} {A B C : List α} (h : A.Sublist B) : (C ++ A).Sublist (C ++ B) := h.append_left C
theorem sb {α : Type} {A B : List α} (h : A.Sublist B := by repeat first | exact .refl _ | refine .cons_cons _ ?_ | refine .cons _ ?_ | exact sl0 _ | refine slA ?_) : A.Sublist B := h
theorem sb2 {α : Type} {A B : List α} (h : A.Sublist B := by repeat first | exact .refl _ | refine .cons_cons _ ?_ | refine .cons _ ?_ | exact sl0 _ | refine slM ?_ | refine slA ?_) : A.Sublist B := h
def allIn : Env → Env → Prop
  | [], _ => True
  | (i, v) :: r, E => look E i = some v ∧ allIn r E
theorem allIn.look : ∀ {E' E : Env}, allIn E' E → ∀ i v, look E' i = some v → look E i = some v
  | [], _, _, i, v, h => by simp [Go.Proofs.YtoebpndlbldfcaaGreatDoor.look] at h
  | (j, u) :: r, E, ⟨h1, h2⟩, i, v, h => by
    rw [look_cons] at h
    by_cases e : i = j
    · subst e; rw [if_pos rfl] at h; rw [h1]; exact h
    · rw [if_neg e] at h; exact h2.look i v h
section
variable {P : Program} {f : FuncId} {ro : Option Nat} {N : Nat} {k : List Item} {E : Env} {D : List Deferred} {H : Heap} {Q : Out → Heap → Prop}
theorem vweak {E' : Env} (hs : allIn E' E) (h : VRun P f ro N k E' D H Q) : VRun P f ro N k E D H Q := h.weak hs.look
theorem vwhile {c : Code} {σ : Type} (μ : σ → Nat) (Es : σ → Env) (Hs : σ → Heap) (A : σ → Prop) (s0 : σ) (h0 : A s0) (hE : allIn (Es s0) E) (hH : (Hs s0).Sublist H)
    (body : ∀ s, A s → (∀ s', A s' → μ s' < μ s → VRun P f ro N (.inLoop c :: k) (Es s') D (Hs s') Q) → VRun P f ro N (.code c :: .inLoop c :: k) (Es s) D (Hs s) Q) :
    VRun P f ro N (.code (.loop c) :: k) E D H Q := by
  have key : ∀ n s, μ s < n → A s → VRun P f ro N (.inLoop c :: k) (Es s) D (Hs s) Q := by
    intro n
    induction n with
    | zero => intro s h; omega
    | succ n ih => exact fun s hn hA => vinloop1 (body s hA fun s' hA' hm => ih s' (by omega) hA')
  exact vloop1 (vweak hE ((body s0 h0 fun s' hA' hm => key _ s' hm hA').sub hH))
theorem vback {Ei : Env} {Hi : Heap} (h : VRun P f ro N k Ei D Hi Q) (hE : allIn Ei E) (hH : Hi.Sublist H) : VRun P f ro N k E D H Q := (vweak hE h).sub hH
variable {ops : Array Oper} {l : List Oper}
variable {d : Nat} {x y : Operand} {T ty : TypeId} {pos : String} {af : Array Edge} {g : Option (Nat × Bool)}
theorem VY.b1 {y : Value} {args : List Value} {x1 : Nat × Obj} {B : Heap} {R : Bool → Heap → Prop} (h : VY P y args B R) : VY P y args (x1 :: B) (fun b H' => ∃ B', H' = x1 :: B' ∧ R b B') := h.behind (A := [x1])
theorem VY.b2 {y : Value} {args : List Value} {x1 x2 : Nat × Obj} {B : Heap} {R : Bool → Heap → Prop} (h : VY P y args B R) : VY P y args (x1 :: x2 :: B) (fun b H' => ∃ B', H' = x1 :: x2 :: B' ∧ R b B') := h.behind (A := [x1, x2])
theorem VY.b3 {y : Value} {args : List Value} {x1 x2 x3 : Nat × Obj} {B : Heap} {R : Bool → Heap → Prop} (h : VY P y args B R) : VY P y args (x1 :: x2 :: x3 :: B) (fun b H' => ∃ B', H' = x1 :: x2 :: x3 :: B' ∧ R b B') := h.behind (A := [x1, x2, x3])
theorem VY.b4 {y : Value} {args : List Value} {x1 x2 x3 x4 : Nat × Obj} {B : Heap} {R : Bool → Heap → Prop} (h : VY P y args B R) : VY P y args (x1 :: x2 :: x3 :: x4 :: B) (fun b H' => ∃ B', H' = x1 :: x2 :: x3 :: x4 :: B' ∧ R b B') := h.behind (A := [x1, x2, x3, x4])
theorem VY.b5 {y : Value} {args : List Value} {x1 x2 x3 x4 x5 : Nat × Obj} {B : Heap} {R : Bool → Heap → Prop} (h : VY P y args B R) : VY P y args (x1 :: x2 :: x3 :: x4 :: x5 :: B) (fun b H' => ∃ B', H' = x1 :: x2 :: x3 :: x4 :: x5 :: B' ∧ R b B') := h.behind (A := [x1, x2, x3, x4, x5])
theorem VY.b6 {y : Value} {args : List Value} {x1 x2 x3 x4 x5 x6 : Nat × Obj} {B : Heap} {R : Bool → Heap → Prop} (h : VY P y args B R) : VY P y args (x1 :: x2 :: x3 :: x4 :: x5 :: x6 :: B) (fun b H' => ∃ B', H' = x1 :: x2 :: x3 :: x4 :: x5 :: x6 :: B' ∧ R b B') := h.behind (A := [x1, x2, x3, x4, x5, x6])
theorem VY.b7 {y : Value} {args : List Value} {x1 x2 x3 x4 x5 x6 x7 : Nat × Obj} {B : Heap} {R : Bool → Heap → Prop} (h : VY P y args B R) : VY P y args (x1 :: x2 :: x3 :: x4 :: x5 :: x6 :: x7 :: B) (fun b H' => ∃ B', H' = x1 :: x2 :: x3 :: x4 :: x5 :: x6 :: x7 :: B' ∧ R b B') := h.behind (A := [x1, x2, x3, x4, x5, x6, x7])
theorem VY.b8 {y : Value} {args : List Value} {x1 x2 x3 x4 x5 x6 x7 x8 : Nat × Obj} {B : Heap} {R : Bool → Heap → Prop} (h : VY P y args B R) : VY P y args (x1 :: x2 :: x3 :: x4 :: x5 :: x6 :: x7 :: x8 :: B) (fun b H' => ∃ B', H' = x1 :: x2 :: x3 :: x4 :: x5 :: x6 :: x7 :: x8 :: B' ∧ R b B') := h.behind (A := [x1, x2, x3, x4, x5, x6, x7, x8])
theorem VY.b9 {y : Value} {args : List Value} {x1 x2 x3 x4 x5 x6 x7 x8 x9 : Nat × Obj} {B : Heap} {R : Bool → Heap → Prop} (h : VY P y args B R) : VY P y args (x1 :: x2 :: x3 :: x4 :: x5 :: x6 :: x7 :: x8 :: x9 :: B) (fun b H' => ∃ B', H' = x1 :: x2 :: x3 :: x4 :: x5 :: x6 :: x7 :: x8 :: x9 :: B' ∧ R b B') := h.behind (A := [x1, x2, x3, x4, x5, x6, x7, x8, x9])
theorem VY.b10 {y : Value} {args : List Value} {x1 x2 x3 x4 x5 x6 x7 x8 x9 x10 : Nat × Obj} {B : Heap} {R : Bool → Heap → Prop} (h : VY P y args B R) : VY P y args (x1 :: x2 :: x3 :: x4 :: x5 :: x6 :: x7 :: x8 :: x9 :: x10 :: B) (fun b H' => ∃ B', H' = x1 :: x2 :: x3 :: x4 :: x5 :: x6 :: x7 :: x8 :: x9 :: x10 :: B' ∧ R b B') := h.behind (A := [x1, x2, x3, x4, x5, x6, x7, x8, x9, x10])
section
variable {lp : Nat} {rec : Loop} {I' : Heap → Prop} {Ix : Code → Heap → Prop} {H' : Heap}
theorem vroundI_end (hs : ((lp, Obj.loop (bsy rec)) :: H').Sublist H) (hq : I' H') : VRun P f (some lp) N [] E [] H (RQ lp rec I' Ix) := vround_end hs ⟨H', rfl, hq⟩
theorem vroundI_ret (hs : ((lp, Obj.loop (bsy rec)) :: H').Sublist H) (hq : Ix .ret H') : VRun P f (some lp) N (.code .ret :: k) E [] H (RQ lp rec I' Ix) := vround_ret hs ⟨H', rfl, hq⟩
theorem vroundI_exit {id : Nat} (hk : exitTo id k = Option.none) (hs : ((lp, Obj.loop (bsy rec)) :: H').Sublist H) (hq : Ix (.exit id) H') : VRun P f (some lp) N (.code (.exit id) :: k) E [] H (RQ lp rec I' Ix) := vround_exit hk hs ⟨H', rfl, hq⟩
end
theorem vscope {c : Code} {f : FuncId} {ro : Option Nat} {k : List Item} {Q : Out → Heap → Prop} (h : VRun P f ro N (.code c :: .inScope c :: k) E D H Q) : VRun P f ro N (.code (.scope c) :: k) E D H Q :=
  .go (fun _ _ _ _ => step_lone_go (by simp [stepG, stepG.exec, Frame.atR])) h
theorem vquop {a b : Int} {T' : TypeId} (hx : ev E x = some (.int .i64 a)) (hy : ev E y = some (.int .i64 b)) (ha : 0 ≤ a) (hb : 0 < b) (hr : InR a) :
    OQ P N E D H ⟨some d, .binOp .quo T x y T', ty, pos, af, g⟩ (.int .i64 (a / b)) := by
  have e : a.tdiv b = a / b := Int.tdiv_eq_ediv_of_nonneg ha
  have h1 : 0 ≤ a / b := Int.ediv_nonneg ha (by omega)
  have h2 : a / b ≤ a := Int.ediv_le_self _ ha
  rw [← e]
  exact vquo hx hy (by omega) (by rw [e]; unfold InR at *; omega)
theorem vremp {a b : Int} {T' : TypeId} (hx : ev E x = some (.int .i64 a)) (hy : ev E y = some (.int .i64 b)) (ha : 0 ≤ a) (hb : 0 < b) :
    OQ P N E D H ⟨some d, .binOp .rem T x y T', ty, pos, af, g⟩ (.int .i64 (a % b)) := by
  have e : a.tmod b = a % b := Int.tmod_eq_emod_of_nonneg ha
  rw [← e]
  exact vrem hx hy (by omega)
def appO3 (a b c : List Value) : Option (List Value) := match appO a b with | some m => appO m c | Option.none => Option.none
theorem appO3_eq {a b c l : List Value} (h : appO3 a b c = some l) : a ++ b ++ c = l := by
  unfold appO3 at h
  split at h
  · rename_i m hm
    rw [appO_eq _ _ _ hm]; exact appO_eq _ _ _ h
  · cases h
theorem vmff {fn : Fn} {fl cl : List Operand} {us vs : List Value} (hf : evL E fl = some us) (hc : evL E cl = some vs) :
    OQ P N E D H ⟨some d, .makeFunc fn fl.toArray cl.toArray, ty, pos, af, g⟩ (.func fn us.toArray vs.toArray) :=
  ov (by simp) (fun t w hA hE => by
    have h1 := evL_map (D := D) hA cl vs hc
    have h2 := evL_map (D := D) hA fl us hf
    simp [execOp, Instr.makeFunc, h1, h2])
theorem vcgf {gf : FuncId} {cl : Operand} {al : List Operand} {ats : Array TypeId} {fs caps vs as : List Value} {R : Value → Heap → Prop} {R0 : Out → Heap → Prop} [hf : TFn P gf] (hx : ev E cl = some (.func (.func gf) fs.toArray caps.toArray)) (ha : evL E al = some vs) (has : appO3 fs vs caps = some as)
    (hc : VCall P gf as.toArray H R0) (hv : ∀ o H', R0 o H' → ∃ v, o = .val v ∧ R v H') :
    OG P N E D H ⟨some d, .call ⟨.value cl, al.toArray, ats⟩, ty, pos, af, g⟩ R := by
  refine ⟨by simp, fun t w hA hE => ⟨.enter gf as.toArray, w, ?_, fun c cs => ?_⟩⟩
  · have h1 := evL_map (D := D) hA al vs ha
    simp [execOp, resolve, Deferred.ofValue, invoke, ev_eval hA hx, h1, run_callFunc, ← appO3_eq has]
  · obtain ⟨o, w', m', H', hR, hF, hs, hfin⟩ := hc w (c :: cs) hE
    obtain ⟨v, rfl, hv'⟩ := hv o H' hR
    obtain ⟨_, fr', rfl, _, hleave⟩ := hfin
    exact ⟨v, w', ⟨H', hF, hv'⟩, hs.trans (.one (step_leave_returned hleave))⟩
theorem vcpf {gf : FuncId} {cl : Operand} {al : List Operand} {ats : Array TypeId} {fs caps vs as : List Value} {v : Value} [hf : TFn P gf] (hx : ev E cl = some (.func (.func gf) fs.toArray caps.toArray)) (ha : evL E al = some vs) (has : appO3 fs vs caps = some as)
    (hc : VPure P gf as v) : OQ P N E D H ⟨some d, .call ⟨.value cl, al.toArray, ats⟩, ty, pos, af, g⟩ v :=
  vcgf hx ha has (hc H) (fun _ _ h => ⟨v, h.1, rfl, h.2⟩)
def VNew (P : Program) (gf : FuncId) (as : List Value) (ob : Obj) (V : Nat → Value) : Prop := ∀ H, VCall P gf as.toArray H (fun o H' => ∃ b, o = .val (V b) ∧ H' = (b, ob) :: H)
theorem vcnew {gf : FuncId} {cl : Operand} {al : List Operand} {ats : Array TypeId} {caps vs as : List Value} {ob : Obj} {V : Nat → Value} [hf : TFn P gf] (hx : ev E cl = some (.func (.func gf) #[] caps.toArray)) (ha : evL E al = some vs) (has : appO vs caps = some as)
    (hc : VNew P gf as ob V) : OG P N E D H ⟨some d, .call ⟨.value cl, al.toArray, ats⟩, ty, pos, af, g⟩ (fun u H' => ∃ b, u = V b ∧ H' = (b, ob) :: H) :=
  vcg hx ha has (hc H) (fun _ _ ⟨b, h1, h2⟩ => ⟨_, h1, b, rfl, h2⟩)
def VHas (P : Program) (gf : FuncId) (as : List Value) (v : Value) (H H' : Heap) : Prop := VCall P gf as.toArray H (fun o H2 => o = .val v ∧ H2 = H')
theorem vcq {gf : FuncId} {cl : Operand} {al : List Operand} {ats : Array TypeId} {caps vs as : List Value} {v : Value} [hf : TFn P gf] (hx : ev E cl = some (.func (.func gf) #[] caps.toArray)) (ha : evL E al = some vs) (has : appO vs caps = some as)
    (hc : VHas P gf as v H H) : OQ P N E D H ⟨some d, .call ⟨.value cl, al.toArray, ats⟩, ty, pos, af, g⟩ v :=
  vcg hx ha has hc (fun _ _ h => ⟨v, h.1, rfl, h.2⟩)
theorem vch {gf : FuncId} {cl : Operand} {al : List Operand} {ats : Array TypeId} {caps vs as : List Value} {v : Value} {H' : Heap} [hf : TFn P gf] (hx : ev E cl = some (.func (.func gf) #[] caps.toArray)) (ha : evL E al = some vs) (has : appO vs caps = some as)
    (hc : VHas P gf as v H H') : OG P N E D H ⟨some d, .call ⟨.value cl, al.toArray, ats⟩, ty, pos, af, g⟩ (fun u H2 => u = v ∧ H2 = H') :=
  vcg hx ha has hc (fun _ _ h => ⟨v, h.1, rfl, h.2⟩)
theorem VPure.has {gf : FuncId} {as : List Value} {v : Value} (h : VPure P gf as v) (H : Heap) : VHas P gf as v H H := h H
theorem VHas.frame {gf : FuncId} {as : List Value} {v : Value} {A A' B : Heap} (h : VHas P gf as v A A') : VHas P gf as v (A ++ B) (A' ++ B) :=
  (VCall.frame (B := B) h).mono fun o H2 ⟨A2, h1, h2, h3⟩ => ⟨h2, by rw [h1, h3]⟩
theorem mid (b : Nat) (o : Obj) (pre post : Heap) : List.Perm ([(b, o)] ++ (pre ++ post)) (pre ++ (b, o) :: post) := (List.perm_middle (a := (b, o)) (l₁ := pre) (l₂ := post)).symm
theorem VHas.at1 {gf : FuncId} {as : List Value} {v : Value} {b : Nat} {cs cs' : List Value} {T : TypeId} {F : List Value → Heap} [hu : HUp H b cs T F] (h : VHas P gf as v [(b, blk cs T)] [(b, blk cs' T)]) : VHas P gf as v H (F cs') := by
  obtain ⟨pre, post, rfl, hF⟩ := hu.split
  rw [hF]
  have h1 := h.frame (B := pre ++ post)
  intro w cs0 hE
  obtain ⟨o, w', m', H', ⟨h2, h3⟩, hFr, hs⟩ := h1 w cs0 (hE.perm List.perm_middle)
  subst h3
  exact ⟨o, w', m', _, ⟨h2, rfl⟩, hFr.perm (mid b (blk cs T) pre post) (mid b (blk cs' T) pre post), hs⟩
theorem VHas.cong {gf : FuncId} {as : List Value} {v v' : Value} {A A' : Heap} (h : VHas P gf as v A A') (e : v = v') : VHas P gf as v' A A' := e ▸ h
theorem VPure.cong {gf : FuncId} {as : List Value} {v v' : Value} (h : VPure P gf as v) (e : v = v') : VPure P gf as v' := e ▸ h
def rep : Nat → List Value → List Value
  | 0, _ => []
  | n + 1, zs => app zs (rep n zs)
theorem rep_len (zs : List Value) : ∀ n, (rep n zs).length = n * zs.length
  | 0 => by simp [rep]
  | n + 1 => by simp [rep, app_eq, rep_len zs n, Nat.succ_mul]; omega
theorem rep_get (zs : List Value) : ∀ n i, i < n * zs.length → (rep n zs)[i]? = zs[i % zs.length]?
  | 0, i, h => by simp at h
  | n + 1, i, h => by
    rw [rep, app_eq]
    by_cases hi : i < zs.length
    · rw [List.getElem?_append_left hi, Nat.mod_eq_of_lt hi]
    · rw [List.getElem?_append_right (by omega), rep_get zs n (i - zs.length) (by rw [Nat.succ_mul] at h; omega), ← Nat.mod_eq_sub_mod (by omega)]
theorem run_buildSlice {T e esz : Nat} {zs : List Value} [h1 : TSl P T e esz] [h2 : TZe P e zs] (h3 : zs.length = esz) (h4 : 0 < esz) (len : Nat) (parts : Array (Nat × Value)) (c : Array Value) (w : World) (hl : 0 < len) (hm : len * esz ≤ 2 ^ 24)
    (hc : Instr.fill (fun i => some (i * esz, esz)) (rep len zs).toArray parts.toList = some c) :
    (Instr.buildSlice T len parts).run P w = .ok (.slice (some ⟨w.heap.size, 0, Option.none⟩) len len) { w with heap := w.heap.push (.cells c e) } := by
  obtain ⟨z, hz, hr⟩ := h2.zero
  have hrow : (Array.range (len * esz)).map (fun i => z.cells[i % z.cells.size]!) = (rep len zs).toArray := by
    apply Array.ext'
    rw [hz]
    refine List.ext_getElem? fun i => ?_
    by_cases hi : i < len * esz
    · have hp := Nat.mod_lt i h4
      simp only [Array.toList_map, Array.toList_range, List.getElem?_map, List.getElem?_range hi, Option.map_some]
      rw [rep_get _ _ _ (by rw [h3]; exact hi)]
      simp only [List.size_toArray, h3]
      rw [getElem!_pos _ _ (by simp [h3, hp])]
      simp [h3, hp]
    · have h5 : (rep len zs)[i]? = Option.none := List.getElem?_eq_none (by rw [rep_len, h3]; omega)
      have h6 : ((Array.range (len * esz)).map (fun i => zs.toArray[i % zs.toArray.size]!)).toList[i]? = Option.none := List.getElem?_eq_none (by simp; omega)
      rw [h6, h5]
  have hne : ¬ (len * esz = 0) := by
    have := Nat.mul_pos hl h4; omega
  have hle : ¬ (len * esz > 2 ^ 24) := by omega
  simp only [Instr.buildSlice, Sem.run_bind, run_underlying h1.und, Result.andThen, h1.size, if_neg hle, if_neg hne, hr, Sem.run_pure, hrow, hc]
  simp [newRow, newObj, Sem.run]
theorem vbs {ps : List (Nat × Operand)} {qs : List (Nat × List Value)} {e esz n : Nat} {zs cs : List Value} [h1 : TSl P T e esz] [h2 : TZe P e zs] (hz : Nat.beq zs.length esz = true) (h0 : Nat.blt 0 esz = true) (hn : Nat.blt 0 n = true) (hm : Nat.ble (n * esz) 16777216 = true) (hp : evP E ps = some qs) (hc : fillL (fun i => some (i * esz, esz)) (rep n zs) qs = some cs) :
    OG P N E D H ⟨some d, .buildSlice T n ps.toArray, ty, pos, af, g⟩ (fun v H' => ∃ b, v = .slice (some ⟨b, 0, Option.none⟩) n n ∧ H' = (b, blk cs e) :: H) := by
  refine ⟨by simp, fun t w hA hE => ?_⟩
  have h1 := fill_eq (fun i => some (i * esz, esz)) (D := D) hA ps qs (rep n zs) cs hp hc
  have h2 := run_buildSlice (P := P) (T := T) (Nat.eq_of_beq_eq_true hz) (Nat.le_of_ble_eq_true h0) n (ps.toArray.map fun p => (p.1, Act.eval ⟨t, D⟩ p.2)) cs.toArray w (Nat.le_of_ble_eq_true hn) (Nat.le_of_ble_eq_true hm)
  have h3 : (ps.toArray.map fun p => (p.1, Act.eval ⟨t, D⟩ p.2)).toList = ps.map fun p => (p.1, Act.eval ⟨t, D⟩ p.2) := by simp
  rw [h3] at h2
  have h2 := h2 h1
  refine ⟨.value _, { w with heap := w.heap.push (.cells cs.toArray e) }, ?_, (w.heap.size, blk cs e) :: H, Fr.new hE _, w.heap.size, rfl, rfl⟩
  simp only [execOp, Sem.run_bind, h2, Result.andThen, Sem.run_pure]
theorem vbsP {ps : List (Nat × Operand)} {qs : List (Nat × List Value)} {e esz n : Nat} {zs cs : List Value} [h1 : TSl P T e esz] [h2 : TZe P e zs] (hz : Nat.beq zs.length esz = true) (h0 : Nat.blt 0 esz = true) (hn : Nat.blt 0 n = true) (hm : Nat.ble (n * esz) 16777216 = true) (hp : evP E ps = some qs) (hc : fillL (fun i => some (i * esz, esz)) (rep n zs) qs = some cs) :
    ∀ t, Agree N E t → Psh P D ⟨some d, .buildSlice T n ps.toArray, ty, pos, af, g⟩ t (fun b => .slice (some ⟨b, 0, Option.none⟩) n n) (blk cs e) := by
  intro t hA w
  have h1 := fill_eq (fun i => some (i * esz, esz)) (D := D) hA ps qs (rep n zs) cs hp hc
  have h2 := run_buildSlice (P := P) (T := T) (Nat.eq_of_beq_eq_true hz) (Nat.le_of_ble_eq_true h0) n (ps.toArray.map fun p => (p.1, Act.eval ⟨t, D⟩ p.2)) cs.toArray w (Nat.le_of_ble_eq_true hn) (Nat.le_of_ble_eq_true hm)
  have h3 : (ps.toArray.map fun p => (p.1, Act.eval ⟨t, D⟩ p.2)).toList = ps.map fun p => (p.1, Act.eval ⟨t, D⟩ p.2) := by simp
  rw [h3] at h2
  have h2 := h2 h1
  simp only [execOp, Sem.run_bind, h2, Result.andThen, Sem.run_pure]
  rfl
end
end Go.Proofs.YtoebpndlbldfcaaGreatDoor
namespace Go.Proofs.YtoebpndlbldfcaaGreatDoor
open Go
def chk (N : Nat) (o : Oper) : Option Nat := match o.guard, o.dst with
  | Option.none, some d => if Nat.blt d N then some d else Option.none
  | _, _ => Option.none
def chkY (ops : Array Oper) (E : Env) (w : Bool → Bool) (N : Nat) (o : Oper) : Option Nat := match o.guard, o.dst with
  | some (j, want), some d => match ops[j]? with
    | some o2 => match o2.dst with
      | some d2 => match look E d2 with
        | some (.bool b) => if b == w want then (if Nat.blt d N then some d else Option.none) else Option.none
        | _ => Option.none
      | Option.none => Option.none
    | Option.none => Option.none
  | _, _ => Option.none
theorem mFn {P : Program} {g : FuncId} {fn : Func} (h : P.funcs[g]? = some fn) (h1 : (fn.name == "runtime.NumGoroutine") = false := by kernel_rfl) (h2 : fn.body.isNone = false := by exact rfl) : TFn P g := mkTFn h h1 h2
theorem mFl {P : Program} {T : TypeId} {i off : Nat} (h : fldB P T i = some (off, true) := by kernel_rfl) : TFl P T i off := mkTFl h
theorem mAg {P : Program} {T : TypeId} {n : Nat} (h : aggB P T = some true := by kernel_rfl) (hs : (P.info? T).map (·.size) = some n := by kernel_rfl) : TAg P T n := mkTAg h hs
theorem mSc {P : Program} {T : TypeId} (h : aggB P T = some false := by kernel_rfl) (hs : (P.info? T).map (·.size) = some 1 := by kernel_rfl) : TSc P T := mkTSc h hs
theorem mSl {P : Program} {T : TypeId} {e esz : Nat} (h : P.underlying T = some (.slice e) := by kernel_rfl) (hs : (P.info? e).map (·.size) = some esz := by kernel_rfl) : TSl P T e esz := mkTSl h hs
theorem chk_spec {N : Nat} {o : Oper} {d : Nat} (h : chk N o = some d) : o.guard = Option.none ∧ o.dst = some d ∧ Nat.blt d N = true := by
  unfold chk at h
  split at h
  · rename_i hg hd
    split at h
    · rename_i hN
      cases h
      exact ⟨hg, hd, hN⟩
    · cases h
  · cases h
theorem chkY_spec {ops : Array Oper} {E : Env} {w : Bool → Bool} {N : Nat} {o : Oper} {d : Nat} (h : chkY ops E w N o = some d) : ∃ j want d2, o.guard = some (j, want) ∧ (ops[j]?).bind (·.dst) = some d2 ∧ look E d2 = some (.bool (w want)) ∧ o.dst = some d ∧ Nat.blt d N = true := by
  unfold chkY at h
  split at h
  · rename_i j want d' hg hd
    split at h
    · rename_i o2 ho
      split at h
      · rename_i d2 hd2
        split at h
        · rename_i b hb
          split at h
          · rename_i hw
            split at h
            · rename_i hN
              cases h
              have e : b = w want := by simpa using hw
              subst e
              exact ⟨j, want, d2, hg, by rw [ho]; exact hd2, hb, hd, hN⟩
            · cases h
          · cases h
        · cases h
      · cases h
    · cases h
  · cases h
section
variable {P : Program} {f : FuncId} {ro : Option Nat} {N : Nat} {k : List Item} {E : Env} {D : List Deferred} {G H : Heap} {Q : Out → Heap → Prop} {ops : Array Oper} {l : List Oper} {l' : List (Kd × Oper)}
theorem QQ {o : Oper} {d : Nat} {v : Value} (h : OQ P N E D H o v) (hc : chk N o = some d) (hL : VL P f ro N ops l k ((d, v) :: E) D H Q) : VL P f ro N ops (o :: l) k E D H Q :=
  let ⟨a, b, c⟩ := chk_spec hc; vone a (vxq h b c hL)
theorem YY {o : Oper} {d : Nat} {v : Value} (h : OQ P N E D H o v) (hc : chkY ops E id N o = some d) (hL : VL P f ro N ops l k ((d, v) :: E) D H Q) : VL P f ro N ops (o :: l) k E D H Q :=
  let ⟨_, _, _, a, b, c, e, g⟩ := chkY_spec hc; vyes a b c (vxq h e g hL)
theorem DD {o : Oper} {d : Nat} {v : Value} (h : OQ P N E D H o v) (hc : chk N o = some d) (hL : VD P f ro N ops l' k ((d, v) :: E) D G H Q) : VD P f ro N ops ((.q, o) :: l') k E D G H Q :=
  let ⟨a, b, c⟩ := chk_spec hc; vdq (mone a) h b c hL
theorem WW {o : Oper} {d : Nat} {v : Value} (h : OQ P N E D H o v) (hc : chkY ops E id N o = some d) (hL : VD P f ro N ops l' k ((d, v) :: E) D G H Q) : VD P f ro N ops ((.q, o) :: l') k E D G H Q :=
  let ⟨_, _, _, a, b, c, e, g⟩ := chkY_spec hc; vdq (myes a b c) h e g hL
theorem NO {o : Oper} {d : Nat} (hL : VL P f ro N ops l k ((d, undef) :: E) D H Q) (hc : chkY ops E not N o = some d := by exact rfl) : VL P f ro N ops (o :: l) k E D H Q :=
  let ⟨_, _, _, a, b, c, e, g⟩ := chkY_spec hc; vno a b c e g hL
theorem NP {o : Oper} {d : Nat} (hL : VD P f ro N ops l' k ((d, undef) :: E) D G H Q) (hc : chkY ops E not N o = some d := by exact rfl) : VD P f ro N ops ((.q, o) :: l') k E D G H Q :=
  let ⟨_, _, _, a, b, c, e, g⟩ := chkY_spec hc; vdno a b c e g hL
theorem NO2 {o o' : Oper} {d d' : Nat} (hL : VL P f ro N ops l k ((d', undef) :: (d, undef) :: E) D H Q) (hc : chkY ops E not N o = some d := by exact rfl) (hc' : chkY ops ((d, undef) :: E) not N o' = some d' := by exact rfl) : VL P f ro N ops (o :: o' :: l) k E D H Q := NO (NO hL hc') hc
theorem NO3 {o o' o2 : Oper} {d d' d2 : Nat} (hL : VL P f ro N ops l k ((d2, undef) :: (d', undef) :: (d, undef) :: E) D H Q) (hc : chkY ops E not N o = some d := by exact rfl) (hc' : chkY ops ((d, undef) :: E) not N o' = some d' := by exact rfl) (hc2 : chkY ops ((d', undef) :: (d, undef) :: E) not N o2 = some d2 := by exact rfl) : VL P f ro N ops (o :: o' :: o2 :: l) k E D H Q := NO (NO (NO hL hc2) hc') hc
theorem NO4 {o o' o2 o3 : Oper} {d d' d2 d3 : Nat} (hL : VL P f ro N ops l k ((d3, undef) :: (d2, undef) :: (d', undef) :: (d, undef) :: E) D H Q) (hc : chkY ops E not N o = some d := by exact rfl) (hc' : chkY ops ((d, undef) :: E) not N o' = some d' := by exact rfl) (hc2 : chkY ops ((d', undef) :: (d, undef) :: E) not N o2 = some d2 := by exact rfl) (hc3 : chkY ops ((d2, undef) :: (d', undef) :: (d, undef) :: E) not N o3 = some d3 := by exact rfl) : VL P f ro N ops (o :: o' :: o2 :: o3 :: l) k E D H Q := NO (NO (NO (NO hL hc3) hc2) hc') hc
theorem NP2 {o o' : Oper} {d d' : Nat} (hL : VD P f ro N ops l' k ((d', undef) :: (d, undef) :: E) D G H Q) (hc : chkY ops E not N o = some d := by exact rfl) (hc' : chkY ops ((d, undef) :: E) not N o' = some d' := by exact rfl) : VD P f ro N ops ((.q, o) :: (.q, o') :: l') k E D G H Q := NP (NP hL hc') hc
theorem NP3 {o o' o2 : Oper} {d d' d2 : Nat} (hL : VD P f ro N ops l' k ((d2, undef) :: (d', undef) :: (d, undef) :: E) D G H Q) (hc : chkY ops E not N o = some d := by exact rfl) (hc' : chkY ops ((d, undef) :: E) not N o' = some d' := by exact rfl) (hc2 : chkY ops ((d', undef) :: (d, undef) :: E) not N o2 = some d2 := by exact rfl) : VD P f ro N ops ((.q, o) :: (.q, o') :: (.q, o2) :: l') k E D G H Q := NP (NP (NP hL hc2) hc') hc
theorem NP4 {o o' o2 o3 : Oper} {d d' d2 d3 : Nat} (hL : VD P f ro N ops l' k ((d3, undef) :: (d2, undef) :: (d', undef) :: (d, undef) :: E) D G H Q) (hc : chkY ops E not N o = some d := by exact rfl) (hc' : chkY ops ((d, undef) :: E) not N o' = some d' := by exact rfl) (hc2 : chkY ops ((d', undef) :: (d, undef) :: E) not N o2 = some d2 := by exact rfl) (hc3 : chkY ops ((d2, undef) :: (d', undef) :: (d, undef) :: E) not N o3 = some d3 := by exact rfl) : VD P f ro N ops ((.q, o) :: (.q, o') :: (.q, o2) :: (.q, o3) :: l') k E D G H Q := NP (NP (NP (NP hL hc3) hc2) hc') hc
theorem KK2 {id : Nat} {lo : List Oper} {y : Code} (h : VL P f ro N lo.toArray lo (.code y :: k) E D H Q) : VRun P f ro N (.code (.seq (.region id lo.toArray false) y) :: k) E D H Q := vseq (vregion h)
theorem KK3 {id : Nat} {lo : List Oper} {y : Code} (h : VL P f ro N lo.toArray lo (.code y :: k) E D H Q) : VL P f ro N ops [] (.code (.seq (.region id lo.toArray false) y) :: k) E D H Q := vnil (vseq (vregion h))
theorem AL {o : Oper} {d : Nat} {ob : Obj} (hL : ∀ b, VL P f ro N ops l k ((d, .pointer (some ⟨b, 0, Option.none⟩)) :: E) D ((b, ob) :: H) Q) (h : OA P N E D o ob := by exact valloc) (hc : chk N o = some d := by exact rfl) : VL P f ro N ops (o :: l) k E D H Q :=
  let ⟨a, b, c⟩ := chk_spec hc; vone a (vxa h b c hL)
theorem BX {o : Oper} {d : Nat} {ob : Obj} (hL : ∀ b, VL P f ro N ops l k ((d, .pointer (some ⟨b, 0, Option.none⟩)) :: E) D ((b, ob) :: H) Q) (h : OA P N E D o ob := by exact vbox rfl rfl) (hc : chk N o = some d := by exact rfl) : VL P f ro N ops (o :: l) k E D H Q :=
  let ⟨a, b, c⟩ := chk_spec hc; vone a (vxa h b c hL)
theorem SN {o : Oper} {H1 : Heap} (hL : VL P f ro N ops l k E D H1 Q) (h : OG P N E D H o (fun _ H' => H' = H1) := by exact vstn rfl rfl rfl rfl rfl) (hg : o.guard = Option.none := by exact rfl) (ho : o.dst = Option.none := by exact rfl) : VL P f ro N ops (o :: l) k E D H Q := vone hg (vxs h ho hL)
theorem SU {o : Oper} {H1 : Heap} (hL : VL P f ro N ops l k E D H1 Q) (h : OG P N E D H o (fun _ H' => H' = H1) := by exact vst1 rfl rfl rfl rfl) (hg : o.guard = Option.none := by exact rfl) (ho : o.dst = Option.none := by exact rfl) : VL P f ro N ops (o :: l) k E D H Q := vone hg (vxs h ho hL)
theorem CV (N : Nat) {g : FuncId} {fn : Func} {c : Code} {args : List Value} {R : Out → Heap → Prop} (hf : P.funcs[g]? = some fn) (h : VRun P g Option.none N [.code c] (argsE 0 args) [] H R) (hb : fn.body = some c := by exact rfl) (hn : fn.ntmps = N := by exact rfl) (ha : Nat.ble args.length N = true := by exact rfl) : VCall P g args.toArray H R := vcall_of_vrun hf hb hn ha h
theorem DR {id : Nat} {lo : List Oper} (π : List (Kd × Nat)) (hm : P.follows .mixedOrders = true) (h : VD P f ro N lo.toArray (oseq lo.toArray π) k E D [] H Q) (hok : drawOk lo.toArray π = true := by kernel_rfl) (hal : noAlloc π = true := by kernel_rfl) : VRun P f ro N (.code (.region id lo.toArray true) :: k) E D H Q := vdraw0 π hm hok hal h
theorem V1 (H' : Heap) {fn : Func} {s : Nat} {v : Value} (hf : P.funcs[f]? = some fn) (hq : Q (.val v) H') (hr : fn.results = #[.tmp s] := by exact rfl) (h : look E s = some v := by exact rfl) (hs : H'.Sublist H := by exact sb2) : VRet P f N E [] H Q := vr1 hf hr (.tmp h) hs hq
theorem VN (H' : Heap) {fn : Func} {r : ResultVar} {v : Value} (hf : P.funcs[f]? = some fn) (hq : Q (.val v) H') (hr : fn.results = #[r] := by exact rfl) (h : RV P E H r v := by exact .celln rfl rfl) (hs : H'.Sublist H := by exact sb2) : VRet P f N E [] H Q := vr1 hf hr h hs hq
theorem VC (H' : Heap) {fn : Func} {r : ResultVar} {v : Value} (hf : P.funcs[f]? = some fn) (hq : Q (.val v) H') (hr : fn.results = #[r] := by exact rfl) (h : RV P E H r v := by exact .cell1 rfl rfl) (hs : H'.Sublist H := by exact sb2) : VRet P f N E [] H Q := vr1 hf hr h hs hq
theorem QM {o : Oper} {d : Nat} {v : Value} (hL : VL P f ro N ops l k ((d, v) :: E) D H Q) (h : OQ P N E D H o v := by exact vmv rfl) (hc : chk N o = some d := by exact rfl) : VL P f ro N ops (o :: l) k E D H Q := QQ h hc hL
theorem YM {o : Oper} {d : Nat} {v : Value} (hL : VL P f ro N ops l k ((d, v) :: E) D H Q) (h : OQ P N E D H o v := by exact vmv rfl) (hc : chkY ops E id N o = some d := by exact rfl) : VL P f ro N ops (o :: l) k E D H Q := YY h hc hL
theorem DM {o : Oper} {d : Nat} {v : Value} (hL : VD P f ro N ops l' k ((d, v) :: E) D G H Q) (h : OQ P N E D H o v := by exact vmv rfl) (hc : chk N o = some d := by exact rfl) : VD P f ro N ops ((.q, o) :: l') k E D G H Q := DD h hc hL
theorem WM {o : Oper} {d : Nat} {v : Value} (hL : VD P f ro N ops l' k ((d, v) :: E) D G H Q) (h : OQ P N E D H o v := by exact vmv rfl) (hc : chkY ops E id N o = some d := by exact rfl) : VD P f ro N ops ((.q, o) :: l') k E D G H Q := WW h hc hL
theorem QA {o : Oper} {d : Nat} {v : Value} (hL : VL P f ro N ops l k ((d, v) :: E) D H Q) (h : OQ P N E D H o v := by exact vas rfl) (hc : chk N o = some d := by exact rfl) : VL P f ro N ops (o :: l) k E D H Q := QQ h hc hL
theorem DA {o : Oper} {d : Nat} {v : Value} (hL : VD P f ro N ops l' k ((d, v) :: E) D G H Q) (h : OQ P N E D H o v := by exact vas rfl) (hc : chk N o = some d := by exact rfl) : VD P f ro N ops ((.q, o) :: l') k E D G H Q := DD h hc hL
theorem QF {o : Oper} {d : Nat} {v : Value} (hL : VL P f ro N ops l k ((d, v) :: E) D H Q) (h : OQ P N E D H o v := by exact vfa rfl) (hc : chk N o = some d := by exact rfl) : VL P f ro N ops (o :: l) k E D H Q := QQ h hc hL
theorem YF {o : Oper} {d : Nat} {v : Value} (hL : VL P f ro N ops l k ((d, v) :: E) D H Q) (h : OQ P N E D H o v := by exact vfa rfl) (hc : chkY ops E id N o = some d := by exact rfl) : VL P f ro N ops (o :: l) k E D H Q := YY h hc hL
theorem DF {o : Oper} {d : Nat} {v : Value} (hL : VD P f ro N ops l' k ((d, v) :: E) D G H Q) (h : OQ P N E D H o v := by exact vfa rfl) (hc : chk N o = some d := by exact rfl) : VD P f ro N ops ((.q, o) :: l') k E D G H Q := DD h hc hL
theorem WF {o : Oper} {d : Nat} {v : Value} (hL : VD P f ro N ops l' k ((d, v) :: E) D G H Q) (h : OQ P N E D H o v := by exact vfa rfl) (hc : chkY ops E id N o = some d := by exact rfl) : VD P f ro N ops ((.q, o) :: l') k E D G H Q := WW h hc hL
theorem QL {o : Oper} {d : Nat} {v : Value} (hL : VL P f ro N ops l k ((d, v) :: E) D H Q) (h : OQ P N E D H o v := by exact vld1 rfl rfl) (hc : chk N o = some d := by exact rfl) : VL P f ro N ops (o :: l) k E D H Q := QQ h hc hL
theorem YL {o : Oper} {d : Nat} {v : Value} (hL : VL P f ro N ops l k ((d, v) :: E) D H Q) (h : OQ P N E D H o v := by exact vld1 rfl rfl) (hc : chkY ops E id N o = some d := by exact rfl) : VL P f ro N ops (o :: l) k E D H Q := YY h hc hL
theorem DL {o : Oper} {d : Nat} {v : Value} (hL : VD P f ro N ops l' k ((d, v) :: E) D G H Q) (h : OQ P N E D H o v := by exact vld1 rfl rfl) (hc : chk N o = some d := by exact rfl) : VD P f ro N ops ((.q, o) :: l') k E D G H Q := DD h hc hL
theorem WL {o : Oper} {d : Nat} {v : Value} (hL : VD P f ro N ops l' k ((d, v) :: E) D G H Q) (h : OQ P N E D H o v := by exact vld1 rfl rfl) (hc : chkY ops E id N o = some d := by exact rfl) : VD P f ro N ops ((.q, o) :: l') k E D G H Q := WW h hc hL
theorem QN {o : Oper} {d : Nat} {v : Value} (hL : VL P f ro N ops l k ((d, v) :: E) D H Q) (h : OQ P N E D H o v := by exact vldn rfl rfl) (hc : chk N o = some d := by exact rfl) : VL P f ro N ops (o :: l) k E D H Q := QQ h hc hL
theorem YN {o : Oper} {d : Nat} {v : Value} (hL : VL P f ro N ops l k ((d, v) :: E) D H Q) (h : OQ P N E D H o v := by exact vldn rfl rfl) (hc : chkY ops E id N o = some d := by exact rfl) : VL P f ro N ops (o :: l) k E D H Q := YY h hc hL
theorem DN {o : Oper} {d : Nat} {v : Value} (hL : VD P f ro N ops l' k ((d, v) :: E) D G H Q) (h : OQ P N E D H o v := by exact vldn rfl rfl) (hc : chk N o = some d := by exact rfl) : VD P f ro N ops ((.q, o) :: l') k E D G H Q := DD h hc hL
theorem WN {o : Oper} {d : Nat} {v : Value} (hL : VD P f ro N ops l' k ((d, v) :: E) D G H Q) (h : OQ P N E D H o v := by exact vldn rfl rfl) (hc : chkY ops E id N o = some d := by exact rfl) : VD P f ro N ops ((.q, o) :: l') k E D G H Q := WW h hc hL
theorem QX {o : Oper} {d : Nat} {v : Value} (hL : VL P f ro N ops l k ((d, v) :: E) D H Q) (h : OQ P N E D H o v := by exact vex rfl rfl) (hc : chk N o = some d := by exact rfl) : VL P f ro N ops (o :: l) k E D H Q := QQ h hc hL
theorem DX {o : Oper} {d : Nat} {v : Value} (hL : VD P f ro N ops l' k ((d, v) :: E) D G H Q) (h : OQ P N E D H o v := by exact vex rfl rfl) (hc : chk N o = some d := by exact rfl) : VD P f ro N ops ((.q, o) :: l') k E D G H Q := DD h hc hL
theorem QT {o : Oper} {d : Nat} {v : Value} (hL : VL P f ro N ops l k ((d, v) :: E) D H Q) (h : OQ P N E D H o v := by exact vpkt rfl rfl) (hc : chk N o = some d := by exact rfl) : VL P f ro N ops (o :: l) k E D H Q := QQ h hc hL
theorem YT {o : Oper} {d : Nat} {v : Value} (hL : VL P f ro N ops l k ((d, v) :: E) D H Q) (h : OQ P N E D H o v := by exact vpkt rfl rfl) (hc : chkY ops E id N o = some d := by exact rfl) : VL P f ro N ops (o :: l) k E D H Q := YY h hc hL
theorem DT {o : Oper} {d : Nat} {v : Value} (hL : VD P f ro N ops l' k ((d, v) :: E) D G H Q) (h : OQ P N E D H o v := by exact vpkt rfl rfl) (hc : chk N o = some d := by exact rfl) : VD P f ro N ops ((.q, o) :: l') k E D G H Q := DD h hc hL
theorem WT {o : Oper} {d : Nat} {v : Value} (hL : VD P f ro N ops l' k ((d, v) :: E) D G H Q) (h : OQ P N E D H o v := by exact vpkt rfl rfl) (hc : chkY ops E id N o = some d := by exact rfl) : VD P f ro N ops ((.q, o) :: l') k E D G H Q := WW h hc hL
theorem QU {o : Oper} {d : Nat} {v : Value} (hL : VL P f ro N ops l k ((d, v) :: E) D H Q) (h : OQ P N E D H o v := by exact vpkf rfl rfl) (hc : chk N o = some d := by exact rfl) : VL P f ro N ops (o :: l) k E D H Q := QQ h hc hL
theorem YU {o : Oper} {d : Nat} {v : Value} (hL : VL P f ro N ops l k ((d, v) :: E) D H Q) (h : OQ P N E D H o v := by exact vpkf rfl rfl) (hc : chkY ops E id N o = some d := by exact rfl) : VL P f ro N ops (o :: l) k E D H Q := YY h hc hL
theorem DU {o : Oper} {d : Nat} {v : Value} (hL : VD P f ro N ops l' k ((d, v) :: E) D G H Q) (h : OQ P N E D H o v := by exact vpkf rfl rfl) (hc : chk N o = some d := by exact rfl) : VD P f ro N ops ((.q, o) :: l') k E D G H Q := DD h hc hL
theorem WU {o : Oper} {d : Nat} {v : Value} (hL : VD P f ro N ops l' k ((d, v) :: E) D G H Q) (h : OQ P N E D H o v := by exact vpkf rfl rfl) (hc : chkY ops E id N o = some d := by exact rfl) : VD P f ro N ops ((.q, o) :: l') k E D G H Q := WW h hc hL
theorem QB {o : Oper} {d : Nat} {v : Value} (hL : VL P f ro N ops l k ((d, v) :: E) D H Q) (h : OQ P N E D H o v := by exact vbd rfl rfl) (hc : chk N o = some d := by exact rfl) : VL P f ro N ops (o :: l) k E D H Q := QQ h hc hL
theorem YB {o : Oper} {d : Nat} {v : Value} (hL : VL P f ro N ops l k ((d, v) :: E) D H Q) (h : OQ P N E D H o v := by exact vbd rfl rfl) (hc : chkY ops E id N o = some d := by exact rfl) : VL P f ro N ops (o :: l) k E D H Q := YY h hc hL
theorem DB {o : Oper} {d : Nat} {v : Value} (hL : VD P f ro N ops l' k ((d, v) :: E) D G H Q) (h : OQ P N E D H o v := by exact vbd rfl rfl) (hc : chk N o = some d := by exact rfl) : VD P f ro N ops ((.q, o) :: l') k E D G H Q := DD h hc hL
theorem WB {o : Oper} {d : Nat} {v : Value} (hL : VD P f ro N ops l' k ((d, v) :: E) D G H Q) (h : OQ P N E D H o v := by exact vbd rfl rfl) (hc : chkY ops E id N o = some d := by exact rfl) : VD P f ro N ops ((.q, o) :: l') k E D G H Q := WW h hc hL
theorem QE {o : Oper} {d : Nat} {v : Value} (hL : VL P f ro N ops l k ((d, v) :: E) D H Q) (h : OQ P N E D H o v := by exact veql rfl rfl) (hc : chk N o = some d := by exact rfl) : VL P f ro N ops (o :: l) k E D H Q := QQ h hc hL
theorem YE {o : Oper} {d : Nat} {v : Value} (hL : VL P f ro N ops l k ((d, v) :: E) D H Q) (h : OQ P N E D H o v := by exact veql rfl rfl) (hc : chkY ops E id N o = some d := by exact rfl) : VL P f ro N ops (o :: l) k E D H Q := YY h hc hL
theorem DE {o : Oper} {d : Nat} {v : Value} (hL : VD P f ro N ops l' k ((d, v) :: E) D G H Q) (h : OQ P N E D H o v := by exact veql rfl rfl) (hc : chk N o = some d := by exact rfl) : VD P f ro N ops ((.q, o) :: l') k E D G H Q := DD h hc hL
theorem WE {o : Oper} {d : Nat} {v : Value} (hL : VD P f ro N ops l' k ((d, v) :: E) D G H Q) (h : OQ P N E D H o v := by exact veql rfl rfl) (hc : chkY ops E id N o = some d := by exact rfl) : VD P f ro N ops ((.q, o) :: l') k E D G H Q := WW h hc hL
theorem QG {o : Oper} {d : Nat} {v : Value} (hL : VL P f ro N ops l k ((d, v) :: E) D H Q) (h : OQ P N E D H o v := by exact vneq rfl rfl) (hc : chk N o = some d := by exact rfl) : VL P f ro N ops (o :: l) k E D H Q := QQ h hc hL
theorem YG {o : Oper} {d : Nat} {v : Value} (hL : VL P f ro N ops l k ((d, v) :: E) D H Q) (h : OQ P N E D H o v := by exact vneq rfl rfl) (hc : chkY ops E id N o = some d := by exact rfl) : VL P f ro N ops (o :: l) k E D H Q := YY h hc hL
theorem DG {o : Oper} {d : Nat} {v : Value} (hL : VD P f ro N ops l' k ((d, v) :: E) D G H Q) (h : OQ P N E D H o v := by exact vneq rfl rfl) (hc : chk N o = some d := by exact rfl) : VD P f ro N ops ((.q, o) :: l') k E D G H Q := DD h hc hL
theorem WG {o : Oper} {d : Nat} {v : Value} (hL : VD P f ro N ops l' k ((d, v) :: E) D G H Q) (h : OQ P N E D H o v := by exact vneq rfl rfl) (hc : chkY ops E id N o = some d := by exact rfl) : VD P f ro N ops ((.q, o) :: l') k E D G H Q := WW h hc hL
theorem QS {o : Oper} {d : Nat} {v : Value} (hL : VL P f ro N ops l k ((d, v) :: E) D H Q) (h : OQ P N E D H o v := by exact vlss rfl rfl) (hc : chk N o = some d := by exact rfl) : VL P f ro N ops (o :: l) k E D H Q := QQ h hc hL
theorem YS {o : Oper} {d : Nat} {v : Value} (hL : VL P f ro N ops l k ((d, v) :: E) D H Q) (h : OQ P N E D H o v := by exact vlss rfl rfl) (hc : chkY ops E id N o = some d := by exact rfl) : VL P f ro N ops (o :: l) k E D H Q := YY h hc hL
theorem DS {o : Oper} {d : Nat} {v : Value} (hL : VD P f ro N ops l' k ((d, v) :: E) D G H Q) (h : OQ P N E D H o v := by exact vlss rfl rfl) (hc : chk N o = some d := by exact rfl) : VD P f ro N ops ((.q, o) :: l') k E D G H Q := DD h hc hL
theorem WS {o : Oper} {d : Nat} {v : Value} (hL : VD P f ro N ops l' k ((d, v) :: E) D G H Q) (h : OQ P N E D H o v := by exact vlss rfl rfl) (hc : chkY ops E id N o = some d := by exact rfl) : VD P f ro N ops ((.q, o) :: l') k E D G H Q := WW h hc hL
theorem QC {o : Oper} {d : Nat} {v : Value} (hL : VL P f ro N ops l k ((d, v) :: E) D H Q) (h : OQ P N E D H o v := by exact vnc rfl) (hc : chk N o = some d := by exact rfl) : VL P f ro N ops (o :: l) k E D H Q := QQ h hc hL
theorem YC {o : Oper} {d : Nat} {v : Value} (hL : VL P f ro N ops l k ((d, v) :: E) D H Q) (h : OQ P N E D H o v := by exact vnc rfl) (hc : chkY ops E id N o = some d := by exact rfl) : VL P f ro N ops (o :: l) k E D H Q := YY h hc hL
theorem DC {o : Oper} {d : Nat} {v : Value} (hL : VD P f ro N ops l' k ((d, v) :: E) D G H Q) (h : OQ P N E D H o v := by exact vnc rfl) (hc : chk N o = some d := by exact rfl) : VD P f ro N ops ((.q, o) :: l') k E D G H Q := DD h hc hL
end
end Go.Proofs.YtoebpndlbldfcaaGreatDoor
namespace Go.Proofs.YtoebpndlbldfcaaGreatDoor
structure Rw where
  x : Int
  a : Int
  b : Int
  deriving DecidableEq
def xsF (lo : Int) : Nat → List Int
  | 0 => []
  | n + 1 => xsF lo n ++ [lo + n]
def Bd.len (b : Bd) : Nat := (b.hi + 1 - b.lo).toNat
def rowOf (r : Rg) (x : Int) : Rw := ⟨x, max (max r.y.lo (r.s.lo - x)) (x - r.d.hi), min (min r.y.hi (r.s.hi - x)) (x - r.d.lo)⟩
def rowL (r : Rg) (x : Int) : List Rw := if (rowOf r x).a ≤ (rowOf r x).b then [rowOf r x] else []
def rowsN (r : Rg) (n : Nat) : List Rw := (xsF r.x.lo n).flatMap (rowL r)
def rows (r : Rg) : List Rw := rowsN r r.x.len
def endL (w : Rw) : List Pt := if w.a = w.b then [⟨w.x, w.a⟩] else [⟨w.x, w.a⟩, ⟨w.x, w.b⟩]
def endsOf (r : Rg) : List Pt := (rows r).flatMap endL
theorem mem_xsF {lo x : Int} : ∀ {n : Nat}, x ∈ xsF lo n ↔ lo ≤ x ∧ x < lo + n
  | 0 => by simp [xsF]
  | n + 1 => by simp [xsF, mem_xsF (n := n)]; omega
theorem rowsN_succ (r : Rg) (n : Nat) : rowsN r (n + 1) = rowsN r n ++ rowL r (r.x.lo + n) := by simp [rowsN, xsF]
theorem xsF_split (lo : Int) (n : Nat) : ∀ m, n < m → ∃ post, xsF lo m = xsF lo n ++ (lo + n) :: post
  | 0, h => by omega
  | m + 1, h => by
    by_cases e : n = m
    · subst e; exact ⟨[], rfl⟩
    · obtain ⟨post, hp⟩ := xsF_split lo n m (by omega)
      exact ⟨post ++ [lo + m], by simp [xsF, hp]⟩
theorem rows_split (r : Rg) (n : Nat) (h : n < r.x.len) (hr : (rowOf r (r.x.lo + n)).a ≤ (rowOf r (r.x.lo + n)).b) : ∃ post, rows r = rowsN r n ++ rowOf r (r.x.lo + n) :: post := by
  obtain ⟨post, hp⟩ := xsF_split r.x.lo n _ h
  refine ⟨post.flatMap (rowL r), ?_⟩
  simp only [rows, rowsN, hp, List.flatMap_append, List.flatMap_cons]
  congr 1
  simp [rowL, hr]
theorem mem_rows {r : Rg} {w : Rw} : w ∈ rows r ↔ (r.x.lo ≤ w.x ∧ w.x ≤ r.x.hi) ∧ w = rowOf r w.x ∧ w.a ≤ w.b := by
  unfold rows rowsN rowL
  simp only [List.mem_flatMap, mem_xsF, Bd.len]
  constructor
  · rintro ⟨x, hx, hw⟩
    split at hw
    · rename_i h
      simp only [List.mem_singleton] at hw
      subst hw
      refine ⟨by simp only [rowOf]; omega, rfl, h⟩
    · cases hw
  · rintro ⟨hx, hw, hab⟩
    refine ⟨w.x, by omega, ?_⟩
    rw [← hw, if_pos hab]; simp
def inR (r : Rg) (p : Pt) : Prop := (r.x.lo ≤ p.x ∧ p.x ≤ r.x.hi) ∧ (r.y.lo ≤ p.y ∧ p.y ≤ r.y.hi) ∧ (r.s.lo ≤ p.x + p.y ∧ p.x + p.y ≤ r.s.hi) ∧ (r.d.lo ≤ p.x - p.y ∧ p.x - p.y ≤ r.d.hi)
instance (r : Rg) (p : Pt) : Decidable (inR r p) := by unfold inR; exact inferInstance
theorem inR_row {r : Rg} {p : Pt} : inR r p ↔ (r.x.lo ≤ p.x ∧ p.x ≤ r.x.hi) ∧ (rowOf r p.x).a ≤ p.y ∧ p.y ≤ (rowOf r p.x).b := by
  unfold inR rowOf; simp only; omega
theorem mem_ends {r : Rg} {p : Pt} : p ∈ endsOf r ↔ inR r p ∧ (p.y = (rowOf r p.x).a ∨ p.y = (rowOf r p.x).b) := by
  rw [inR_row]
  unfold endsOf
  simp only [List.mem_flatMap, mem_rows]
  constructor
  · rintro ⟨w, ⟨hx, hw, hab⟩, hp⟩
    unfold endL at hp
    split at hp <;> simp only [List.mem_cons, List.not_mem_nil, or_false] at hp
    · subst hp
      simp only
      rw [← hw]; omega
    · rcases hp with rfl | rfl <;> (simp only; rw [← hw]; omega)
  · rintro ⟨⟨hx, h1⟩, h2⟩
    refine ⟨rowOf r p.x, ⟨hx, rfl, by omega⟩, ?_⟩
    obtain ⟨px, py⟩ := p
    unfold endL
    simp only at h2 ⊢
    have hx : (rowOf r px).x = px := rfl
    split <;> rcases h2 with h2 | h2 <;> simp [h2, hx] <;> omega
def ofP (p : Pt) : Rg := ⟨⟨p.x, p.x⟩, ⟨p.y, p.y⟩, ⟨p.x + p.y, p.x + p.y⟩, ⟨p.x - p.y, p.x - p.y⟩⟩
def Bd.span (a b : Bd) : Bd := ⟨min a.lo b.lo, max a.hi b.hi⟩
def Bd.cut (a b : Bd) : Bd := ⟨max a.lo b.lo, min a.hi b.hi⟩
def Bd.plus (a b : Bd) : Bd := ⟨a.lo + b.lo, a.hi + b.hi⟩
def Bd.minus (a b : Bd) : Bd := ⟨a.lo - b.hi, a.hi - b.lo⟩
def Rg.map2 (f : Bd → Bd → Bd) (a b : Rg) : Rg := ⟨f a.x b.x, f a.y b.y, f a.s b.s, f a.d b.d⟩
def zR : Rg := ⟨⟨0, 0⟩, ⟨0, 0⟩, ⟨0, 0⟩, ⟨0, 0⟩⟩
def addP (h : Option Rg) (p : Pt) : Option Rg := some ((h.getD (ofP p)).map2 Bd.span (ofP p))
def hullP (l : List Pt) : Option Rg := l.foldl addP Option.none
def tightP (r : Rg) : Option Rg := hullP (endsOf r)
def Bd.sm (b : Bd) (m : Int) : Prop := (-m ≤ b.lo ∧ b.lo ≤ m) ∧ -m ≤ b.hi ∧ b.hi ≤ m
def Rg.sm (r : Rg) (m : Int) : Prop := r.x.sm m ∧ r.y.sm m ∧ r.s.sm m ∧ r.d.sm m
def Pt.sm (p : Pt) (m : Int) : Prop := (-m ≤ p.x ∧ p.x ≤ m) ∧ -m ≤ p.y ∧ p.y ≤ m
theorem Rg.sm.mono {r : Rg} {m n : Int} (h : r.sm m) (hmn : m ≤ n) : r.sm n := by
  unfold Rg.sm Bd.sm at *; omega
theorem Rg.ok.sm {r : Rg} (h : r.ok) : r.sm 65536 := by
  unfold Rg.ok Bd.fits at h; unfold Rg.sm Bd.sm; omega
theorem rows_sm {r : Rg} {m : Int} (h : r.sm m) {w : Rw} (hw : w ∈ rows r) : (-m ≤ w.x ∧ w.x ≤ m) ∧ (-m ≤ w.a ∧ w.a ≤ m) ∧ -m ≤ w.b ∧ w.b ≤ m := by
  obtain ⟨hx, hw, hab⟩ := mem_rows.1 hw
  have h1 : w.a = (rowOf r w.x).a := by rw [← hw]
  have h2 : w.b = (rowOf r w.x).b := by rw [← hw]
  unfold rowOf at h1 h2; unfold Rg.sm Bd.sm at h; simp only at h1 h2; omega
theorem ends_sm {r : Rg} {m : Int} (h : r.sm m) {p : Pt} (hp : p ∈ endsOf r) : p.sm m := by
  obtain ⟨h1, h2⟩ := mem_ends.1 hp
  unfold inR at h1; unfold Rg.sm Bd.sm at h; unfold Pt.sm; omega
theorem hullP_snoc (l : List Pt) (p : Pt) : hullP (l ++ [p]) = addP (hullP l) p := by simp [hullP]
theorem optN {α : Type} {h : Option α} (e : (!h.isSome) = true) : h = none := by cases h <;> simp_all
theorem optS {α : Type} {h : Option α} (e : (!h.isSome) = false) : ∃ g, h = some g := by cases h <;> simp_all
def errO (h : Option Rg) : Int := if h.isSome then 0 else 4
abbrev RE := Rg × Int
def optE (h : Option Rg) : RE := (h.getD zR, errO h)
def tightE (r : Rg) : RE := if r.ok then optE (tightP r) else (zR, 11)
theorem chkR_ok {r : Rg} (h : r.ok) : chkR r = 0 := if_pos h
theorem chkR_no {r : Rg} (h : ¬ r.ok) : chkR r = 11 := if_neg h
theorem chkR_zero {r : Rg} : chkR r = 0 ↔ r.ok := by unfold chkR; split <;> simp_all
theorem chkR_nz {r : Rg} : chkR r ≠ 0 ↔ ¬ r.ok := by rw [← chkR_zero]
theorem chkP_zero {p : Pt} : chkP p = 0 ↔ p.ok := by unfold chkP; split <;> simp_all
theorem chkP_nz {p : Pt} : chkP p ≠ 0 ↔ ¬ p.ok := by rw [← chkP_zero]
theorem chkP_no {p : Pt} (h : ¬ p.ok) : chkP p = 10 := if_neg h
theorem Pt.ok.sm {p : Pt} (h : p.ok) : p.sm 32768 := by unfold Pt.ok at h; unfold Pt.sm; omega
theorem Pt.sm.mono {r : Pt} {m n : Int} (h : r.sm m) (hmn : m ≤ n) : r.sm n := by unfold Pt.sm at *; omega
theorem errO_none {h : Option Rg} (e : h = none) : errO h = 4 := by subst e; rfl
end Go.Proofs.YtoebpndlbldfcaaGreatDoor
namespace Go.Proofs.YtoebpndlbldfcaaGreatDoor
open Go
def oCell (ob : Obj) (a : Addr) : Option Value := match ob with
  | .cells c _ _ => if a.spot.isSome then Option.none else c[a.off]?
  | _ => Option.none
theorem oCell_eq {w : World} {a : Addr} {ob : Obj} (h : w.heap[a.block]? = some ob) : w.cell? a = oCell ob a := by
  unfold World.cell? oCell; rw [h]; cases ob <;> rfl
theorem add_block (a : Addr) (n : Nat) : (a.add n).block = a.block := by unfold Addr.add; split <;> rfl
theorem add_add (a : Addr) (m n : Nat) : (a.add m).add n = a.add (m + n) := by
  unfold Addr.add
  by_cases h1 : m = 0
  · subst h1; simp
  · by_cases h2 : n = 0
    · subst h2; simp [h1]
    · simp [h1, h2]; omega
class SlO {α : Type} (H : Heap) (oa : Option Addr) (esz : Nat) (enc : α → List Value) (l : List α) : Prop where
  el : ∀ i x, l[i]? = some x → (enc x).length = esz ∧ ∃ a ob, oa = some a ∧ (a.block, ob) ∈ H ∧ ∀ j v, (enc x)[j]? = some v → oCell ob (a.add (i * esz + j)) = some v
instance (priority := low) SlO.tail {α : Type} {x : Nat × Obj} {H : Heap} {oa : Option Addr} {esz : Nat} {enc : α → List Value} {l : List α} [h : SlO H oa esz enc l] : SlO (x :: H) oa esz enc l :=
  ⟨fun i y hy => let ⟨h1, a, ob, h2, h3, h4⟩ := h.el i y hy; ⟨h1, a, ob, h2, List.mem_cons_of_mem _ h3, h4⟩⟩
theorem SlO.sub {α : Type} {H H' : Heap} {oa : Option Addr} {esz : Nat} {enc : α → List Value} {l : List α} (h : SlO H oa esz enc l) (hs : ∀ e ∈ H, e ∈ H') : SlO H' oa esz enc l :=
  ⟨fun i y hy => let ⟨h1, a, ob, h2, h3, h4⟩ := h.el i y hy; ⟨h1, a, ob, h2, hs _ h3, h4⟩⟩
instance SlO.appL {α : Type} {A B : Heap} {oa : Option Addr} {esz : Nat} {enc : α → List Value} {l : List α} [h : SlO A oa esz enc l] : SlO (A ++ B) oa esz enc l := h.sub fun e he => List.mem_append_left _ he
theorem SlO.nil {α : Type} {H : Heap} {oa : Option Addr} {esz : Nat} {enc : α → List Value} : SlO H oa esz enc ([] : List α) := ⟨fun i y hy => by simp at hy⟩
theorem SlO.blk {α : Type} {H : Heap} {b : Nat} {cs : List Value} {T : TypeId} {esz : Nat} {enc : α → List Value} {l : List α} [h : HAt H b cs T] (hl : ∀ i x, l[i]? = some x → (enc x).length = esz ∧ ∀ j v, (enc x)[j]? = some v → cs[i * esz + j]? = some v) :
    SlO H (some ⟨b, 0, Option.none⟩) esz enc l := ⟨fun i x hx => by
  obtain ⟨h1, h2⟩ := hl i x hx
  refine ⟨h1, ⟨b, 0, Option.none⟩, Go.Proofs.YtoebpndlbldfcaaGreatDoor.blk cs T, rfl, h.mem, fun j v hj => ?_⟩
  have h3 := h2 j v hj
  unfold Addr.add
  split
  · rename_i e; rw [e] at h3; simpa [oCell, Go.Proofs.YtoebpndlbldfcaaGreatDoor.blk] using h3
  · simpa [oCell, Go.Proofs.YtoebpndlbldfcaaGreatDoor.blk] using h3⟩
theorem flat_get {α : Type} {enc : α → List Value} {esz : Nat} (he : ∀ x, (enc x).length = esz) : ∀ (l : List α) (i : Nat) (x : α) (j : Nat) (v : Value), l[i]? = some x → (enc x)[j]? = some v → (l.flatMap enc)[i * esz + j]? = some v
  | [], i, x, j, v, h, _ => by simp at h
  | y :: l, 0, x, j, v, h, hj => by
    simp only [List.getElem?_cons_zero, Option.some.injEq] at h
    subst h
    rw [List.flatMap_cons, Nat.zero_mul, Nat.zero_add, List.getElem?_append_left (List.getElem?_eq_some_iff.1 hj).1]
    exact hj
  | y :: l, i + 1, x, j, v, h, hj => by
    rw [List.getElem?_cons_succ] at h
    rw [List.flatMap_cons, List.getElem?_append_right (by rw [he, Nat.succ_mul]; omega), he, show (i + 1) * esz + j - esz = i * esz + j by rw [Nat.succ_mul]; omega]
    exact flat_get he l i x j v h hj
theorem SlO.flat {α : Type} {H : Heap} {b : Nat} {cs : List Value} {T : TypeId} {esz : Nat} {enc : α → List Value} {l : List α} [h : HAt H b cs T] (he : ∀ x, (enc x).length = esz) (hl : cs = l.flatMap enc) : SlO H (some ⟨b, 0, Option.none⟩) esz enc l :=
  SlO.blk fun i x hx => ⟨he x, fun j v hj => by rw [hl]; exact flat_get he l i x j v hx hj⟩
section
variable {P : Program} {f : FuncId} {ro : Option Nat} {N : Nat} {k : List Item} {E : Env} {D : List Deferred} {H : Heap} {Q : Out → Heap → Prop}
variable {ops : Array Oper} {l : List Oper}
variable {d : Nat} {x y : Operand} {T ty : TypeId} {pos : String} {af : Array Edge} {g : Option (Nat × Bool)}
def atI (oa : Option Addr) (n : Nat) : Option Addr := match oa with | some a => some (a.add n) | Option.none => Option.none
theorem visg {α : Type} {enc : α → List Value} {xs : List α} {oa : Option Addr} {n c e esz : Nat} {kd : IntKind} {i : Int} {z : α} [hT : TSl P T e esz] [hS : SlO H oa esz enc xs] (hx : ev E x = some (.slice oa n c)) (hy : ev E y = some (.int kd i)) (hi : 0 ≤ i ∧ i < n) (hz : xs[i.toNat]? = some z) :
    OQ P N E D H ⟨some d, .indexAddr T x y, ty, pos, af, g⟩ (.pointer (atI oa (i.toNat * esz))) :=
  ov (by simp) (fun t w hA hE => by
    obtain ⟨_, a, ob, rfl, _, _⟩ := hS.el _ _ hz
    simp [execOp, ev_eval hA hx, ev_eval hA hy, Instr.indexAt, asIntOf, run_underlying hT.und, hi, hT.size, atI])
theorem run_loadCellsG {P : Program} {w : World} {a : Addr} : ∀ (vs : List Value) (i : Nat) (acc : Array Value), (∀ j, j < vs.length → w.cell? (a.add (i + j)) = vs[j]?) →
    (loadCellsFrom a i vs.length acc).run P w = .ok (acc ++ vs.toArray) w
  | [], i, acc, _ => by simp [loadCellsFrom]
  | v :: r, i, acc, h => by
    have h0 := h 0 (by simp)
    simp only [Nat.add_zero, List.getElem?_cons_zero] at h0
    simp only [List.length_cons, loadCellsFrom]
    have hl : (load (a.add i)).run P w = .ok v w := by simp [load, Sem.run, h0]
    rw [Sem.run_bind, hl]
    simp only [Result.andThen]
    have := run_loadCellsG (P := P) (w := w) (a := a) r (i + 1) (acc.push v) (fun j hj => by
      have := h (j + 1) (by simpa using hj)
      rw [show i + 1 + j = i + (j + 1) by omega]; simpa using this)
    rw [this]
    simp
theorem vldS {α : Type} {enc : α → List Value} {xs : List α} {oa : Option Addr} {esz m : Nat} {z : α} [hT : TAg P T esz] [hS : SlO H oa esz enc xs] (hx : ev E x = some (.pointer (atI oa (m * esz)))) (hz : xs[m]? = some z) :
    OQ P N E D H ⟨some d, .load T x, ty, pos, af, g⟩ (.agg (enc z).toArray) := by
  obtain ⟨hl, a, ob, rfl, hm, hc⟩ := hS.el _ _ hz
  refine vldm (a := a.add (m * esz)) hx fun w hE => ?_
  have hob := hE.at_ _ hm
  have key := run_loadCellsG (P := P) (w := w) (a := a.add (m * esz)) (enc z) 0 #[] (fun j hj => by
    rw [add_add, Nat.zero_add, oCell_eq (ob := ob) (by rw [add_block]; exact hob), hc j _ (List.getElem?_eq_getElem hj), List.getElem?_eq_getElem hj])
  simp only [loadVar, Sem.run_bind, hT.agg, Result.andThen, if_true, hT.size, Sem.run_pure]
  rw [hl] at key
  rw [loadCells, key]
  simp
theorem vldS1 {α : Type} {enc : α → List Value} {xs : List α} {oa : Option Addr} {m : Nat} {z : α} {v : Value} [hT : TSc P T] [hS : SlO H oa 1 enc xs] (hx : ev E x = some (.pointer (atI oa (m * 1)))) (hz : xs[m]? = some z) (hv : enc z = [v]) :
    OQ P N E D H ⟨some d, .load T x, ty, pos, af, g⟩ v := by
  obtain ⟨hl, a, ob, rfl, hm, hc⟩ := hS.el _ _ hz
  refine vldm (a := a.add (m * 1)) hx fun w hE => ?_
  have hob := hE.at_ _ hm
  have h1 : w.cell? (a.add (m * 1)) = some v := by
    have := hc 0 v (by rw [hv]; rfl)
    rw [oCell_eq (ob := ob) (by rw [add_block]; exact hob)]; exact this
  simp only [loadVar, Sem.run_bind, hT.agg, Result.andThen]
  simp only [load, Sem.run, h1, Bool.false_eq_true, if_false]
end
theorem VY.l1 {P : Program} {y : Value} {args : List Value} {x1 : Nat × Obj} {L B : Heap} {R : Bool → Heap → Prop} (h : VY P y args B R) : VY P y args (x1 :: (L ++ B)) (fun b H' => ∃ B', H' = x1 :: (L ++ B') ∧ R b B') := h.behind (A := x1 :: L)
theorem VY.l2 {P : Program} {y : Value} {args : List Value} {x1 x2 : Nat × Obj} {L B : Heap} {R : Bool → Heap → Prop} (h : VY P y args B R) : VY P y args (x1 :: x2 :: (L ++ B)) (fun b H' => ∃ B', H' = x1 :: x2 :: (L ++ B') ∧ R b B') := h.behind (A := x1 :: x2 :: L)
theorem VY.l3 {P : Program} {y : Value} {args : List Value} {x1 x2 x3 : Nat × Obj} {L B : Heap} {R : Bool → Heap → Prop} (h : VY P y args B R) : VY P y args (x1 :: x2 :: x3 :: (L ++ B)) (fun b H' => ∃ B', H' = x1 :: x2 :: x3 :: (L ++ B') ∧ R b B') := h.behind (A := x1 :: x2 :: x3 :: L)
theorem get_of_lt {α : Type} (l : List α) {i : Nat} (h : i < l.length) : ∃ z, l[i]? = some z := ⟨_, List.getElem?_eq_getElem h⟩
theorem take_succ_of {α : Type} {l : List α} {i : Nat} {z : α} (h : l[i]? = some z) : l.take (i + 1) = l.take i ++ [z] := by
  rw [List.take_add_one, h]; rfl
theorem split_at {α : Type} {l : List α} {i : Nat} {z : α} (h : l[i]? = some z) : ∃ post, l = l.take i ++ z :: post := by
  refine ⟨l.drop (i + 1), ?_⟩
  have hlt := (List.getElem?_eq_some_iff.1 h).1
  have hge := (List.getElem?_eq_some_iff.1 h).2
  rw [← hge, ← List.drop_eq_getElem_cons hlt, List.take_append_drop]
theorem VHas.perm {P : Program} {gf : FuncId} {al : List Value} {v : Value} {A A' B B' : Heap} (hp : A.Perm B) (hp' : A'.Perm B') (h : VHas P gf al v A A') : VHas P gf al v B B' := by
  intro w cs hE
  obtain ⟨o, w', m', H', ⟨h2, h3⟩, hFr, hs⟩ := h w cs (hE.perm hp.symm)
  subst h3
  exact ⟨o, w', m', _, ⟨h2, rfl⟩, hFr.perm hp hp', hs⟩
theorem sub_perm {A H : Heap} (hs : A.Sublist H) : ∃ B, H.Perm (A ++ B) := by
  induction hs with
  | slnil => exact ⟨[], .refl _⟩
  | cons x _ ih => obtain ⟨B, hB⟩ := ih; exact ⟨x :: B, (hB.cons x).trans List.perm_middle.symm⟩
  | cons_cons x _ ih => obtain ⟨B, hB⟩ := ih; exact ⟨B, hB.cons x⟩
theorem VHas.keepSub {P : Program} {gf : FuncId} {al : List Value} {v : Value} {A H : Heap} (h : VHas P gf al v A A) (hs : A.Sublist H) : VHas P gf al v H H := by
  obtain ⟨B, hB⟩ := sub_perm hs
  exact (h.frame (B := B)).perm hB.symm hB.symm
end Go.Proofs.YtoebpndlbldfcaaGreatDoor
namespace Go.Proofs.YtoebpndlbldfcaaGreatDoor
structure Tot (l : List Pt) (t : Rg) : Prop where
  mem : ∀ p ∈ l, inR t p
  xlo : ∃ p ∈ l, p.x = t.x.lo
  xhi : ∃ p ∈ l, p.x = t.x.hi
  ylo : ∃ p ∈ l, p.y = t.y.lo
  yhi : ∃ p ∈ l, p.y = t.y.hi
  slo : ∃ p ∈ l, p.x + p.y = t.s.lo
  shi : ∃ p ∈ l, p.x + p.y = t.s.hi
  dlo : ∃ p ∈ l, p.x - p.y = t.d.lo
  dhi : ∃ p ∈ l, p.x - p.y = t.d.hi
theorem Tot.one (p : Pt) : Tot [p] ((ofP p).map2 Bd.span (ofP p)) := by
  refine ⟨fun q hq => ?_, ?_, ?_, ?_, ?_, ?_, ?_, ?_, ?_⟩
  · rw [List.mem_singleton.1 hq]; unfold inR ofP Rg.map2 Bd.span; simp only; omega
  all_goals exact ⟨p, by simp, by simp only [ofP, Rg.map2, Bd.span]; omega⟩
theorem pick_min {l : List Pt} {q : Pt} (f : Pt → Int) {a : Int} (h : ∃ p ∈ l, f p = a) : ∃ p ∈ l ++ [q], f p = min a (f q) := by
  obtain ⟨p, hp, e⟩ := h
  rcases Int.le_total a (f q) with h1 | h1
  · exact ⟨p, by simp [hp], by omega⟩
  · exact ⟨q, by simp, by omega⟩
theorem pick_max {l : List Pt} {q : Pt} (f : Pt → Int) {a : Int} (h : ∃ p ∈ l, f p = a) : ∃ p ∈ l ++ [q], f p = max a (f q) := by
  obtain ⟨p, hp, e⟩ := h
  rcases Int.le_total a (f q) with h1 | h1
  · exact ⟨q, by simp, by omega⟩
  · exact ⟨p, by simp [hp], by omega⟩
theorem Tot.snoc {l : List Pt} {t : Rg} (h : Tot l t) (q : Pt) : Tot (l ++ [q]) (t.map2 Bd.span (ofP q)) := by
  refine ⟨fun p hp => ?_, pick_min Pt.x h.xlo, pick_max Pt.x h.xhi, pick_min Pt.y h.ylo, pick_max Pt.y h.yhi, pick_min (fun p => p.x + p.y) h.slo, pick_max (fun p => p.x + p.y) h.shi, pick_min (fun p => p.x - p.y) h.dlo, pick_max (fun p => p.x - p.y) h.dhi⟩
  rcases List.mem_append.1 hp with hp | hp
  · have := h.mem p hp
    unfold inR ofP Rg.map2 Bd.span at *; simp only; omega
  · rw [List.mem_singleton.1 hp]; unfold inR ofP Rg.map2 Bd.span; simp only; omega
theorem tot_fold : ∀ (l pre : List Pt) (g t : Rg), Tot pre g → l.foldl addP (some g) = some t → Tot (pre ++ l) t
  | [], pre, g, t, h, e => by simp at e; subst e; simpa using h
  | q :: l, pre, g, t, h, e => by
    have := tot_fold l (pre ++ [q]) _ t (h.snoc q) e
    simpa using this
theorem hullP_tot {l : List Pt} {t : Rg} (h : hullP l = some t) : Tot l t := by
  cases l with
  | nil => simp [hullP] at h
  | cons q l => exact tot_fold l [q] _ t (Tot.one q) h
theorem fold_some : ∀ (l : List Pt) (g : Rg), ∃ t, l.foldl addP (some g) = some t
  | [], g => ⟨g, rfl⟩
  | _ :: l, _ => fold_some l _
theorem hullP_none {l : List Pt} : hullP l = none ↔ l = [] := by
  cases l with
  | nil => simp [hullP]
  | cons q l =>
    obtain ⟨t, h⟩ := fold_some l ((ofP q).map2 Bd.span (ofP q))
    have h2 : hullP (q :: l) = some t := h
    simp [h2]
theorem Tot.uniq {l l' : List Pt} {t t' : Rg} (h : Tot l t) (h' : Tot l' t') (e : ∀ p, p ∈ l ↔ p ∈ l') : t = t' := by
  have key : ∀ {l l' : List Pt} {t t' : Rg}, Tot l t → Tot l' t' → (∀ p, p ∈ l → p ∈ l') → (t'.x.lo ≤ t.x.lo ∧ t.x.hi ≤ t'.x.hi) ∧ (t'.y.lo ≤ t.y.lo ∧ t.y.hi ≤ t'.y.hi) ∧ (t'.s.lo ≤ t.s.lo ∧ t.s.hi ≤ t'.s.hi) ∧ (t'.d.lo ≤ t.d.lo ∧ t.d.hi ≤ t'.d.hi) := by
    intro l l' t t' h h' e
    obtain ⟨p1, m1, e1⟩ := h.xlo
    obtain ⟨p2, m2, e2⟩ := h.xhi
    obtain ⟨p3, m3, e3⟩ := h.ylo
    obtain ⟨p4, m4, e4⟩ := h.yhi
    obtain ⟨p5, m5, e5⟩ := h.slo
    obtain ⟨p6, m6, e6⟩ := h.shi
    obtain ⟨p7, m7, e7⟩ := h.dlo
    obtain ⟨p8, m8, e8⟩ := h.dhi
    have := h'.mem p1 (e _ m1)
    have := h'.mem p2 (e _ m2)
    have := h'.mem p3 (e _ m3)
    have := h'.mem p4 (e _ m4)
    have := h'.mem p5 (e _ m5)
    have := h'.mem p6 (e _ m6)
    have := h'.mem p7 (e _ m7)
    have := h'.mem p8 (e _ m8)
    unfold inR at *
    refine ⟨⟨?_, ?_⟩, ⟨?_, ?_⟩, ⟨?_, ?_⟩, ⟨?_, ?_⟩⟩ <;> omega
  have k1 := key h h' (fun p => (e p).1)
  have k2 := key h' h (fun p => (e p).2)
  obtain ⟨⟨a1, a2⟩, ⟨b1, b2⟩, ⟨c1, c2⟩, d1, d2⟩ := k1
  obtain ⟨⟨a3, a4⟩, ⟨b3, b4⟩, ⟨c3, c4⟩, d3, d4⟩ := k2
  have ex : ∀ (a b : Bd), a.lo = b.lo → a.hi = b.hi → a = b := fun a b h1 h2 => by cases a; cases b; simp_all
  have hx := ex t.x t'.x (by omega) (by omega)
  have hy := ex t.y t'.y (by omega) (by omega)
  have hs := ex t.s t'.s (by omega) (by omega)
  have hd := ex t.d t'.d (by omega) (by omega)
  cases t; cases t'; simp_all
theorem tight_tot {r t : Rg} (h : tightP r = some t) : Tot (endsOf r) t := hullP_tot h
theorem ends_in {r : Rg} {p : Pt} (h : p ∈ endsOf r) : inR r p := (mem_ends.1 h).1
theorem Tot.sub {l : List Pt} {r t : Rg} (h : Tot l t) (hr : ∀ p ∈ l, inR r p) : (r.x.lo ≤ t.x.lo ∧ t.x.lo ≤ t.x.hi ∧ t.x.hi ≤ r.x.hi) ∧ (r.y.lo ≤ t.y.lo ∧ t.y.lo ≤ t.y.hi ∧ t.y.hi ≤ r.y.hi) ∧ (r.s.lo ≤ t.s.lo ∧ t.s.lo ≤ t.s.hi ∧ t.s.hi ≤ r.s.hi) ∧ (r.d.lo ≤ t.d.lo ∧ t.d.lo ≤ t.d.hi ∧ t.d.hi ≤ r.d.hi) := by
  obtain ⟨p1, m1, e1⟩ := h.xlo
  obtain ⟨p2, m2, e2⟩ := h.xhi
  obtain ⟨p3, m3, e3⟩ := h.ylo
  obtain ⟨p4, m4, e4⟩ := h.yhi
  obtain ⟨p5, m5, e5⟩ := h.slo
  obtain ⟨p6, m6, e6⟩ := h.shi
  obtain ⟨p7, m7, e7⟩ := h.dlo
  obtain ⟨p8, m8, e8⟩ := h.dhi
  have a1 := hr _ m1
  have a2 := hr _ m2
  have a3 := hr _ m3
  have a4 := hr _ m4
  have a5 := hr _ m5
  have a6 := hr _ m6
  have a7 := hr _ m7
  have a8 := hr _ m8
  have b := h.mem p1 m1
  unfold inR at *
  refine ⟨⟨?_, ?_, ?_⟩, ⟨?_, ?_, ?_⟩, ⟨?_, ?_, ?_⟩, ?_, ?_, ?_⟩ <;> omega
theorem tight_sub {r t : Rg} (h : tightP r = some t) : (r.x.lo ≤ t.x.lo ∧ t.x.lo ≤ t.x.hi ∧ t.x.hi ≤ r.x.hi) ∧ (r.y.lo ≤ t.y.lo ∧ t.y.lo ≤ t.y.hi ∧ t.y.hi ≤ r.y.hi) ∧ (r.s.lo ≤ t.s.lo ∧ t.s.lo ≤ t.s.hi ∧ t.s.hi ≤ r.s.hi) ∧ (r.d.lo ≤ t.d.lo ∧ t.d.lo ≤ t.d.hi ∧ t.d.hi ≤ r.d.hi) :=
  (tight_tot h).sub fun _ hp => ends_in hp
theorem tight_sm {r t : Rg} {m : Int} (h : tightP r = some t) (hs : r.sm m) : t.sm m := by
  have := tight_sub h; unfold Rg.sm Bd.sm at *; omega
theorem tight_ok {r t : Rg} (h : tightP r = some t) (hs : r.ok) : t.ok := by
  have := tight_sub h; unfold Rg.ok Bd.fits at *; omega
theorem row_ends {r : Rg} {p : Pt} (h : inR r p) : (⟨p.x, (rowOf r p.x).a⟩ : Pt) ∈ endsOf r ∧ (⟨p.x, (rowOf r p.x).b⟩ : Pt) ∈ endsOf r := by
  have h1 := inR_row.1 h
  constructor
  · refine mem_ends.2 ⟨inR_row.2 ⟨h1.1, ?_, ?_⟩, .inl rfl⟩ <;> simp only <;> omega
  · refine mem_ends.2 ⟨inR_row.2 ⟨h1.1, ?_, ?_⟩, .inr rfl⟩ <;> simp only <;> omega
theorem in_between {t : Rg} {x a b y : Int} (ha : inR t ⟨x, a⟩) (hb : inR t ⟨x, b⟩) (h1 : a ≤ y) (h2 : y ≤ b) : inR t ⟨x, y⟩ := by
  unfold inR at *; simp only at *; omega
theorem tight_in {r t : Rg} (h : tightP r = some t) (p : Pt) : inR t p ↔ inR r p := by
  constructor
  · intro hp
    have := tight_sub h
    unfold inR at *; omega
  · intro hp
    obtain ⟨h1, h2⟩ := row_ends hp
    have h3 := inR_row.1 hp
    exact in_between ((tight_tot h).mem _ h1) ((tight_tot h).mem _ h2) h3.2.1 h3.2.2
theorem tight_none {r : Rg} : tightP r = none ↔ ∀ p, ¬ inR r p := by
  unfold tightP; rw [hullP_none]
  constructor
  · intro h p hp
    have := (row_ends hp).1; rw [h] at this; cases this
  · intro h
    cases he : endsOf r with
    | nil => rfl
    | cons p l => exact (h p (ends_in (by rw [he]; simp))).elim
def chk2 (a b : Rg) : Int := if a.ok ∧ b.ok then 0 else 11
theorem chk2_zero {a b : Rg} : chk2 a b = 0 ↔ a.ok ∧ b.ok := by unfold chk2; split <;> simp_all
def meetE (a b : Rg) : RE := if chk2 a b = 0 then optE (tightP (a.map2 Bd.cut b)) else (zR, chk2 a b)
def joinE (a b : Rg) : RE := if chk2 a b = 0 then optE (hullP (endsOf a ++ endsOf b)) else (zR, chk2 a b)
def twoE (a b : Rg) : Rg × Rg × Int := if chk2 a b = 0 then (match tightP a, tightP b with | some x, some y => (x, y, 0) | _, _ => (zR, zR, 4)) else (zR, zR, chk2 a b)
def insideE (f : Rg) : RE := if f.x.fits 32768 ∧ f.y.fits 32768 then (f, 0) else (zR, 7)
def Pt.okV (p : Pt) : Prop := (-65536 ≤ p.x ∧ p.x ≤ 65536) ∧ (-65536 ≤ p.y ∧ p.y ≤ 65536)
instance (p : Pt) : Decidable p.okV := by unfold Pt.okV; exact inferInstance
def moveE (r : Rg) (v : Pt) : RE := if r.ok then (if v.okV then (match tightP r with | some x => insideE (x.map2 Bd.plus (ofP v)) | none => (zR, 4)) else (zR, 7)) else (zR, 11)
def sweptE (r : Rg) (u v : Pt) : RE := if (moveE r u).2 = 0 then (if (moveE r v).2 = 0 then joinE (moveE r u).1 (moveE r v).1 else (zR, (moveE r v).2)) else (zR, (moveE r u).2)
theorem cut_sm {a b : Rg} {m : Int} (ha : a.sm m) (hb : b.sm m) : (a.map2 Bd.cut b).sm m := by
  unfold Rg.sm Bd.sm Rg.map2 Bd.cut at *; simp only; omega
theorem minus_sm {a b : Rg} {m n : Int} (ha : a.sm m) (hb : b.sm n) : (a.map2 Bd.minus b).sm (m + n) := by
  unfold Rg.sm Bd.sm Rg.map2 Bd.minus at *; simp only; omega
theorem zR_sm : zR.sm 65536 := by unfold Rg.sm Bd.sm zR; simp only; omega
theorem twoE_sm (a b : Rg) : (twoE a b).1.sm 65536 ∧ (twoE a b).2.1.sm 65536 := by
  unfold twoE
  split
  · rename_i h
    have h := chk2_zero.1 h
    split
    · rename_i x y hx hy
      exact ⟨tight_sm hx h.1.sm, tight_sm hy h.2.sm⟩
    · exact ⟨zR_sm, zR_sm⟩
  · exact ⟨zR_sm, zR_sm⟩
theorem ofP_sm {p : Pt} (h : p.okV) : (ofP p).sm 131072 := by unfold Pt.okV at h; unfold Rg.sm Bd.sm ofP; simp only; omega
end Go.Proofs.YtoebpndlbldfcaaGreatDoor
