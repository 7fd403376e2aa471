/-
  Regions whose order the tape draws: one order, checked by a Bool, serves all. No condition.
-/
import Derived.Test.YtffpfcomikcimaaMem
namespace Go.Proofs.Ytffpfcomikcimaa
open Go

/-- How an operation stands in the chosen order. The blocks are parted in two: those that this region has made (G), and the others (H). Quiet on H; quiet on both; a new variable (into G); one that adds one block (to G); a change of G alone; of H alone; of both. -/
inductive Kd where
  | q | n | a (ob : Obj) | m | g | s | c | w

section
variable {P : Program} {f : FuncId} {ro : Option Nat} {N : Nat} {k : List Item} {D : List Deferred} {Q : Out → Heap → Prop} {ops : Array Oper}

/-- A run from these very temporaries. -/
def Good (P : Program) (f : FuncId) (ro : Option Nat) (D : List Deferred) (Q : Out → Heap → Prop) (k : List Item) (t : Array Value) (G H : Heap) : Prop :=
  ∀ (w : World) (cs : List Frame), Emb (G ++ H) w → ∃ o w' m' H', Q o H' ∧ Fr (G ++ H) w H' w' ∧ Steps P (lone ((bas f ro).atR ⟨t, D⟩ k) cs w) m' ∧ Fin P f ro cs w' m' o

/-- One operation, from these very temporaries. -/
def St (P : Program) (D : List Deferred) (o : Oper) (R : Value → Heap → Prop) (t : Array Value) (H : Heap) : Prop :=
  ∀ w, Emb H w → ∃ n w1, (execOp (Act.eval ⟨t, D⟩) o).run P w = .ok n w1 ∧ NGo P n w1 (fun v w2 => ∃ H', Fr H w H' w2 ∧ R v H')

def pu (D : List Deferred) (t : Array Value) (d : Option Nat) (v : Value) : Array Value := (Act.put ⟨t, D⟩ d v).tmps

def Want (ops : Array Oper) (o : Oper) (t : Array Value) : Prop := Region.wanted o (yielded ops t) = true

abbrev KK := Array Value → Heap → Heap → Prop
/-- Some world holds these blocks. -/
def NE (G H : Heap) : Prop := ∃ w : World, Emb (G ++ H) w
def Gd (K : KK) : KK := fun t G H => NE G H → K t G H
/-- An operation that pushes one block, whatever the world is. -/
def Psh (P : Program) (D : List Deferred) (o : Oper) (t : Array Value) (V : Nat → Value) (ob : Obj) : Prop :=
  ∀ w : World, (execOp (Act.eval ⟨t, D⟩) o).run P w = .ok (.value (V w.heap.size)) { w with heap := w.heap.push ob }

/-- One step of the chosen order. -/
def Stp (P : Program) (D : List Deferred) (ops : Array Oper) (kd : Kd) (o : Oper) (K : KK) (t : Array Value) (G H : Heap) : Prop :=
  match kd with
  | .q => ∃ v, ((Want ops o t ∧ St P D o (fun u H' => u = v ∧ H' = H) t H) ∨ (¬ Want ops o t ∧ v = undef)) ∧ K (pu D t o.dst v) G H
  | .n => ∃ v, Want ops o t ∧ St P D o (fun u H' => u = v ∧ H' = G ++ H) t (G ++ H) ∧ K (pu D t o.dst v) G H
  | .a ob => ∀ b, K (pu D t o.dst (.pointer (some ⟨b, 0, Option.none⟩))) ((b, ob) :: G) H
  | .m => Want ops o t ∧ ∃ V ob, Psh P D o t V ob ∧ ∀ b, K (pu D t o.dst (V b)) ((b, ob) :: G) H
  | .g => Want ops o t ∧ St P D o (fun v H' => ∃ B, H' = B ++ (G ++ H) ∧ K (pu D t o.dst v) (B ++ G) H) t (G ++ H)
  | .s => Want ops o t ∧ St P D o (fun v H' => K (pu D t o.dst v) H' H) t G
  | .c => Want ops o t ∧ St P D o (fun v H' => K (pu D t o.dst v) G H') t H
  | .w => Want ops o t ∧ St P D o (fun v H' => ∃ G2 H2, H'.Perm (G2 ++ H2) ∧ K (pu D t o.dst v) G2 H2) t (G ++ H)

def PermC (K : KK) : Prop := ∀ t G G' H H', G.Perm G' → H.Perm H' → K t G H → K t G' H'

theorem St.mono {o : Oper} {R R' : Value → Heap → Prop} {t : Array Value} {H : Heap} (h : St P D o R t H) (hr : ∀ v H', R v H' → R' v H') : St P D o R' t H :=
  fun w hE => let ⟨n, w1, h1, h2⟩ := h w hE; ⟨n, w1, h1, h2.mono fun v w2 ⟨H', hF, hR⟩ => ⟨H', hF, hr v H' hR⟩⟩

theorem St.perm {o : Oper} {R : Value → Heap → Prop} {t : Array Value} {H H' : Heap} (hp : H.Perm H') (h : St P D o R t H) : St P D o R t H' :=
  fun w hE => let ⟨n, w1, h1, h2⟩ := h w (hE.perm hp.symm); ⟨n, w1, h1, h2.mono fun v w2 ⟨H2, hF, hR⟩ => ⟨H2, hF.perm hp (.refl _), hR⟩⟩
/-- What comes out may be put otherwise. -/
theorem St.out {o : Oper} {R : Value → Heap → Prop} {t : Array Value} {H : Heap} (h : St P D o R t H) : St P D o (fun v H' => ∃ H2, H2.Perm H' ∧ R v H2) t H :=
  h.mono fun v H' hR => ⟨H', .refl _, hR⟩
theorem St.outp {o : Oper} {R R' : Value → Heap → Prop} {t : Array Value} {H : Heap} (h : St P D o R t H) (hr : ∀ v H', R v H' → ∃ H2, H'.Perm H2 ∧ R' v H2) : St P D o R' t H :=
  fun w hE => let ⟨n, w1, h1, h2⟩ := h w hE; ⟨n, w1, h1, h2.mono fun v w2 ⟨H', hF, hR⟩ => let ⟨H2, hp, hR'⟩ := hr v H' hR; ⟨H2, hF.perm (.refl _) hp, hR'⟩⟩

theorem St.frame {o : Oper} {R : Value → Heap → Prop} {t : Array Value} {A B : Heap} (h : St P D o R t A) : St P D o (fun v H' => ∃ A', H' = A' ++ B ∧ R v A') t (A ++ B) :=
  fun w hE => let ⟨n, w1, h1, h2⟩ := h w (hE.sub (List.sublist_append_left A B)); ⟨n, w1, h1, h2.mono fun v w2 ⟨A', hF, hR⟩ => ⟨A' ++ B, hF.frame hE, A', rfl, hR⟩⟩

/-- More blocks in front. -/
theorem St.front {o : Oper} {R : Value → Heap → Prop} {t : Array Value} {H : Heap} (G : Heap) (h : St P D o R t H) : St P D o (fun v H' => ∃ A', H' = G ++ A' ∧ R v A') t (G ++ H) := by
  refine ((h.frame (B := G)).perm List.perm_append_comm).outp fun v H' ⟨A', e, hR⟩ => ?_
  subst e
  exact ⟨G ++ A', List.perm_append_comm, A', rfl, hR⟩

theorem quiet_perm {o : Oper} {v : Value} {t : Array Value} {H H' : Heap} (hp : H.Perm H') (h : St P D o (fun u H2 => u = v ∧ H2 = H) t H) : St P D o (fun u H2 => u = v ∧ H2 = H') t H' :=
  (h.perm hp).outp fun u H2 ⟨e1, e2⟩ => by subst e2; exact ⟨H', hp, e1, rfl⟩

theorem Stp.permC {kd : Kd} {o : Oper} {K : KK} (hK : PermC K) : PermC (Stp P D ops kd o K) := by
  intro t G G' H H' hg hp h
  have hgp := hg.append hp
  cases kd with
  | q =>
    obtain ⟨v, h1, h2⟩ := h
    exact ⟨v, h1.imp (fun hh => ⟨hh.1, quiet_perm hp hh.2⟩) id, hK _ _ _ _ _ hg hp h2⟩
  | n =>
    obtain ⟨v, h1, h2, h3⟩ := h
    exact ⟨v, h1, quiet_perm hgp h2, hK _ _ _ _ _ hg hp h3⟩
  | a ob => exact fun b => hK _ _ _ _ _ (hg.cons _) hp (h b)
  | m => obtain ⟨h1, V, ob, h2, h3⟩ := h; exact ⟨h1, V, ob, h2, fun b => hK _ _ _ _ _ (hg.cons _) hp (h3 b)⟩
  | g =>
    refine ⟨h.1, (h.2.perm hgp).outp fun v H2 ⟨B, e, hk⟩ => ?_⟩
    subst e
    exact ⟨B ++ (G' ++ H'), hgp.append_left B, B, rfl, hK _ _ _ _ _ (hg.append_left B) hp hk⟩
  | s => exact ⟨h.1, (h.2.perm hg).mono fun v H2 hk => hK _ _ _ _ _ (.refl _) hp hk⟩
  | c => exact ⟨h.1, (h.2.perm hp).mono fun v H2 hk => hK _ _ _ _ _ hg (.refl _) hk⟩
  | w => exact ⟨h.1, h.2.perm hgp⟩

theorem Stp.mono {kd : Kd} {o : Oper} {K K' : KK} (hK : ∀ t G H, K t G H → K' t G H) {t : Array Value} {G H : Heap} (h : Stp P D ops kd o K t G H) : Stp P D ops kd o K' t G H := by
  cases kd with
  | q => obtain ⟨v, h1, h2⟩ := h; exact ⟨v, h1, hK _ _ _ h2⟩
  | n => obtain ⟨v, h1, h2, h3⟩ := h; exact ⟨v, h1, h2, hK _ _ _ h3⟩
  | a ob => exact fun b => hK _ _ _ (h b)
  | m => obtain ⟨h1, V, ob, h2, h3⟩ := h; exact ⟨h1, V, ob, h2, fun b => hK _ _ _ (h3 b)⟩
  | g => exact ⟨h.1, h.2.mono fun v H' ⟨x, e, hh⟩ => ⟨x, e, hK _ _ _ hh⟩⟩
  | s => exact ⟨h.1, h.2.mono fun v H' hh => hK _ _ _ hh⟩
  | c => exact ⟨h.1, h.2.mono fun v H' hh => hK _ _ _ hh⟩
  | w => exact ⟨h.1, h.2.mono fun v H' ⟨G2, H2, hp, hh⟩ => ⟨G2, H2, hp, hK _ _ _ hh⟩⟩

/-- What may change places. -/
def mayFlip : Kd → Kd → Bool
  | .q, .m | .n, .m | .a _, .m | .m, .a _ | .m, .m | .s, .m | .c, .m | .g, .m | .w, .m => true
  | .q, .q | .q, .n | .n, .q | .n, .n | .q, .a _ | .n, .a _ | .a _, .a _ | .s, .a _ | .c, .a _ | .g, .a _ | .q, .g | .n, .g | .q, .s => true
  | _, _ => false

def sel (o : Oper) : Bool := match o.op with | .select .. => false | _ => true
theorem sel_spec {o : Oper} (h : sel o = true) (cs : Array SelectCase) (b : Bool) : o.op ≠ .select cs b := by
  intro e; simp [sel, e] at h

theorem St.put {oi oj : Oper} {v : Value} (hj : sel oj = true) (h1 : ∀ d, oi.dst = some d → d ∉ oj.looksAt ops) {R : Value → Heap → Prop} {t : Array Value} {H : Heap} :
    St P D oj R (pu D t oi.dst v) H ↔ St P D oj R t H := by
  have e : execOp (Act.eval ⟨pu D t oi.dst v, D⟩) oj = execOp (Act.eval ⟨t, D⟩) oj := by
    have := execOp_put (ops := ops) oj (sel_spec hj) ⟨t, D⟩ oi.dst v h1
    rw [put_defers] at this
    exact this
  unfold St
  rw [e]

theorem Want.put {oi oj : Oper} {v : Value} (h1 : ∀ d, oi.dst = some d → d ∉ oj.looksAt ops) {t : Array Value} : Want ops oj (pu D t oi.dst v) ↔ Want ops oj t := by
  have := wanted_put (ops := ops) oj ⟨t, D⟩ oi.dst v h1
  unfold Want pu
  rw [this]

theorem pu_comm {oi oj : Oper} {v u : Value} (h : ∀ d, oi.dst = some d → oj.dst ≠ some d) (t : Array Value) : pu D (pu D t oi.dst v) oj.dst u = pu D (pu D t oj.dst u) oi.dst v := by
  have := Act.put_comm ⟨t, D⟩ (x := oi.dst) (y := oj.dst) v u h
  have h2 := congrArg Act.tmps this
  unfold pu
  rw [put_defers t oi.dst v, put_defers t oj.dst u] at h2
  exact h2

theorem NE.sub {G H G' H' : Heap} (h : NE G' H') (hs : (G ++ H).Sublist (G' ++ H')) : NE G H := let ⟨w, hE⟩ := h; ⟨w, hE.sub hs⟩
theorem NE.perm {G H G' H' : Heap} (h : NE G' H') (hs : (G' ++ H').Perm (G ++ H)) : NE G H := let ⟨w, hE⟩ := h; ⟨w, hE.perm hs⟩
theorem NE.drop {x : Nat × Obj} {G H : Heap} (h : NE (x :: G) H) : NE G H := h.sub (List.Sublist.cons _ (List.Sublist.refl _))
theorem NE.drop2 {x y : Nat × Obj} {G H : Heap} (h : NE (x :: y :: G) H) : NE (x :: G) H := h.sub (List.Sublist.cons_cons _ (List.Sublist.cons _ (List.Sublist.refl _)))
theorem NE.dropM {y : Nat × Obj} {B G H : Heap} (h : NE (B ++ y :: G) H) : NE (B ++ G) H := h.sub ((List.Sublist.append_left (List.sublist_cons_self _ _) _).append_right _)
theorem NE.swap {x y : Nat × Obj} {G H : Heap} (h : NE (x :: y :: G) H) : NE (y :: x :: G) H := h.perm (List.Perm.swap _ _ _)
theorem Psh.put {oi oj : Oper} {v : Value} (hj : sel oj = true) (h1 : ∀ d, oi.dst = some d → d ∉ oj.looksAt ops) {V : Nat → Value} {ob : Obj} {t : Array Value} :
    Psh P D oj (pu D t oi.dst v) V ob ↔ Psh P D oj t V ob := by
  have e : execOp (Act.eval ⟨pu D t oi.dst v, D⟩) oj = execOp (Act.eval ⟨t, D⟩) oj := by
    have := execOp_put (ops := ops) oj (sel_spec hj) ⟨t, D⟩ oi.dst v h1
    rw [put_defers] at this
    exact this
  unfold Psh
  rw [e]
theorem Psh.uniq {o : Oper} {t : Array Value} {V V' : Nat → Value} {ob ob' : Obj} (h : Psh P D o t V ob) (h' : Psh P D o t V' ob') : V = V' ∧ ob = ob' := by
  have key : ∀ n : Nat, V n = V' n ∧ ob = ob' := fun n => by
    let w : World := { (default : World) with heap := Array.replicate n ob }
    have e := (h w).symm.trans (h' w)
    simp only [Result.ok.injEq, Next.value.injEq] at e
    obtain ⟨e1, e2⟩ := e
    have hs : w.heap.size = n := by simp [w]
    refine ⟨by rw [← hs]; exact e1, ?_⟩
    have e3 := congrArg (fun x : World => x.heap.back?) e2
    simpa using e3
  exact ⟨funext fun n => (key n).1, (key 0).2⟩
theorem NGo.ex {n : Next} {w : World} {R : Value → World → Prop} (h : NGo P n w R) : ∃ v w', R v w' := by
  cases n <;> simp only [NGo] at h
  case value v => exact ⟨v, w, h⟩
  case skip => exact ⟨_, w, h⟩
  case enter g a => obtain ⟨v, w', hr, _⟩ := h default []; exact ⟨v, w', hr⟩
  case round l g tt a b => obtain ⟨v, w', hr, _⟩ := h default []; exact ⟨v, w', hr⟩
theorem St.ex {o : Oper} {R : Value → Heap → Prop} {t : Array Value} {H : Heap} (h : St P D o R t H) {w : World} (hE : Emb H w) : ∃ v H', (∃ w', Emb H' w') ∧ R v H' := by
  obtain ⟨n, w1, _, h2⟩ := h w hE
  obtain ⟨v, w2, H', hF, hR⟩ := h2.ex
  exact ⟨v, H', ⟨w2, hF.emb⟩, hR⟩
theorem NE.new {G H : Heap} (h : NE G H) (ob : Obj) : ∃ b, NE ((b, ob) :: G) H := let ⟨w, hE⟩ := h; ⟨w.heap.size, _, (Fr.new hE ob).emb⟩
theorem Gd.permC {K : KK} (hK : PermC K) : PermC (Gd K) := fun t G G' H H' hg hp h hn => hK _ _ _ _ _ hg hp (h (hn.perm (hg.append hp).symm))
/-- **Two steps change places.** -/
theorem Stp.flip {x y : Kd} {oi oj : Oper} {K : KK} (hK : PermC K) (hi : sel oi = true) (hj : sel oj = true) (hap : oi.apart ops oj = true) (hf : mayFlip x y = true) {t : Array Value} {G H : Heap} (hne : NE G H)
    (h : Stp P D ops x oi (Gd (Stp P D ops y oj (Gd K))) t G H) : Stp P D ops y oj (Gd (Stp P D ops x oi (Gd K))) t G H := by
  obtain ⟨a1, a2, a3⟩ := Oper.apart_spec hap
  cases x with
  | q =>
    obtain ⟨vi, hqi, h⟩ := h
    have h := h hne
    have hqi' : ∀ u, ((Want ops oi (pu D t oj.dst u) ∧ St P D oi (fun v H2 => v = vi ∧ H2 = H) (pu D t oj.dst u) H) ∨ (¬ Want ops oi (pu D t oj.dst u) ∧ vi = undef)) := by
      intro u
      rw [Want.put a3, St.put hi a3]
      exact hqi
    cases y with
    | q =>
      obtain ⟨vj, hqj, h⟩ := h
      rw [Want.put a1, St.put hj a1] at hqj
      exact ⟨vj, hqj, fun _ => ⟨vi, hqi' vj, by rw [← pu_comm a2]; exact h⟩⟩
    | n =>
      obtain ⟨vj, hw, hqj, h⟩ := h
      rw [Want.put a1] at hw
      rw [St.put hj a1] at hqj
      exact ⟨vj, hw, hqj, fun _ => ⟨vi, hqi' vj, by rw [← pu_comm a2]; exact h⟩⟩
    | a ob => exact fun b _ => ⟨vi, hqi' _, by rw [← pu_comm a2]; exact h b⟩
    | m =>
      obtain ⟨hw, V, ob, hp, h⟩ := h
      rw [Want.put a1] at hw
      rw [Psh.put (ops := ops) hj a1] at hp
      exact ⟨hw, V, ob, hp, fun b _ => ⟨vi, hqi' _, by rw [← pu_comm a2]; exact h b⟩⟩
    | g =>
      obtain ⟨hw, h⟩ := h
      rw [Want.put a1] at hw
      rw [St.put hj a1] at h
      exact ⟨hw, h.mono fun u H' ⟨x, e, hh⟩ => ⟨x, e, fun _ => ⟨vi, hqi' u, by rw [← pu_comm a2]; exact hh⟩⟩⟩
    | s =>
      obtain ⟨hw, h⟩ := h
      rw [Want.put a1] at hw
      rw [St.put hj a1] at h
      exact ⟨hw, h.mono fun u H' hh _ => ⟨vi, hqi' u, by rw [← pu_comm a2]; exact hh⟩⟩
    | _ => cases hf
  | n =>
    obtain ⟨vi, hwi, hqi, h⟩ := h
    have h := h hne
    have hwi' : ∀ u, Want ops oi (pu D t oj.dst u) := fun u => (Want.put a3).2 hwi
    have hqi' : ∀ u, St P D oi (fun v H2 => v = vi ∧ H2 = G ++ H) (pu D t oj.dst u) (G ++ H) := fun u => (St.put hi a3).2 hqi
    cases y with
    | q =>
      obtain ⟨vj, hqj, h⟩ := h
      rw [Want.put a1, St.put hj a1] at hqj
      exact ⟨vj, hqj, fun _ => ⟨vi, hwi' vj, hqi' vj, by rw [← pu_comm a2]; exact h⟩⟩
    | n =>
      obtain ⟨vj, hw, hqj, h⟩ := h
      rw [Want.put a1] at hw
      rw [St.put hj a1] at hqj
      exact ⟨vj, hw, hqj, fun _ => ⟨vi, hwi' vj, hqi' vj, by rw [← pu_comm a2]; exact h⟩⟩
    | a ob =>
      refine fun b _ => ⟨vi, hwi' _, ?_, by rw [← pu_comm a2]; exact h b⟩
      exact ((hqi' (.pointer (some ⟨b, 0, Option.none⟩))).front [(b, ob)]).mono fun v H2 ⟨A', e1, e2, e3⟩ => ⟨e2, by rw [e1, e3]; rfl⟩
    | m =>
      obtain ⟨hw, V, ob, hp, h⟩ := h
      rw [Want.put a1] at hw
      rw [Psh.put (ops := ops) hj a1] at hp
      refine ⟨hw, V, ob, hp, fun b _ => ⟨vi, hwi' _, ?_, by rw [← pu_comm a2]; exact h b⟩⟩
      exact ((hqi' (V b)).front [(b, ob)]).mono fun v H2 ⟨A', e1, e2, e3⟩ => ⟨e2, by rw [e1, e3]; rfl⟩
    | g =>
      obtain ⟨hw, h⟩ := h
      rw [Want.put a1] at hw
      rw [St.put hj a1] at h
      refine ⟨hw, h.mono fun u H' ⟨x, e, hh⟩ => ⟨x, e, fun _ => ⟨vi, hwi' u, ?_, by rw [← pu_comm a2]; exact hh⟩⟩⟩
      rw [List.append_assoc]
      exact ((hqi' u).front x).mono fun v H2 ⟨A', e1, e2, e3⟩ => ⟨e2, by rw [e1, e3]⟩
    | _ => cases hf
  | a ob =>
    cases y with
    | a ob' =>
      intro b' _ b hn2
      rw [← pu_comm a2]
      exact Gd.permC hK _ _ _ _ _ (List.Perm.swap _ _ _) (.refl _) (h b hn2.drop2 b') hn2
    | m =>
      obtain ⟨b0, hn0⟩ := hne.new ob
      obtain ⟨hw, V, obm, hp, _⟩ := h b0 hn0
      rw [Want.put a1] at hw
      rw [Psh.put (ops := ops) hj a1] at hp
      refine ⟨hw, V, obm, hp, fun b' _ b hn2 => ?_⟩
      obtain ⟨_, V', ob', hp', hk⟩ := h b hn2.drop2
      rw [Psh.put (ops := ops) hj a1] at hp'
      obtain ⟨rfl, rfl⟩ := hp.uniq hp'
      rw [← pu_comm a2]
      exact Gd.permC hK _ _ _ _ _ (List.Perm.swap _ _ _) (.refl _) (hk b') hn2
    | _ => cases hf
  | m =>
    obtain ⟨hwi, V, ob, hpi, h⟩ := h
    cases y with
    | a ob' =>
      intro b' _
      refine ⟨(Want.put a3).2 hwi, V, ob, (Psh.put (ops := ops) hi a3).2 hpi, fun b hn2 => ?_⟩
      rw [← pu_comm a2]
      exact Gd.permC hK _ _ _ _ _ (List.Perm.swap _ _ _) (.refl _) (h b hn2.drop2 b') hn2
    | m =>
      obtain ⟨b0, hn0⟩ := hne.new ob
      obtain ⟨hw, V', ob', hp, _⟩ := h b0 hn0
      rw [Want.put a1] at hw
      rw [Psh.put (ops := ops) hj a1] at hp
      refine ⟨hw, V', ob', hp, fun b' _ => ⟨(Want.put a3).2 hwi, V, ob, (Psh.put (ops := ops) hi a3).2 hpi, fun b hn2 => ?_⟩⟩
      obtain ⟨_, V2, ob2, hp2, hk⟩ := h b hn2.drop2
      rw [Psh.put (ops := ops) hj a1] at hp2
      obtain ⟨rfl, rfl⟩ := hp.uniq hp2
      rw [← pu_comm a2]
      exact Gd.permC hK _ _ _ _ _ (List.Perm.swap _ _ _) (.refl _) (hk b') hn2
    | _ => cases hf
  | g =>
    obtain ⟨hwi, h⟩ := h
    cases y with
    | a ob =>
      intro b _
      refine ⟨(Want.put a3).2 hwi, (St.put hi a3).2 ?_⟩
      refine (h.front [(b, ob)]).outp fun v H2 ⟨A', e1, x, e2, hh⟩ => ?_
      subst e1; subst e2
      refine ⟨x ++ ((b, ob) :: G ++ H), (List.perm_middle (a := (b, ob)) (l₁ := x) (l₂ := G ++ H)).symm, x, rfl, fun hn => ?_⟩
      rw [← pu_comm a2]
      exact Gd.permC hK _ _ _ _ _ List.perm_middle.symm (.refl _) (hh hn.dropM b) hn
    | m =>
      obtain ⟨w0, hE0⟩ := hne
      obtain ⟨v0, H0, ⟨w1, hE1⟩, x0, e0, h0⟩ := h.ex hE0
      subst e0
      obtain ⟨hw, V, ob, hp, _⟩ := h0 ⟨w1, by rw [List.append_assoc]; exact hE1⟩
      rw [Want.put a1] at hw
      rw [Psh.put (ops := ops) hj a1] at hp
      refine ⟨hw, V, ob, hp, fun b _ => ⟨(Want.put a3).2 hwi, (St.put hi a3).2 ?_⟩⟩
      refine (h.front [(b, ob)]).outp fun v H2 ⟨A', e1, x, e2, hh⟩ => ?_
      subst e1; subst e2
      refine ⟨x ++ ((b, ob) :: G ++ H), (List.perm_middle (a := (b, ob)) (l₁ := x) (l₂ := G ++ H)).symm, x, rfl, fun hn => ?_⟩
      obtain ⟨_, V2, ob2, hp2, hk⟩ := hh hn.dropM
      rw [Psh.put (ops := ops) hj a1] at hp2
      obtain ⟨rfl, rfl⟩ := hp.uniq hp2
      rw [← pu_comm a2]
      exact Gd.permC hK _ _ _ _ _ List.perm_middle.symm (.refl _) (hk b) hn
    | _ => cases hf
  | s =>
    obtain ⟨hwi, h⟩ := h
    cases y with
    | a ob =>
      intro b _
      refine ⟨(Want.put a3).2 hwi, (St.put hi a3).2 ?_⟩
      refine (h.front [(b, ob)]).mono fun v H2 ⟨A', e1, hh⟩ hn => ?_
      subst e1
      rw [← pu_comm a2]
      exact hh hn.drop b hn
    | m =>
      obtain ⟨w0, hE0⟩ := hne
      obtain ⟨v0, H0, ⟨w1, hE1⟩, h0⟩ := (h.frame (B := H)).ex hE0
      obtain ⟨A0, e0, h0⟩ := h0
      subst e0
      obtain ⟨hw, V, ob, hp, _⟩ := h0 ⟨w1, hE1⟩
      rw [Want.put a1] at hw
      rw [Psh.put (ops := ops) hj a1] at hp
      refine ⟨hw, V, ob, hp, fun b _ => ⟨(Want.put a3).2 hwi, (St.put hi a3).2 ?_⟩⟩
      refine (h.front [(b, ob)]).mono fun v H2 ⟨A', e1, hh⟩ hn => ?_
      subst e1
      obtain ⟨_, V2, ob2, hp2, hk⟩ := hh hn.drop
      rw [Psh.put (ops := ops) hj a1] at hp2
      obtain ⟨rfl, rfl⟩ := hp.uniq hp2
      rw [← pu_comm a2]
      exact hk b hn
    | _ => cases hf
  | c =>
    obtain ⟨hwi, h⟩ := h
    cases y with
    | a ob =>
      intro b hnb
      refine ⟨(Want.put a3).2 hwi, (St.put hi a3).2 ?_⟩
      refine h.mono fun v H2 hh hn => ?_
      rw [← pu_comm a2]
      exact hh hn.drop b hn
    | m =>
      obtain ⟨w0, hE0⟩ := hne
      obtain ⟨v0, H0, ⟨w1, hE1⟩, A0, e0, h0⟩ := (h.front G).ex hE0
      subst e0
      obtain ⟨hw, V, ob, hp, _⟩ := h0 ⟨w1, hE1⟩
      rw [Want.put a1] at hw
      rw [Psh.put (ops := ops) hj a1] at hp
      refine ⟨hw, V, ob, hp, fun b _ => ⟨(Want.put a3).2 hwi, (St.put hi a3).2 ?_⟩⟩
      refine h.mono fun v H2 hh hn => ?_
      obtain ⟨_, V2, ob2, hp2, hk⟩ := hh hn.drop
      rw [Psh.put (ops := ops) hj a1] at hp2
      obtain ⟨rfl, rfl⟩ := hp.uniq hp2
      rw [← pu_comm a2]
      exact hk b hn
    | _ => cases hf
  | w =>
    obtain ⟨hwi, h⟩ := h
    cases y with
    | m =>
      obtain ⟨w0, hE0⟩ := hne
      obtain ⟨v0, H0, ⟨w1, hE1⟩, G0, A0, hp0, h0⟩ := h.ex hE0
      obtain ⟨hw, V, ob, hp, _⟩ := h0 ⟨w1, hE1.perm hp0⟩
      rw [Want.put a1] at hw
      rw [Psh.put (ops := ops) hj a1] at hp
      refine ⟨hw, V, ob, hp, fun b _ => ⟨(Want.put a3).2 hwi, (St.put hi a3).2 ?_⟩⟩
      refine (h.front [(b, ob)]).mono fun v H2 ⟨A', e1, G2, A2, hp2, hh⟩ => ?_
      subst e1
      refine ⟨(b, ob) :: G2, A2, hp2.cons _, fun hn => ?_⟩
      obtain ⟨_, V2, ob2, hp3, hk⟩ := hh hn.drop
      rw [Psh.put (ops := ops) hj a1] at hp3
      obtain ⟨rfl, rfl⟩ := hp.uniq hp3
      rw [← pu_comm a2]
      exact hk b hn
    | _ => cases hf

/-- The chosen order, to its end. -/
def Canon (P : Program) (D : List Deferred) (ops : Array Oper) (K : KK) : List (Kd × Oper) → KK
  | [], t, G, H => K t G H
  | (kd, o) :: l, t, G, H => Stp P D ops kd o (Gd (Canon P D ops K l)) t G H

theorem Canon.permC {K : KK} (hK : PermC K) : ∀ l, PermC (Canon P D ops K l)
  | [] => hK
  | (_, _) :: l => Stp.permC (Gd.permC (Canon.permC hK l))

/-- One that nothing ahead of it keeps back comes to the front. -/
theorem Canon.front {K : KK} (hK : PermC K) {y : Kd} {oj : Oper} (hj : sel oj = true) : ∀ (A B : List (Kd × Oper)) (t : Array Value) (G H : Heap), NE G H →
    (∀ p ∈ A, sel p.2 = true ∧ p.2.apart ops oj = true ∧ mayFlip p.1 y = true) → Canon P D ops K (A ++ (y, oj) :: B) t G H → Canon P D ops K ((y, oj) :: (A ++ B)) t G H
  | [], _, _, _, _, _, _, h => h
  | (x, oi) :: A, B, t, G, H, hne, hA, h => by
    obtain ⟨h1, h2, h3⟩ := hA _ (List.mem_cons_self ..)
    have h4 : Stp P D ops x oi (Gd (Stp P D ops y oj (Gd (Canon P D ops K (A ++ B))))) t G H :=
      Stp.mono (fun t G H hh hn => Canon.front hK hj A B t G H hn (fun p hp => hA p (List.mem_cons_of_mem _ hp)) (hh hn)) h
    exact Stp.flip (Canon.permC hK _) h1 hj h2 h3 hne h4

/-- A step of the machine, for a step of the order. -/
theorem Stp.good {kd : Kd} {o : Oper} {i : Nat} {is : List Nat} (hi : ops[i]? = some o) (hdef : ∀ c, o.op ≠ .defer c) (ha : ∀ ob, kd = .a ob → o.guard = Option.none ∧ ∀ (t : Array Value) (w : World), (execOp (Act.eval ⟨t, D⟩) o).run P w = .ok (.value (.pointer (some ⟨w.heap.size, 0, Option.none⟩))) { w with heap := w.heap.push ob })
    {t : Array Value} {G H : Heap} (h : Stp P D ops kd o (Gd (Good P f ro D Q (.inRegion ops is :: k))) t G H) : Good P f ro D Q (.inRegion ops (i :: is) :: k) t G H := by
  replace h : Stp P D ops kd o (Good P f ro D Q (.inRegion ops is :: k)) t G H := Stp.mono (fun t G H hh w cs hE => hh ⟨w, hE⟩ w cs hE) h
  intro w cs hE
  have hfin : ∀ v, ((bas f ro).atR ⟨t, D⟩ (.inRegion ops (i :: is) :: k)).finish v = (bas f ro).atR (Act.put ⟨t, D⟩ o.dst v) (.inRegion ops is :: k) := by
    intro v; rw [Frame.finish_atR, hi]; rfl
  have key : ∀ v w' G' H', Fr (G ++ H) w (G' ++ H') w' → Good P f ro D Q (.inRegion ops is :: k) (pu D t o.dst v) G' H' →
      Steps P (lone ((bas f ro).atR ⟨t, D⟩ (.inRegion ops (i :: is) :: k)) cs w) (lone ((bas f ro).atR (Act.put ⟨t, D⟩ o.dst v) (.inRegion ops is :: k)) cs w') →
      ∃ o w' m' H', Q o H' ∧ Fr (G ++ H) w H' w' ∧ Steps P (lone ((bas f ro).atR ⟨t, D⟩ (.inRegion ops (i :: is) :: k)) cs w) m' ∧ Fin P f ro cs w' m' o := by
    intro v w' G' H' hF hg hs
    rw [put_defers] at hs
    obtain ⟨oo, w2, m2, H2, hq, hF2, hs2, hfi⟩ := hg w' cs hF.emb
    exact ⟨oo, w2, m2, H2, hq, hF.trans hF2, hs.trans hs2, hfi⟩
  have run : ∀ (R : Value → Heap → Prop), Want ops o t → St P D o R t (G ++ H) → (∀ v H', R v H' → ∃ G2 H2, H'.Perm (G2 ++ H2) ∧ Good P f ro D Q (.inRegion ops is :: k) (pu D t o.dst v) G2 H2) →
      ∃ o w' m' H', Q o H' ∧ Fr (G ++ H) w H' w' ∧ Steps P (lone ((bas f ro).atR ⟨t, D⟩ (.inRegion ops (i :: is) :: k)) cs w) m' ∧ Fin P f ro cs w' m' o := by
    intro R hw hst hgood
    have hg := stepGR_op (P := P) (b := bas f ro) (a := ⟨t, D⟩) (k := k) (cs := cs) (w := w) (rest := is) hi hw
    rw [Oper.semAt_eq _ _ _ hdef] at hg
    obtain ⟨n, w1, hr, hn⟩ := hst w hE
    cases n <;> simp only [NGo] at hn
    case value v =>
      obtain ⟨H', hF, hR⟩ := hn
      obtain ⟨G2, H2, hp, hR⟩ := hgood v H' hR
      refine key v w1 G2 H2 (hF.perm (.refl _) hp) hR (.one (step_lone_go ?_))
      rw [hg, ← hfin]; simp [stepG.apply, hr]
    case skip =>
      obtain ⟨H', hF, hR⟩ := hn
      obtain ⟨G2, H2, hp, hR⟩ := hgood undef H' hR
      refine key undef w1 G2 H2 (hF.perm (.refl _) hp) hR (.one (step_lone_go ?_))
      rw [hg, ← hfin]; simp [stepG.apply, hr]
    case enter g args =>
      obtain ⟨v, w', ⟨H', hF, hR⟩, hs⟩ := hn ((bas f ro).atR ⟨t, D⟩ (.inRegion ops (i :: is) :: k)) cs
      obtain ⟨G2, H2, hp, hR⟩ := hgood v H' hR
      refine key v w' G2 H2 (hF.perm (.refl _) hp) hR (.head (step_lone_go ?_) (by rw [← hfin]; exact hs))
      rw [hg]; simp [stepG.apply, hr, Frame.atR]
    case round l g tmps assign body =>
      obtain ⟨v, w', ⟨H', hF, hR⟩, hs⟩ := hn ((bas f ro).atR ⟨t, D⟩ (.inRegion ops (i :: is) :: k)) cs
      obtain ⟨G2, H2, hp, hR⟩ := hgood v H' hR
      refine key v w' G2 H2 (hF.perm (.refl _) hp) hR (.head (step_lone_go ?_) (by rw [← hfin]; exact hs))
      rw [hg]; simp [stepG.apply, hr, Frame.atR]
  cases kd with
  | q =>
    obtain ⟨v, hq, hg⟩ := h
    rcases hq with ⟨hw, hst⟩ | ⟨hw, rfl⟩
    · exact run _ hw (hst.front G) (fun u H' ⟨A', e1, e2, e3⟩ => by subst e1; subst e2; subst e3; exact ⟨G, _, .refl _, hg⟩)
    · have hs := stepR_op_skip (P := P) (b := bas f ro) (a := ⟨t, D⟩) (k := k) (cs := cs) (w := w) (ops := ops) (i := i) (rest := is)
        (by simp only [hi, Option.map_some, Option.getD_some]; simpa [Want] using hw)
      simp only [hi, Option.bind_some] at hs
      exact key undef w G H (Fr.refl hE) hg (.one hs)
  | n =>
    obtain ⟨v, hw, hst, hg⟩ := h
    exact run _ hw hst (fun u H' ⟨e2, e3⟩ => by subst e2; subst e3; exact ⟨G, H, .refl _, hg⟩)
  | a ob =>
    obtain ⟨h1, h2⟩ := ha ob rfl
    exact run (fun v H' => ∃ b, v = .pointer (some ⟨b, 0, Option.none⟩) ∧ H' = (b, ob) :: (G ++ H)) (by simp [Want, Region.wanted, h1])
      (fun w hE => ⟨_, _, h2 t w, (w.heap.size, ob) :: (G ++ H), Fr.new hE ob, w.heap.size, rfl, rfl⟩) (fun v H' hR => by obtain ⟨b, rfl, rfl⟩ := hR; exact ⟨(b, ob) :: G, H, .refl _, h b⟩)
  | g => exact run _ h.1 h.2 (fun v H' ⟨x, e, hR⟩ => by subst e; exact ⟨x ++ G, H, by rw [List.append_assoc], hR⟩)
  | s => exact run _ h.1 h.2.frame (fun v H' ⟨A', e, hR⟩ => by subst e; exact ⟨A', H, .refl _, hR⟩)
  | c => exact run _ h.1 (h.2.front G) (fun v H' ⟨A', e, hR⟩ => by subst e; exact ⟨G, A', .refl _, hR⟩)
  | m =>
    obtain ⟨h1, V, ob, h2, h3⟩ := h
    exact run (fun v H' => ∃ b, v = V b ∧ H' = (b, ob) :: (G ++ H)) h1 (fun w hE => ⟨_, _, h2 w, (w.heap.size, ob) :: (G ++ H), Fr.new hE ob, w.heap.size, rfl, rfl⟩) (fun v H' hR => by obtain ⟨b, rfl, rfl⟩ := hR; exact ⟨(b, ob) :: G, H, .refl _, h3 b⟩)
  | w => exact run _ h.1 h.2 (fun v H' hR => hR)

/-! ### The check -/
/-- Operation j waits for operation i. -/
inductive Anc (ops : Array Oper) : Nat → Nat → Prop
  | dir {j : Nat} {o : Oper} {e : Edge} : ops[j]? = some o → e ∈ o.after → Region.binds .any e = true → Anc ops e.on j
  | step {i j : Nat} {o : Oper} {e : Edge} : ops[j]? = some o → e ∈ o.after → Region.binds .any e = true → Anc ops i e.on → Anc ops i j
/-- All for which an operation waits, as the bits of a number. -/
def maskE (ms : List Nat) : List Edge → Nat
  | [] => 0
  | e :: r => bif Region.binds .any e then Nat.lor (Nat.lor (Nat.shiftLeft 1 e.on) (ms.getD e.on 0)) (maskE ms r) else maskE ms r
def masksL : List Oper → List Nat → List Nat
  | [], ms => ms
  | o :: r, ms => masksL r (ms ++ [maskE ms o.after.toList])
theorem maskE_bit (ms : List Nat) (i : Nat) : ∀ l : List Edge, (maskE ms l).testBit i = true → ∃ e ∈ l, Region.binds .any e = true ∧ (e.on = i ∨ (ms.getD e.on 0).testBit i = true)
  | [], h => by simp [maskE] at h
  | e :: r, h => by
    unfold maskE at h
    cases hb : Region.binds .any e with
    | false =>
      rw [hb] at h
      obtain ⟨e', h1, h2⟩ := maskE_bit ms i r h
      exact ⟨e', by simp [h1], h2⟩
    | true =>
      rw [hb] at h
      have h : ((1 <<< e.on ||| ms.getD e.on 0) ||| maskE ms r).testBit i = true := h
      rw [Nat.testBit_or, Nat.testBit_or, Bool.or_eq_true, Bool.or_eq_true] at h
      rcases h with (h | h) | h
      · refine ⟨e, by simp, hb, .inl ?_⟩
        rw [Nat.one_shiftLeft, Nat.testBit_two_pow] at h
        simpa using h
      · exact ⟨e, by simp, hb, .inr h⟩
      · obtain ⟨e', h1, h2⟩ := maskE_bit ms i r h
        exact ⟨e', by simp [h1], h2⟩
theorem masks_anc (ops : Array Oper) : ∀ (r : List Oper) (pre : List Oper) (ms : List Nat), ops.toList = pre ++ r → ms.length = pre.length → (∀ i j, (ms.getD j 0).testBit i = true → Anc ops i j) → ∀ i j, ((masksL r ms).getD j 0).testBit i = true → Anc ops i j
  | [], _, _, _, _, h => h
  | o :: r, pre, ms, he, hl, h => by
    refine masks_anc ops r (pre ++ [o]) (ms ++ [maskE ms o.after.toList]) (by rw [he]; simp) (by simp [hl]) fun i j hb => ?_
    by_cases hj : j < ms.length
    · rw [List.getD_eq_getElem?_getD, List.getElem?_append_left hj, ← List.getD_eq_getElem?_getD] at hb
      exact h i j hb
    · by_cases hj2 : j = ms.length
      · subst hj2
        rw [List.getD_eq_getElem?_getD, List.getElem?_append_right (Nat.le_refl _)] at hb
        simp only [Nat.sub_self, List.getElem?_cons_zero, Option.getD_some] at hb
        have ho : ops[ms.length]? = some o := by
          rw [← Array.getElem?_toList, he, hl, List.getElem?_append_right (Nat.le_refl _)]; simp
        obtain ⟨e, h1, h2, h3⟩ := maskE_bit ms i _ hb
        rcases h3 with rfl | h3
        · exact .dir ho (by simpa using h1) h2
        · exact .step ho (by simpa using h1) h2 (h i e.on h3)
      · rw [List.getD_eq_getElem?_getD, List.getElem?_append_right (by omega), List.getElem?_eq_none (by simp; omega)] at hb
        simp at hb

def pairOk (ops : Array Oper) (ms : List Nat) (x y : Kd × Nat) : Bool :=
  (match ops[x.2]?, ops[y.2]? with | some oi, some oj => mayFlip x.1 y.1 && oi.apart ops oj | _, _ => false) || Nat.testBit (ms.getD y.2 0) x.2

def pairsOk (ops : Array Oper) (ms : List Nat) : List (Kd × Nat) → Bool
  | [] => true
  | x :: l => l.all (pairOk ops ms x) && pairsOk ops ms l

def drawOk (ops : Array Oper) (l : List (Kd × Nat)) : Bool :=
  (ops.toList.zipIdx.all fun p => p.1.after.all (fun e => !Region.binds .any e || Nat.blt e.on p.2) && sel p.1 && (match p.1.op with | .defer _ => false | _ => true)) &&
  (List.range ops.size).all (fun i => (l.map (·.2)).contains i) && (decide (l.map (·.2)).Nodup && l.all (fun p => Nat.blt p.2 ops.size)) && pairsOk ops (masksL ops.toList []) l

structure Inv (ops : Array Oper) (listed : Array Bool) : Prop where
  size : listed.size = ops.size
  closed : ∀ j oj, ops[j]? = some oj → listed.getD j false = true → ∀ e ∈ oj.after, Region.binds .any e = true → listed.getD e.on false = true

theorem getD_b {listed : Array Bool} {i : Nat} (hi : i < listed.size) : listed.getD i true = listed.getD i false := by simp [Array.getD, hi]

theorem anc_listed {listed : Array Bool} (inv : Inv ops listed) {i j : Nat} (h : Anc ops i j) : (∀ oj, ops[j]? = some oj → ∀ e ∈ oj.after, Region.binds .any e = true → listed.getD e.on false = true) → listed.getD i false = true := by
  induction h with
  | dir ho he hb => exact fun hj => hj _ ho _ he hb
  | step ho he hb _ ih => exact fun hj => ih fun oj hoj => inv.closed _ oj hoj (hj _ ho _ he hb)

theorem pairsOk_split {n : List Nat} : ∀ (A : List (Kd × Nat)) (y : Kd × Nat) (B : List (Kd × Nat)), pairsOk ops n (A ++ y :: B) = true → (∀ x ∈ A, pairOk ops n x y = true) ∧ pairsOk ops n (A ++ B) = true
  | [], y, B, h => by simp only [List.nil_append, pairsOk, Bool.and_eq_true] at h; exact ⟨(fun x hx => by cases hx), h.2⟩
  | x :: A, y, B, h => by
    simp only [List.cons_append, pairsOk, Bool.and_eq_true, List.all_eq_true] at h
    obtain ⟨h1, h2⟩ := pairsOk_split A y B h.2
    refine ⟨fun z hz => ?_, ?_⟩
    · rcases List.mem_cons.1 hz with rfl | hz
      · exact h.1 y (by simp)
      · exact h1 z hz
    · simp only [List.cons_append, pairsOk, Bool.and_eq_true, List.all_eq_true]
      refine ⟨fun z hz => h.1 z ?_, h2⟩
      rcases List.mem_append.1 hz with hz | hz
      · exact List.mem_append_left _ hz
      · exact List.mem_append_right _ (List.mem_cons_of_mem _ hz)

theorem nodup_len : ∀ {l l' : List Nat}, l.Nodup → (∀ i ∈ l, i ∈ l') → l.length ≤ l'.length
  | [], _, _, _ => by simp
  | x :: l, l', h, hs => by
    have hx := hs x (by simp)
    obtain ⟨h1, h2⟩ := List.nodup_cons.1 h
    have h3 := nodup_len (l := l) (l' := l'.erase x) h2 (fun i hi => (List.mem_erase_of_ne (by rintro rfl; exact h1 hi)).2 (hs i (List.mem_cons_of_mem _ hi)))
    rw [List.length_erase_of_mem hx] at h3
    have : 0 < l'.length := List.length_pos_of_mem hx
    simp; omega

/-- The operations of the chosen order. -/
def oseq (ops : Array Oper) (l : List (Kd × Nat)) : List (Kd × Oper) := l.filterMap fun p => (ops[p.2]?).map fun o => (p.1, o)

theorem Good.of_ne {t : Array Value} {G H : Heap} (h : NE G H → Good P f ro D Q k t G H) : Good P f ro D Q k t G H := fun w cs hE => h ⟨w, hE⟩ w cs hE

theorem draw_go {Al : Nat → Obj → Prop} (hsel : ∀ (j : Nat) (o : Oper), ops[j]? = some o → sel o = true ∧ (∀ c, o.op ≠ .defer c) ∧ ∀ e ∈ o.after, Region.binds .any e = true → e.on < j)
    (hAl : ∀ (j : Nat) (o : Oper) (ob : Obj), Al j ob → ops[j]? = some o → o.guard = Option.none ∧ ∀ (t : Array Value) (w : World), (execOp (Act.eval ⟨t, D⟩) o).run P w = .ok (.value (.pointer (some ⟨w.heap.size, 0, Option.none⟩))) { w with heap := w.heap.push ob })
    (hG : PermC (Good P f ro D Q (.inRegion ops [] :: k))) {ms : List Nat} (hms : ∀ i j, (ms.getD j 0).testBit i = true → Anc ops i j) :
    ∀ (fuel tp : Nat) (listed : Array Bool) (l : List (Kd × Nat)) (t : Array Value) (G H : Heap), Inv ops listed → l.length = fuel → (l.map (·.2)).Nodup → (∀ j, j ∈ l.map (·.2) ↔ (j < ops.size ∧ listed.getD j false = false)) →
      (∀ j ob, (Kd.a ob, j) ∈ l → Al j ob) → pairsOk ops ms l = true → Canon P D ops (Good P f ro D Q (.inRegion ops [] :: k)) (oseq ops l) t G H →
      Good P f ro D Q (.inRegion ops (Region.linearise.go .any ops fuel tp listed []) :: k) t G H := by
  intro fuel
  induction fuel with
  | zero =>
    intro tp listed l t G H _ hlen _ _ _ _ h
    have : l = [] := List.length_eq_zero_iff.1 hlen
    subst this
    simpa [Region.linearise.go, oseq, Canon] using h
  | succ fuel ih =>
    intro tp listed l t G H inv hlen hnd hmem hal hpo h
    simp only [Region.linearise.go]
    change Good P f ro D Q (.inRegion ops (match (Region.ready .any ops listed)[tp % (Region.ready .any ops listed).length]? with
      | some i => Region.linearise.go .any ops fuel (tp / (Region.ready .any ops listed).length) (listed.setIfInBounds i true) [i]
      | Option.none => [].reverse) :: k) t G H
    cases hi : (Region.ready .any ops listed)[tp % (Region.ready .any ops listed).length]? with
    | none =>
      exfalso
      have hnil : Region.ready .any ops listed = [] := by
        cases hr : Region.ready .any ops listed with
        | nil => rfl
        | cons x xs =>
          rw [hr] at hi
          have hlt : tp % (x :: xs).length < (x :: xs).length := Nat.mod_lt _ (by simp)
          simp at hi
          simp at hlt
          omega
      -- the least one that is not listed is ready
      have key : ∀ m, ∀ j, j < m → j ∈ l.map (·.2) → False := by
        intro m
        induction m with
        | zero => intro j hj; omega
        | succ m ihm =>
          intro j hj hjl
          obtain ⟨h1, h2⟩ := (hmem j).1 hjl
          obtain ⟨o, ho⟩ : ∃ o, ops[j]? = some o := ⟨ops[j], by simp [h1]⟩
          have hrd : j ∈ Region.ready .any ops listed := by
            refine mem_ready.2 ⟨by rw [getD_b (by rw [inv.size]; exact h1)]; exact h2, o, ho, fun e he hb => ?_⟩
            have hlt := (hsel j o ho).2.2 e he hb
            cases hl : listed.getD e.on false with
            | true => rfl
            | false => exact (ihm e.on (by omega) ((hmem e.on).2 ⟨by omega, hl⟩)).elim
          rw [hnil] at hrd; cases hrd
      cases l with
      | nil => simp at hlen
      | cons p l => exact key (p.2 + 1) p.2 (by omega) (by simp)
    | some i =>
      simp only []
      rw [linearise_go_acc, List.reverse_singleton, List.singleton_append]
      have hrd : i ∈ Region.ready .any ops listed := List.mem_of_getElem? hi
      obtain ⟨hun, oi, hoi, hall⟩ := mem_ready.1 hrd
      have hlt : i < ops.size := (Array.getElem?_eq_some_iff.1 hoi).1
      have hil : i ∈ l.map (·.2) := (hmem i).2 ⟨hlt, by rw [← getD_b (by rw [inv.size]; exact hlt)]; exact hun⟩
      obtain ⟨⟨kd, i'⟩, hp, rfl⟩ := List.mem_map.1 hil
      obtain ⟨A, B, rfl⟩ := List.append_of_mem hp
      obtain ⟨hpa, hpo'⟩ := pairsOk_split A _ B hpo
      have hoA : oseq ops (A ++ (kd, i') :: B) = oseq ops A ++ (kd, oi) :: oseq ops B := by simp [oseq, List.filterMap_append, hoi]
      rw [hoA] at h
      refine Good.of_ne fun hne => ?_
      have hfront := Canon.front hG (hsel i' oi hoi).1 (oseq ops A) (oseq ops B) t G H hne (by
        rintro ⟨x, o⟩ hpx
        obtain ⟨⟨x', j⟩, hj, hj2⟩ := List.mem_filterMap.1 hpx
        simp only [Option.map_eq_some_iff, Prod.mk.injEq] at hj2
        obtain ⟨o', ho', rfl, rfl⟩ := hj2
        refine ⟨(hsel j o' ho').1, ?_⟩
        have hok := hpa _ hj
        have hjl : j ∈ (A ++ (kd, i') :: B).map (·.2) := List.mem_map.2 ⟨(x', j), List.mem_append_left _ hj, rfl⟩
        have hjun := ((hmem j).1 hjl).2
        simp only [pairOk, Bool.or_eq_true, ho', hoi, Bool.and_eq_true] at hok
        rcases hok with hok | hok
        · exact ⟨hok.2, hok.1⟩
        · have := anc_listed inv (hms _ _ hok) (fun oj hoj e he hb => by
            have : oj = oi := Option.some.inj (hoj.symm.trans hoi)
            subst this; exact hall e he hb)
          rw [hjun] at this; cases this) h
      have hoAB : oseq ops A ++ oseq ops B = oseq ops (A ++ B) := by simp [oseq, List.filterMap_append]
      rw [hoAB] at hfront
      refine Stp.good hoi (hsel i' oi hoi).2.1 (fun ob (e : kd = Kd.a ob) => hAl i' oi ob (hal i' ob (by subst e; exact hp)) hoi) ?_
      refine Stp.mono (fun t' G' H' hc0 _ => Good.of_ne fun hne' => ?_) hfront
      have hc := hc0 hne'
      have hnd' : ((A ++ B).map (·.2)).Nodup ∧ i' ∉ (A ++ B).map (·.2) := by
        simp only [List.map_append, List.map_cons] at hnd ⊢
        have hp : (A.map (·.2) ++ i' :: B.map (·.2)).Perm (i' :: (A.map (·.2) ++ B.map (·.2))) := List.perm_middle
        have := hp.nodup_iff.1 hnd
        rw [List.nodup_cons] at this
        exact ⟨this.2, this.1⟩
      refine ih _ _ (A ++ B) t' G' H' ⟨by simp [inv.size], fun j oj hj hl e he hb => ?_⟩ (by simp at hlen ⊢; omega) hnd'.1 (fun j => ?_) (fun j ob hm => hal j ob ?_) hpo' hc
      · by_cases hij : i' = j
        · subst hij
          have : oj = oi := Option.some.inj (hj.symm.trans hoi)
          subst this
          exact getD_set_true (hall e he hb)
        · rw [getD_set_ne false hij] at hl
          exact getD_set_true (inv.closed j oj hj hl e he hb)
      · have h0 := hmem j
        by_cases hij : i' = j
        · subst hij
          refine ⟨fun hm => (hnd'.2 hm).elim, fun hm => ?_⟩
          have : (listed.setIfInBounds i' true).getD i' false = true := by
            have hs : i' < listed.size := by rw [inv.size]; exact hlt
            simp [Array.getD, hs]
          rw [this] at hm; cases hm.2
        · rw [getD_set_ne false hij, ← h0]
          simp only [List.map_append, List.map_cons, List.mem_append, List.mem_cons]
          constructor
          · rintro (h1 | h1)
            · exact .inl h1
            · exact .inr (.inr h1)
          · rintro (h1 | h1 | h1)
            · exact .inl h1
            · exact absurd h1.symm hij
            · exact .inr h1
      · rcases List.mem_append.1 hm with hm | hm
        · exact List.mem_append_left _ hm
        · exact List.mem_append_right _ (List.mem_cons_of_mem _ hm)

/-! ### In the walk's form -/
/-- What remains of the chosen order. -/
def VD (P : Program) (f : FuncId) (ro : Option Nat) (N : Nat) (ops : Array Oper) (l : List (Kd × Oper)) (k : List Item) (E : Env) (D : List Deferred) (G H : Heap) (Q : Out → Heap → Prop) : Prop :=
  ∀ t, Agree N E t → Canon P D ops (Good P f ro D Q (.inRegion ops [] :: k)) l t G H

variable {E : Env} {G H : Heap} {l : List (Kd × Oper)}

theorem Good.permC : PermC (Good P f ro D Q k) := fun _ _ _ _ _ hg hp h w cs hE =>
  let ⟨o, w', m', H2, q, fr, r⟩ := h w cs (hE.perm (hg.append hp).symm); ⟨o, w', m', H2, q, fr.perm (hg.append hp) (.refl _), r⟩

def allocOk (P : Program) (ops : Array Oper) : List (Kd × Nat) → Prop
  | [] => True
  | (.a ob, i) :: l => (∃ d T ty pos af, ops[i]? = some ⟨d, .alloc T, ty, pos, af, Option.none⟩ ∧ ∃ zs, TZe P T zs ∧ ob = blk zs T) ∧ allocOk P ops l
  | (.q, _) :: l => allocOk P ops l
  | (.n, _) :: l => allocOk P ops l
  | (.m, _) :: l => allocOk P ops l
  | (.g, _) :: l => allocOk P ops l
  | (.s, _) :: l => allocOk P ops l
  | (.c, _) :: l => allocOk P ops l
  | (.w, _) :: l => allocOk P ops l
theorem allocOk_mem {ob : Obj} {j : Nat} : ∀ l : List (Kd × Nat), allocOk P ops l → (Kd.a ob, j) ∈ l → ∃ d T ty pos af, ops[j]? = some ⟨d, .alloc T, ty, pos, af, Option.none⟩ ∧ ∃ zs, TZe P T zs ∧ ob = blk zs T
  | [], _, h => by cases h
  | (kd, i) :: l, h, hm => by
    rcases List.mem_cons.1 hm with e | hm
    · cases e; exact h.1
    · refine allocOk_mem l ?_ hm
      cases kd <;> first | exact h | exact h.2

theorem vdrawP {id : Nat} {lo : List Oper} {G0 H0 : Heap} (hp : H.Perm (G0 ++ H0)) (π : List (Kd × Nat)) (hm : P.follows .mixedOrders = true) (hok : drawOk lo.toArray π = true) (hal : allocOk P lo.toArray π)
    (h : VD P f ro N lo.toArray (oseq lo.toArray π) k E D G0 H0 Q) : VRun P f ro N (.code (.region id lo.toArray true) :: k) E D H Q := by
  refine VRun.perm hp ?_
  simp only [drawOk, Bool.and_eq_true] at hok
  obtain ⟨⟨⟨h1, h2⟩, h3⟩, h4⟩ := hok
  obtain ⟨h3, h3'⟩ := h3
  have hcont : ∀ i, i < lo.toArray.size → i ∈ π.map (·.2) := fun i hi => by
    have := List.all_eq_true.1 h2 i (List.mem_range.2 hi)
    simpa using this
  have hnd : (π.map (·.2)).Nodup := of_decide_eq_true h3
  have hbd : ∀ i, i ∈ π.map (·.2) → i < lo.toArray.size := fun i hi => by
    obtain ⟨p, hp, rfl⟩ := List.mem_map.1 hi
    exact Nat.le_of_ble_eq_true (List.all_eq_true.1 h3' p hp)
  have hlen : π.length = lo.toArray.size := by
    have h1 : (π.map (·.2)).length ≤ (List.range lo.toArray.size).length := nodup_len hnd fun i hi => List.mem_range.2 (hbd i hi)
    have h2 : (List.range lo.toArray.size).length ≤ (π.map (·.2)).length := nodup_len List.nodup_range fun i hi => hcont i (List.mem_range.1 hi)
    simp at h1 h2
    simp; omega
  have hsel : ∀ (j : Nat) (o : Oper), lo.toArray[j]? = some o → sel o = true ∧ (∀ c, o.op ≠ .defer c) ∧ ∀ e ∈ o.after, Region.binds .any e = true → e.on < j := by
    intro j o ho
    have hz : (o, j) ∈ lo.toArray.toList.zipIdx := by
      rw [List.mem_zipIdx_iff_getElem?]
      simpa using ho
    have := List.all_eq_true.1 h1 _ hz
    simp only [Bool.and_eq_true] at this
    obtain ⟨⟨g1, g2⟩, g3⟩ := this
    refine ⟨g2, fun c e => by simp [e] at g3, fun e he hb => ?_⟩
    have := Array.all_eq_true_iff_forall_mem.1 g1 e he
    simp only [hb, Bool.not_true, Bool.false_or] at this
    exact Nat.le_of_ble_eq_true this
  intro t w cs hA hE
  have hgo := draw_go (P := P) (f := f) (ro := ro) (D := D) (Q := Q) (k := k) (ops := lo.toArray) (Al := fun j ob => (Kd.a ob, j) ∈ π) hsel (fun j o ob hj ho => by
      obtain ⟨d, T, ty, pos, af, ho', zs, hT, rfl⟩ := allocOk_mem _ hal hj
      have : o = ⟨d, .alloc T, ty, pos, af, Option.none⟩ := Option.some.inj (ho.symm.trans ho')
      subst this
      refine ⟨rfl, fun t w => ?_⟩
      obtain ⟨z, hz, hzr⟩ := hT.zero
      simp [execOp, Instr.alloc, hzr, run_newVar, hz, blk]) Good.permC (masks_anc lo.toArray lo [] [] (by simp) rfl (fun i j h => by simp at h))
    lo.toArray.size (w.tape w.drawn (.order f id)) (Array.replicate lo.toArray.size false) π t G0 H0
    ⟨by simp, fun j oj _ hl => by
      have : (Array.replicate lo.toArray.size false).getD j false = false := by
        rcases Nat.lt_or_ge j lo.toArray.size with h | h <;> simp [Array.getD, h]
      rw [this] at hl; cases hl⟩ hlen hnd (fun j => by
      have : (Array.replicate lo.toArray.size false).getD j false = false := by
        rcases Nat.lt_or_ge j lo.toArray.size with h | h <;> simp [Array.getD, h]
      rw [this]; exact ⟨fun h => ⟨hbd j h, rfl⟩, fun h => hcont j h.1⟩) (fun j ob hj => hj) h4 (h t hA)
  have hstep := stepR_region_draw (P := P) (b := bas f ro) (a := ⟨t, D⟩) (k := k) (cs := cs) (w := w) (ops := lo.toArray) (id := id)
  have hF : Fr (G0 ++ H0) w (G0 ++ H0) { w with drawn := w.drawn + 1 } := ⟨rfl, rfl, rfl, Nat.le_refl _, fun _ _ _ => rfl, ⟨hE.nodup, hE.at_⟩, fun e he => .inl (List.mem_map.2 ⟨e, he, rfl⟩)⟩
  have hsched : Region.schedule (P.follows .mixedOrders) lo.toArray (w.tape w.drawn (.order (bas f ro).fn id)) = Region.linearise.go .any lo.toArray lo.toArray.size (w.tape w.drawn (.order f id)) (Array.replicate lo.toArray.size false) [] := by
    simp only [Region.schedule, hm, Bool.true_or, if_true, Region.linearise]
    rfl
  rw [hsched] at hstep
  obtain ⟨o, w', m', H', hq, hF2, hs, hfin⟩ := hgo { w with drawn := w.drawn + 1 } cs hF.emb
  exact ⟨o, w', m', H', hq, hF.trans hF2, .head hstep hs, hfin⟩

theorem vdraw {id : Nat} {lo : List Oper} (π : List (Kd × Nat)) (hm : P.follows .mixedOrders = true) (hok : drawOk lo.toArray π = true) (hal : allocOk P lo.toArray π)
    (h : VD P f ro N lo.toArray (oseq lo.toArray π) k E D [] H Q) : VRun P f ro N (.code (.region id lo.toArray true) :: k) E D H Q := vdrawP (G0 := []) (.refl _) π hm hok hal h

/-- A block, and the others. -/
class HOut (H : Heap) (b : Nat) (o : outParam Obj) (H0 : outParam Heap) : Prop where
  perm : H.Perm ((b, o) :: H0)
instance HOut.head {H : Heap} {b : Nat} {o : Obj} : HOut ((b, o) :: H) b o H := ⟨.refl _⟩
instance (priority := low) HOut.tail {x : Nat × Obj} {H H0 : Heap} {b : Nat} {o : Obj} [h : HOut H b o H0] : HOut (x :: H) b o (x :: H0) := ⟨(h.perm.cons x).trans (List.Perm.swap _ _ _)⟩
/-- Blocks of older variables, to which this region stores, are put with its own. -/
theorem vdraw1 {id d b : Nat} {lo : List Oper} {o : Obj} {H1 : Heap} (hd : look E d = some (.pointer (some ⟨b, 0, Option.none⟩))) [h1 : HOut H b o H1] (π : List (Kd × Nat)) (hm : P.follows .mixedOrders = true) (hok : drawOk lo.toArray π = true) (hal : allocOk P lo.toArray π)
    (h : VD P f ro N lo.toArray (oseq lo.toArray π) k E D [(b, o)] H1 Q) : VRun P f ro N (.code (.region id lo.toArray true) :: k) E D H Q := vdrawP (G0 := [(b, o)]) h1.perm π hm hok hal h
theorem vdraw2 {id d d' b b' : Nat} {lo : List Oper} {o o' : Obj} {H1 H2 : Heap} (hd : look E d = some (.pointer (some ⟨b, 0, Option.none⟩))) (hd' : look E d' = some (.pointer (some ⟨b', 0, Option.none⟩))) [h1 : HOut H b o H1] [h2 : HOut H1 b' o' H2] (π : List (Kd × Nat)) (hm : P.follows .mixedOrders = true) (hok : drawOk lo.toArray π = true) (hal : allocOk P lo.toArray π)
    (h : VD P f ro N lo.toArray (oseq lo.toArray π) k E D [(b, o), (b', o')] H2 Q) : VRun P f ro N (.code (.region id lo.toArray true) :: k) E D H Q := vdrawP (G0 := [(b, o), (b', o')]) (h1.perm.trans (h2.perm.cons _)) π hm hok hal h
theorem vdraw3 {id d d' d'' b b' b'' : Nat} {lo : List Oper} {o o' o'' : Obj} {H1 H2 H3 : Heap} (hd : look E d = some (.pointer (some ⟨b, 0, Option.none⟩))) (hd' : look E d' = some (.pointer (some ⟨b', 0, Option.none⟩))) (hd'' : look E d'' = some (.pointer (some ⟨b'', 0, Option.none⟩))) [h1 : HOut H b o H1] [h2 : HOut H1 b' o' H2] [h3 : HOut H2 b'' o'' H3] (π : List (Kd × Nat)) (hm : P.follows .mixedOrders = true) (hok : drawOk lo.toArray π = true) (hal : allocOk P lo.toArray π)
    (h : VD P f ro N lo.toArray (oseq lo.toArray π) k E D [(b, o), (b', o'), (b'', o'')] H3 Q) : VRun P f ro N (.code (.region id lo.toArray true) :: k) E D H Q := vdrawP (G0 := [(b, o), (b', o'), (b'', o'')]) (h1.perm.trans ((h2.perm.trans (h3.perm.cons _)).cons _)) π hm hok hal h

def noAlloc : List (Kd × Nat) → Bool
  | [] => true
  | (.a _, _) :: _ => false
  | _ :: l => noAlloc l
theorem allocOk_of : ∀ l : List (Kd × Nat), noAlloc l = true → allocOk P ops l
  | [], _ => True.intro
  | (kd, i) :: l, h => by
    cases kd <;> first | (simp [noAlloc] at h; done) | exact allocOk_of l (by simpa [noAlloc] using h)
theorem vdraw0 {id : Nat} {lo : List Oper} (π : List (Kd × Nat)) (hm : P.follows .mixedOrders = true) (hok : drawOk lo.toArray π = true) (hal : noAlloc π = true)
    (h : VD P f ro N lo.toArray (oseq lo.toArray π) k E D [] H Q) : VRun P f ro N (.code (.region id lo.toArray true) :: k) E D H Q := vdraw π hm hok (allocOk_of π hal) h

/-! ### Its rules -/
theorem vdnil (h : VRun P f ro N (.inRegion ops [] :: k) E D (G ++ H) Q) : VD P f ro N ops [] k E D G H Q := fun t hA w cs hE => h t w cs hA hE
def appHO : Heap → Heap → Option Heap
  | [], ys => some ys
  | x :: xs, ys => match appHO xs ys with | some l => some (x :: l) | Option.none => Option.none
theorem appHO_eq : ∀ (xs ys l : Heap), appHO xs ys = some l → xs ++ ys = l
  | [], ys, l, h => by simp [appHO] at h; simp [h]
  | x :: xs, ys, l, h => by
    simp only [appHO] at h
    split at h
    · rename_i m hm; cases h; simp [appHO_eq xs ys m hm]
    · cases h
theorem vdend {M : Heap} (hM : appHO G H = some M) (h : VRun P f ro N k E D M Q) : VD P f ro N ops [] k E D G H Q := vdnil (vregend (by rw [appHO_eq _ _ _ hM]; exact h))

theorem OG.st {o : Oper} {R : Value → Heap → Prop} (h : OG P N E D H o R) {t : Array Value} (hA : Agree N E t) : St P D o R t H := fun w hE => h.go t w hA hE

theorem agree_pu {t : Array Value} (hA : Agree N E t) {o : Option Nat} (hN : ∀ d, o = some d → d < N) (v : Value) : Agree N (upd E o v) (pu D t o v) := Agree.upd hA hN v D

/-- The guard is met. -/
def Met (ops : Array Oper) (N : Nat) (E : Env) (o : Oper) : Prop := ∀ t, Agree N E t → Region.wanted o (yielded ops t) = true
theorem mone {o : Oper} (hg : o.guard = Option.none) : Met ops N E o := fun t _ => by simp [Region.wanted, hg]
theorem myes {o : Oper} {j d : Nat} {want : Bool} (hg : o.guard = some (j, want)) (hd : (ops[j]?).bind (·.dst) = some d) (hb : look E d = some (.bool want)) : Met ops N E o :=
  fun t hA => by simp [Region.wanted, hg, yielded_of hA hd hb]

theorem vdq {o : Oper} {d : Nat} {v : Value} (hm : Met ops N E o) (h : OQ P N E D H o v) (ho : o.dst = some d) (hN : Nat.blt d N = true) (hL : VD P f ro N ops l k ((d, v) :: E) D G H Q) : VD P f ro N ops ((.q, o) :: l) k E D G H Q := by
  intro t hA
  refine ⟨v, .inl ⟨hm t hA, h.st hA⟩, fun _ => hL _ ?_⟩
  have := agree_pu hA (D := D) (o := o.dst) (fun d' hd' => by rw [ho] at hd'; cases hd'; exact Nat.le_of_ble_eq_true hN) v
  rwa [ho] at this ⊢
theorem vdno {o : Oper} {j d d' : Nat} {want : Bool} (hg : o.guard = some (j, want)) (hd : (ops[j]?).bind (·.dst) = some d) (hb : look E d = some (.bool (!want))) (ho : o.dst = some d') (hN : Nat.blt d' N = true)
    (hL : VD P f ro N ops l k ((d', undef) :: E) D G H Q) : VD P f ro N ops ((.q, o) :: l) k E D G H Q := by
  intro t hA
  refine ⟨undef, .inr ⟨by simp [Want, Region.wanted, hg, yielded_of hA hd hb], rfl⟩, fun _ => hL _ ?_⟩
  have := agree_pu hA (D := D) (o := o.dst) (fun d' hd' => by rw [ho] at hd'; cases hd'; exact Nat.le_of_ble_eq_true hN) undef
  rwa [ho] at this ⊢
theorem vdnou {o : Oper} {j d d' : Nat} {want : Bool} (hg : o.guard = some (j, want)) (hd : (ops[j]?).bind (·.dst) = some d) (hb : look E d = some undef) (ho : o.dst = some d') (hN : Nat.blt d' N = true)
    (hL : VD P f ro N ops l k ((d', undef) :: E) D G H Q) : VD P f ro N ops ((.q, o) :: l) k E D G H Q := by
  intro t hA
  refine ⟨undef, .inr ⟨by simp [Want, Region.wanted, hg, yielded_undef hA hd hb], rfl⟩, fun _ => hL _ ?_⟩
  have := agree_pu hA (D := D) (o := o.dst) (fun d' hd' => by rw [ho] at hd'; cases hd'; exact Nat.le_of_ble_eq_true hN) undef
  rwa [ho] at this ⊢
theorem vdqn {o : Oper} (hm : Met ops N E o) (h : OQ P N E D H o undef) (ho : o.dst = Option.none) (hL : VD P f ro N ops l k E D G H Q) : VD P f ro N ops ((.q, o) :: l) k E D G H Q := by
  intro t hA
  refine ⟨undef, .inl ⟨hm t hA, h.st hA⟩, fun _ => hL _ ?_⟩
  have := agree_pu hA (D := D) (o := o.dst) (fun d' hd' => by rw [ho] at hd'; cases hd') undef
  rwa [ho] at this ⊢
theorem vdn {o : Oper} {d : Nat} {v : Value} {M : Heap} (hM : appHO G H = some M) (hm : Met ops N E o) (h : OQ P N E D M o v) (ho : o.dst = some d) (hN : Nat.blt d N = true) (hL : VD P f ro N ops l k ((d, v) :: E) D G H Q) : VD P f ro N ops ((.n, o) :: l) k E D G H Q := by
  intro t hA
  have hM := appHO_eq _ _ _ hM
  subst hM
  refine ⟨v, hm t hA, h.st hA, fun _ => hL _ ?_⟩
  have := agree_pu hA (D := D) (o := o.dst) (fun d' hd' => by rw [ho] at hd'; cases hd'; exact Nat.le_of_ble_eq_true hN) v
  rwa [ho] at this ⊢
theorem vda {o : Oper} {d : Nat} {ob : Obj} (ho : o.dst = some d) (hN : Nat.blt d N = true) (hL : ∀ b, VD P f ro N ops l k ((d, .pointer (some ⟨b, 0, Option.none⟩)) :: E) D ((b, ob) :: G) H Q) : VD P f ro N ops ((.a ob, o) :: l) k E D G H Q := by
  intro t hA b _
  refine hL b _ ?_
  have := agree_pu hA (D := D) (o := o.dst) (fun d' hd' => by rw [ho] at hd'; cases hd'; exact Nat.le_of_ble_eq_true hN) (.pointer (some ⟨b, 0, Option.none⟩))
  rwa [ho] at this ⊢
theorem vdw {o : Oper} {d : Nat} {R : Value → Heap → Prop} {M : Heap} (hM : appHO G H = some M) (hm : Met ops N E o) (h : OG P N E D M o R) (ho : o.dst = some d) (hN : Nat.blt d N = true) (hL : ∀ v H', R v H' → VD P f ro N ops l k ((d, v) :: E) D [] H' Q) : VD P f ro N ops ((.w, o) :: l) k E D G H Q := by
  intro t hA
  have hM := appHO_eq _ _ _ hM
  subst hM
  refine ⟨hm t hA, (h.st hA).mono fun v H' hR => ⟨[], H', .refl _, fun _ => hL v H' hR _ ?_⟩⟩
  have := agree_pu hA (D := D) (o := o.dst) (fun d' hd' => by rw [ho] at hd'; cases hd'; exact Nat.le_of_ble_eq_true hN) v
  rwa [ho] at this ⊢
theorem vdg {o : Oper} {d : Nat} {V : Nat → Value} {ob : Obj} {M : Heap} (hM : appHO G H = some M) (hm : Met ops N E o) (h : OG P N E D M o (fun v H' => ∃ b, v = V b ∧ H' = (b, ob) :: M)) (ho : o.dst = some d) (hN : Nat.blt d N = true) (hL : ∀ b, VD P f ro N ops l k ((d, V b) :: E) D ((b, ob) :: G) H Q) :
    VD P f ro N ops ((.g, o) :: l) k E D G H Q := by
  intro t hA
  have hM := appHO_eq _ _ _ hM
  subst hM
  refine ⟨hm t hA, (h.st hA).mono fun v H' hR => ?_⟩
  obtain ⟨b, rfl, rfl⟩ := hR
  refine ⟨[(b, ob)], rfl, fun _ => hL b _ ?_⟩
  have := agree_pu hA (D := D) (o := o.dst) (fun d' hd' => by rw [ho] at hd'; cases hd'; exact Nat.le_of_ble_eq_true hN) (V b)
  rwa [ho] at this ⊢
/-- An operation that adds blocks. -/
theorem vdgl {o : Oper} {d : Nat} {R : Value → Heap → Prop} {M : Heap} (hM : appHO G H = some M) (hm : Met ops N E o) (h : OG P N E D M o (fun v H' => ∃ B, H' = B ++ M ∧ R v B)) (ho : o.dst = some d) (hN : Nat.blt d N = true) (hL : ∀ v B, R v B → VD P f ro N ops l k ((d, v) :: E) D (B ++ G) H Q) :
    VD P f ro N ops ((.g, o) :: l) k E D G H Q := by
  intro t hA
  have hM := appHO_eq _ _ _ hM
  subst hM
  refine ⟨hm t hA, (h.st hA).mono fun v H' hR => ?_⟩
  obtain ⟨B, rfl, hR⟩ := hR
  refine ⟨B, rfl, fun _ => hL v B hR _ ?_⟩
  have := agree_pu hA (D := D) (o := o.dst) (fun d' hd' => by rw [ho] at hd'; cases hd'; exact Nat.le_of_ble_eq_true hN) v
  rwa [ho] at this ⊢
/-- A change of the region's own blocks, with a value. -/
theorem vdsd {o : Oper} {d : Nat} {R : Value → Heap → Prop} (hm : Met ops N E o) (h : OG P N E D G o R) (ho : o.dst = some d) (hN : Nat.blt d N = true) (hL : ∀ v H', R v H' → VD P f ro N ops l k ((d, v) :: E) D H' H Q) :
    VD P f ro N ops ((.s, o) :: l) k E D G H Q := by
  intro t hA
  refine ⟨hm t hA, (h.st hA).mono fun v H' hR _ => hL v H' hR _ ?_⟩
  have := agree_pu hA (D := D) (o := o.dst) (fun d' hd' => by rw [ho] at hd'; cases hd'; exact Nat.le_of_ble_eq_true hN) v
  rwa [ho] at this ⊢
theorem appHO_of : ∀ (G H : Heap), appHO G H = some (G ++ H)
  | [], _ => rfl
  | x :: G, H => by simp [appHO, appHO_of G H]
theorem vdm {o : Oper} {d : Nat} {V : Nat → Value} {ob : Obj} (hm : Met ops N E o) (h : ∀ t, Agree N E t → Psh P D o t V ob) (ho : o.dst = some d) (hN : Nat.blt d N = true) (hL : ∀ b, VD P f ro N ops l k ((d, V b) :: E) D ((b, ob) :: G) H Q) : VD P f ro N ops ((.m, o) :: l) k E D G H Q := by
  intro t hA
  refine ⟨hm t hA, V, ob, h t hA, fun b _ => hL b _ ?_⟩
  have := agree_pu hA (D := D) (o := o.dst) (fun d' hd' => by rw [ho] at hd'; cases hd'; exact Nat.le_of_ble_eq_true hN) (V b)
  rwa [ho] at this ⊢
theorem OA.psh {o : Oper} {ob : Obj} (h : OA P N E D o ob) : ∀ t, Agree N E t → Psh P D o t (fun b => .pointer (some ⟨b, 0, Option.none⟩)) ob := fun t hA w => h.2 t w hA
/-- A store into a block that this region has made. -/
theorem vds {o : Oper} {G1 : Heap} (hm : Met ops N E o) (h : OG P N E D G o (fun _ H' => H' = G1)) (ho : o.dst = Option.none) (hL : VD P f ro N ops l k E D G1 H Q) : VD P f ro N ops ((.s, o) :: l) k E D G H Q := by
  intro t hA
  refine ⟨hm t hA, (h.st hA).mono fun v H' hR => ?_⟩
  subst hR
  intro _
  refine hL _ ?_
  have := agree_pu hA (D := D) (o := o.dst) (fun d' hd' => by rw [ho] at hd'; cases hd') v
  rwa [ho] at this ⊢
/-- A store into another one. -/
theorem vdcs {o : Oper} {H1 : Heap} (hm : Met ops N E o) (h : OG P N E D H o (fun _ H' => H' = H1)) (ho : o.dst = Option.none) (hL : VD P f ro N ops l k E D G H1 Q) : VD P f ro N ops ((.c, o) :: l) k E D G H Q := by
  intro t hA
  refine ⟨hm t hA, (h.st hA).mono fun v H' hR => ?_⟩
  subst hR
  intro _
  refine hL _ ?_
  have := agree_pu hA (D := D) (o := o.dst) (fun d' hd' => by rw [ho] at hd'; cases hd') v
  rwa [ho] at this ⊢
/-- A symbolic truth value in a slot is parted on. -/
theorem vdsplit {d : Nat} {b : Bool} (hb : look E d = some (.bool b)) (ht : b = true → VD P f ro N ops l k ((d, .bool true) :: E) D G H Q) (hf : b = false → VD P f ro N ops l k ((d, .bool false) :: E) D G H Q) :
    VD P f ro N ops l k E D G H Q := by
  intro t hA
  have key : ∀ b', b = b' → VD P f ro N ops l k ((d, .bool b') :: E) D G H Q → Canon P D ops (Good P f ro D Q (.inRegion ops [] :: k)) l t G H := by
    intro b' hbb h
    refine h t (hA.weak fun i v hi => ?_)
    rw [look_cons] at hi
    by_cases e : i = d
    · subst e; rw [if_pos rfl] at hi; rw [hb, hbb]; exact hi
    · rw [if_neg e] at hi; exact hi
  cases b
  · exact key false rfl (hf rfl)
  · exact key true rfl (ht rfl)
theorem vdsplitd {d : Nat} {p : Prop} {_ : Decidable p} (hb : look E d = some (.bool (decide p))) (ht : p → VD P f ro N ops l k ((d, .bool true) :: E) D G H Q) (hf : ¬ p → VD P f ro N ops l k ((d, .bool false) :: E) D G H Q) :
    VD P f ro N ops l k E D G H Q := vdsplit hb (fun h => ht (of_decide_eq_true h)) (fun h => hf (of_decide_eq_false h))
theorem vdknow {d : Nat} {b b' : Bool} (hb : look E d = some (.bool b)) (hbb : b = b') (h : VD P f ro N ops l k ((d, .bool b') :: E) D G H Q) : VD P f ro N ops l k E D G H Q := by
  subst hbb
  cases b
  · exact vdsplit hb (fun h => by cases h) (fun _ => h)
  · exact vdsplit hb (fun _ => h) (fun h => by cases h)
end
end Go.Proofs.Ytffpfcomikcimaa
