/-
  Plain Lean: what the statements about regions say outright. No condition, no program.
-/
import Derived.Test.YtffpfcomikcimaaPcl
namespace Go.Proofs.Ytffpfcomikcimaa

/-! ### Tight regions -/
/-- What a tight region is, without its list. -/
structure TotR (r t : Rg) : Prop where
  mem : ∀ p, inR r p → inR t p
  xlo : ∃ p, inR r p ∧ p.x = t.x.lo
  xhi : ∃ p, inR r p ∧ p.x = t.x.hi
  ylo : ∃ p, inR r p ∧ p.y = t.y.lo
  yhi : ∃ p, inR r p ∧ p.y = t.y.hi
  slo : ∃ p, inR r p ∧ p.x + p.y = t.s.lo
  shi : ∃ p, inR r p ∧ p.x + p.y = t.s.hi
  dlo : ∃ p, inR r p ∧ p.x - p.y = t.d.lo
  dhi : ∃ p, inR r p ∧ p.x - p.y = t.d.hi
theorem tight_totR {r t : Rg} (h : tightP r = some t) : TotR r t := by
  have g := tight_tot h
  have f : ∀ {q : Pt → Prop}, (∃ p ∈ endsOf r, q p) → ∃ p, inR r p ∧ q p := fun ⟨p, h1, h2⟩ => ⟨p, ends_in h1, h2⟩
  exact ⟨fun p hp => (tight_in h p).2 hp, f g.xlo, f g.xhi, f g.ylo, f g.yhi, f g.slo, f g.shi, f g.dlo, f g.dhi⟩
theorem ends_eq_iff {a b : Rg} (h : ∀ p, inR a p ↔ inR b p) : ∀ p, p ∈ endsOf a → inR b p := fun p hp => (h p).1 (ends_in hp)
/-- The tight region depends on the places alone. -/
theorem TotR.uniq {a b t u : Rg} (h : TotR a t) (g : TotR b u) (e : ∀ p, inR a p ↔ inR b p) : t = u := by
  have key : ∀ {a b t u : Rg}, TotR a t → TotR b u → (∀ p, inR a p → inR b p) → (u.x.lo ≤ t.x.lo ∧ t.x.hi ≤ u.x.hi) ∧ (u.y.lo ≤ t.y.lo ∧ t.y.hi ≤ u.y.hi) ∧ (u.s.lo ≤ t.s.lo ∧ t.s.hi ≤ u.s.hi) ∧ (u.d.lo ≤ t.d.lo ∧ t.d.hi ≤ u.d.hi) := by
    intro a b t u h g e
    obtain ⟨p1, m1, e1⟩ := h.xlo
    obtain ⟨p2, m2, e2⟩ := h.xhi
    obtain ⟨p3, m3, e3⟩ := h.ylo
    obtain ⟨p4, m4, e4⟩ := h.yhi
    obtain ⟨p5, m5, e5⟩ := h.slo
    obtain ⟨p6, m6, e6⟩ := h.shi
    obtain ⟨p7, m7, e7⟩ := h.dlo
    obtain ⟨p8, m8, e8⟩ := h.dhi
    have := g.mem p1 (e _ m1)
    have := g.mem p2 (e _ m2)
    have := g.mem p3 (e _ m3)
    have := g.mem p4 (e _ m4)
    have := g.mem p5 (e _ m5)
    have := g.mem p6 (e _ m6)
    have := g.mem p7 (e _ m7)
    have := g.mem p8 (e _ m8)
    unfold inR at *
    refine ⟨⟨?_, ?_⟩, ⟨?_, ?_⟩, ⟨?_, ?_⟩, ⟨?_, ?_⟩⟩ <;> omega
  obtain ⟨⟨a1, a2⟩, ⟨b1, b2⟩, ⟨c1, c2⟩, d1, d2⟩ := key h g (fun p => (e p).1)
  obtain ⟨⟨a3, a4⟩, ⟨b3, b4⟩, ⟨c3, c4⟩, d3, d4⟩ := key g h (fun p => (e p).2)
  have ex : ∀ (a b : Bd), a.lo = b.lo → a.hi = b.hi → a = b := fun a b h1 h2 => by cases a; cases b; simp_all
  have hx := ex t.x u.x (by omega) (by omega)
  have hy := ex t.y u.y (by omega) (by omega)
  have hs := ex t.s u.s (by omega) (by omega)
  have hd := ex t.d u.d (by omega) (by omega)
  cases t; cases u; simp_all
theorem tight_some {r : Rg} {p : Pt} (h : inR r p) : ∃ t, tightP r = some t := by
  cases e : tightP r with
  | none => exact absurd h (tight_none.1 e p)
  | some t => exact ⟨t, rfl⟩
theorem tight_ne {r t : Rg} (h : tightP r = some t) : ∃ p, inR r p := let ⟨p, hp, _⟩ := (tight_totR h).xlo; ⟨p, hp⟩
theorem tight_eq {a b : Rg} (e : ∀ p, inR a p ↔ inR b p) : tightP a = tightP b := by
  cases ha : tightP a with
  | none => exact (tight_none.2 fun p hp => tight_none.1 ha p ((e p).2 hp)).symm
  | some t =>
    obtain ⟨p, hp⟩ := tight_ne ha
    obtain ⟨u, hu⟩ := tight_some ((e p).1 hp)
    rw [hu, (tight_totR ha).uniq (tight_totR hu) e]
/-- It is its own tight region. -/
theorem tight_idem {r t : Rg} (h : tightP r = some t) : tightP t = some t := by rw [tight_eq (tight_in h), h]
theorem totR_self {r t : Rg} (h : tightP r = some t) : TotR t t := tight_totR (tight_idem h)
/-- Every x between the ends has a row. -/
theorem tight_row {t : Rg} (h : TotR t t) {x : Int} (h1 : t.x.lo ≤ x) (h2 : x ≤ t.x.hi) : (rowOf t x).a ≤ (rowOf t x).b := by
  obtain ⟨p1, m1, e1⟩ := h.xlo
  obtain ⟨p2, m2, e2⟩ := h.xhi
  unfold inR at m1 m2
  unfold rowOf; simp only; omega

/-! ### Counts -/
theorem flat_congr {α β : Type} {f g : α → List β} : ∀ {l : List α}, (∀ x ∈ l, f x = g x) → l.flatMap f = l.flatMap g
  | [], _ => rfl
  | x :: l, h => by rw [List.flatMap_cons, List.flatMap_cons, h x (by simp), flat_congr (fun y hy => h y (by simp [hy]))]
theorem flat_nil {α β : Type} {f : α → List β} : ∀ {l : List α}, (∀ x ∈ l, f x = []) → l.flatMap f = []
  | [], _ => rfl
  | x :: l, h => by rw [List.flatMap_cons, h x (by simp), flat_nil (fun y hy => h y (by simp [hy]))]; rfl
theorem xsF_app (lo : Int) (m : Nat) : ∀ n, xsF lo (m + n) = xsF lo m ++ xsF (lo + m) n
  | 0 => by simp [xsF]
  | n + 1 => by
    rw [show m + (n + 1) = (m + n) + 1 by omega]
    simp only [xsF]
    rw [xsF_app lo m n, List.append_assoc]
    congr 2
    simp only [List.cons.injEq, and_true]; omega
theorem rowL_nil {r : Rg} {x : Int} (hx : r.x.lo ≤ x ∧ x ≤ r.x.hi) (h : ∀ y, ¬ inR r ⟨x, y⟩) : rowL r x = [] := by
  unfold rowL
  rw [if_neg]
  intro hab
  exact h (rowOf r x).a (inR_row.2 ⟨hx, Int.le_refl _, hab⟩)
theorem row_eq {a b : Rg} {x : Int} (ha : a.x.lo ≤ x ∧ x ≤ a.x.hi) (hb : b.x.lo ≤ x ∧ x ≤ b.x.hi) (e : ∀ y, inR a ⟨x, y⟩ ↔ inR b ⟨x, y⟩) (h : (rowOf a x).a ≤ (rowOf a x).b) : rowOf a x = rowOf b x := by
  have e' : ∀ y, ((rowOf a x).a ≤ y ∧ y ≤ (rowOf a x).b) ↔ ((rowOf b x).a ≤ y ∧ y ≤ (rowOf b x).b) := fun y => by
    have := e y
    rw [inR_row, inR_row] at this
    simp only at this
    constructor
    · intro h; exact (this.1 ⟨ha, h⟩).2
    · intro h; exact (this.2 ⟨hb, h⟩).2
  have h1 := (e' (rowOf a x).a).1 ⟨Int.le_refl _, h⟩
  have h2 := (e' (rowOf a x).b).1 ⟨h, Int.le_refl _⟩
  have h3 := (e' (rowOf b x).a).2 ⟨Int.le_refl _, by omega⟩
  have h4 := (e' (rowOf b x).b).2 ⟨by omega, Int.le_refl _⟩
  have h5 : (rowOf a x).x = x := rfl
  have h6 : (rowOf b x).x = x := rfl
  have e1 : (rowOf a x).a = (rowOf b x).a := by omega
  have e2 : (rowOf a x).b = (rowOf b x).b := by omega
  generalize rowOf a x = u at *
  generalize rowOf b x = v at *
  cases u; cases v
  simp only at *
  subst h5; subst e1; subst e2; subst h6; rfl
/-- The rows of the tight region are those of the region. -/
theorem tight_rows {r t : Rg} (h : tightP r = some t) : rows t = rows r := by
  have hs := tight_sub h
  have e1 : r.x.len = (t.x.lo - r.x.lo).toNat + (t.x.len + (r.x.hi - t.x.hi).toNat) := by unfold Bd.len; omega
  unfold rows rowsN
  rw [e1, xsF_app, xsF_app, List.flatMap_append, List.flatMap_append]
  have e2 : r.x.lo + ((t.x.lo - r.x.lo).toNat : Nat) = t.x.lo := by omega
  rw [e2]
  have n1 : (xsF r.x.lo (t.x.lo - r.x.lo).toNat).flatMap (rowL r) = [] := flat_nil fun x hx => by
    have := mem_xsF.1 hx
    exact rowL_nil (by omega) fun y hy => by
      have := (tight_in h ⟨x, y⟩).2 hy
      unfold inR at this; simp only at this; omega
  have n2 : (xsF (t.x.lo + (t.x.len : Nat)) (r.x.hi - t.x.hi).toNat).flatMap (rowL r) = [] := flat_nil fun x hx => by
    have hx := mem_xsF.1 hx
    have hl : t.x.lo + (t.x.len : Nat) = t.x.hi + 1 := by unfold Bd.len; omega
    rw [hl] at hx
    exact rowL_nil (by omega) fun y hy => by
      have := (tight_in h ⟨x, y⟩).2 hy
      unfold inR at this; simp only at this; omega
  rw [n1, n2, List.nil_append, List.append_nil]
  refine flat_congr fun x hx => ?_
  have hx := mem_xsF.1 hx
  have hl : t.x.lo + (t.x.len : Nat) = t.x.hi + 1 := by unfold Bd.len; omega
  rw [hl] at hx
  have hr := tight_row (totR_self h) (x := x) (by omega) (by omega)
  have := row_eq (a := t) (b := r) (x := x) (by omega) (by omega) (fun y => tight_in h _) hr
  unfold rowL
  rw [if_pos hr, ← this, if_pos hr]
theorem cnt_pos {r : Rg} {p : Pt} (h : inR r p) : 1 ≤ cntF (rows r) := by
  have h1 := inR_row.1 h
  have hm : rowOf r p.x ∈ rows r := mem_rows.2 ⟨h1.1, rfl, by omega⟩
  obtain ⟨A, B, e⟩ := List.append_of_mem hm
  have hb : ∀ (l : List Rw), (∀ w ∈ l, w ∈ rows r) → 0 ≤ cntF l := by
    intro l
    induction l with
    | nil => intro _; simp [cntF]
    | cons w l ih =>
      intro hw
      have := ih fun u hu => hw u (by simp [hu])
      have := (mem_rows.1 (hw w (by simp))).2.2
      rw [cntF_cons]; omega
  have ha := hb A (fun w hw => by rw [e]; simp [hw])
  have hb' := hb B (fun w hw => by rw [e]; simp [hw])
  have : cntF (A ++ rowOf r p.x :: B) = cntF A + cntF (rowOf r p.x :: B) := by
    simp only [cntF, List.foldl_append]; rw [cntF_from]; rfl
  rw [e, this, cntF_cons]
  omega
theorem cnt_zero {r : Rg} (h : tightP r = none) : cntF (rows r) = 0 := by
  have : rows r = [] := by
    cases e : rows r with
    | nil => rfl
    | cons w l =>
      have hm : w ∈ rows r := by rw [e]; simp
      obtain ⟨h1, h2, h3⟩ := mem_rows.1 hm
      refine absurd (inR_row.2 ⟨h1, ?_, ?_⟩ : inR r ⟨w.x, w.a⟩) (tight_none.1 h _) <;> (rw [← h2]; simp only; omega)
  rw [this]; rfl

/-! ### Eight ends -/
def endR (r : Rg) (i : Nat) : Rg := match i with
  | 0 => { r with x := ⟨r.x.lo, r.x.lo⟩ }
  | 1 => { r with x := ⟨r.x.hi, r.x.hi⟩ }
  | 2 => { r with y := ⟨r.y.lo, r.y.lo⟩ }
  | 3 => { r with y := ⟨r.y.hi, r.y.hi⟩ }
  | 4 => { r with s := ⟨r.s.lo, r.s.lo⟩ }
  | 5 => { r with s := ⟨r.s.hi, r.s.hi⟩ }
  | 6 => { r with d := ⟨r.d.lo, r.d.lo⟩ }
  | _ => { r with d := ⟨r.d.hi, r.d.hi⟩ }
theorem end_in {t : Rg} (h : TotR t t) (i : Nat) : ∃ p, inR (endR t i) p := by
  obtain ⟨p1, m1, e1⟩ := h.xlo
  obtain ⟨p2, m2, e2⟩ := h.xhi
  obtain ⟨p3, m3, e3⟩ := h.ylo
  obtain ⟨p4, m4, e4⟩ := h.yhi
  obtain ⟨p5, m5, e5⟩ := h.slo
  obtain ⟨p6, m6, e6⟩ := h.shi
  obtain ⟨p7, m7, e7⟩ := h.dlo
  obtain ⟨p8, m8, e8⟩ := h.dhi
  unfold endR
  split
  · exact ⟨p1, by unfold inR at *; simp only; omega⟩
  · exact ⟨p2, by unfold inR at *; simp only; omega⟩
  · exact ⟨p3, by unfold inR at *; simp only; omega⟩
  · exact ⟨p4, by unfold inR at *; simp only; omega⟩
  · exact ⟨p5, by unfold inR at *; simp only; omega⟩
  · exact ⟨p6, by unfold inR at *; simp only; omega⟩
  · exact ⟨p7, by unfold inR at *; simp only; omega⟩
  · exact ⟨p8, by unfold inR at *; simp only; omega⟩
theorem end_ok {t : Rg} (h : t.ok) (i : Nat) : (endR t i).ok := by
  unfold Rg.ok Bd.fits at *
  unfold endR
  split <;> (simp only; omega)

/-! ### A chosen place -/
def restP (n m : Int) : Int := if m < 1 then 0 else n % m
theorem rest_bd {n m : Int} (h : 1 ≤ m) : 0 ≤ restP n m ∧ restP n m ≤ m - 1 := by
  unfold restP
  rw [if_neg (by omega)]
  have := Int.emod_nonneg n (show m ≠ 0 by omega)
  have := Int.emod_lt_of_pos n (show 0 < m by omega)
  omega
def choP (r : Rg) (a b : Int) : Pt := ⟨r.x.lo + restP a (r.x.hi - r.x.lo + 1), (rowOf r (r.x.lo + restP a (r.x.hi - r.x.lo + 1))).a + restP b ((rowOf r (r.x.lo + restP a (r.x.hi - r.x.lo + 1))).b - (rowOf r (r.x.lo + restP a (r.x.hi - r.x.lo + 1))).a + 1)⟩
def choB (r : Rg) (a : Int) : Bool := decide ((rowOf r (r.x.lo + restP a (r.x.hi - r.x.lo + 1))).a ≤ (rowOf r (r.x.lo + restP a (r.x.hi - r.x.lo + 1))).b)
theorem totR_le {t : Rg} (h : TotR t t) : t.x.lo ≤ t.x.hi := by
  obtain ⟨p1, m1, e1⟩ := h.xlo
  unfold inR at m1; omega
theorem cho_is {t : Rg} (h : TotR t t) (a : Int) : choB t a = true := by
  have hl := totR_le h
  have := rest_bd (n := a) (show 1 ≤ t.x.hi - t.x.lo + 1 by omega)
  exact decide_eq_true (tight_row h (by omega) (by omega))
theorem cho_in {t : Rg} (h : TotR t t) (a b : Int) : inR t (choP t a b) := by
  have hl := totR_le h
  have h1 := rest_bd (n := a) (show 1 ≤ t.x.hi - t.x.lo + 1 by omega)
  have h2 := tight_row h (x := t.x.lo + restP a (t.x.hi - t.x.lo + 1)) (by omega) (by omega)
  unfold choP
  have h3 := rest_bd (n := b) (show 1 ≤ (rowOf t (t.x.lo + restP a (t.x.hi - t.x.lo + 1))).b - (rowOf t (t.x.lo + restP a (t.x.hi - t.x.lo + 1))).a + 1 by omega)
  refine inR_row.2 ⟨?_, ?_, ?_⟩ <;> simp only <;> omega

/-! ### Has -/
def hasE (r : Rg) (p : Pt) : Bool × Int := if r.ok then (if p.ok then (decide (inR r p), 0) else (false, 10)) else (false, 11)
theorem has_in {r : Rg} {p : Pt} (h : r.ok) (hp : inR r p) : hasE r p = (true, 0) := by unfold hasE; rw [if_pos h, if_pos (ok_inR h hp), decide_eq_true hp]

/-! ### Both -/
theorem cut_comm (a b : Rg) : a.map2 Bd.cut b = b.map2 Bd.cut a := by
  simp only [Rg.map2, Bd.cut]
  congr 1 <;> congr 1 <;> omega
theorem chk2_comm (a b : Rg) : chk2 a b = chk2 b a := by unfold chk2; simp only [and_comm]
theorem meet_comm (a b : Rg) : meetE a b = meetE b a := by
  have : chk2 a b = chk2 b a := chk2_comm a b
  unfold meetE; rw [this, cut_comm]
theorem hull_totR {a b : Rg} {t : Rg} (h : hullP (endsOf a ++ endsOf b) = some t) : (∀ p, inR a p ∨ inR b p → inR t p) ∧ Tot (endsOf a ++ endsOf b) t := by
  have g := hullP_tot h
  refine ⟨fun p hp => ?_, g⟩
  rcases hp with hp | hp
  · obtain ⟨h1, h2⟩ := row_ends hp
    have h3 := inR_row.1 hp
    exact in_between (g.mem _ (by simp [h1])) (g.mem _ (by simp [h2])) h3.2.1 h3.2.2
  · obtain ⟨h1, h2⟩ := row_ends hp
    have h3 := inR_row.1 hp
    exact in_between (g.mem _ (by simp [h1])) (g.mem _ (by simp [h2])) h3.2.1 h3.2.2
theorem hull_none2 {a b : Rg} : hullP (endsOf a ++ endsOf b) = none ↔ tightP a = none ∧ tightP b = none := by
  rw [hullP_none, List.append_eq_nil_iff]
  unfold tightP; rw [hullP_none, hullP_none]
theorem join_comm (a b : Rg) : joinE a b = joinE b a := by
  have h1 : chk2 a b = chk2 b a := chk2_comm a b
  have h2 : hullP (endsOf a ++ endsOf b) = hullP (endsOf b ++ endsOf a) := by
    cases ha : hullP (endsOf a ++ endsOf b) with
    | none => exact (hull_none2.2 (hull_none2.1 ha).symm).symm
    | some t =>
      cases hb : hullP (endsOf b ++ endsOf a) with
      | none => rw [hull_none2.2 (hull_none2.1 hb).symm] at ha; cases ha
      | some u => rw [(hullP_tot ha).uniq (hullP_tot hb) (fun p => by simp [or_comm])]
  unfold joinE; rw [h1, h2]
theorem hull_ok {a b t : Rg} (h : hullP (endsOf a ++ endsOf b) = some t) (ha : a.ok) (hb : b.ok) : t.ok := by
  have g := hullP_tot h
  have key : ∀ p ∈ endsOf a ++ endsOf b, inR a p ∨ inR b p := fun p hp => (List.mem_append.1 hp).imp ends_in ends_in
  obtain ⟨p1, m1, e1⟩ := g.xlo
  obtain ⟨p2, m2, e2⟩ := g.xhi
  obtain ⟨p3, m3, e3⟩ := g.ylo
  obtain ⟨p4, m4, e4⟩ := g.yhi
  obtain ⟨p5, m5, e5⟩ := g.slo
  obtain ⟨p6, m6, e6⟩ := g.shi
  obtain ⟨p7, m7, e7⟩ := g.dlo
  obtain ⟨p8, m8, e8⟩ := g.dhi
  have b1 := g.mem p1 m1
  have k1 := key p1 m1
  have k2 := key p2 m2
  have k3 := key p3 m3
  have k4 := key p4 m4
  have k5 := key p5 m5
  have k6 := key p6 m6
  have k7 := key p7 m7
  have k8 := key p8 m8
  clear key g m1 m2 m3 m4 m5 m6 m7 m8
  unfold inR at *
  unfold Rg.ok Bd.fits at *
  omega
end Go.Proofs.Ytffpfcomikcimaa
