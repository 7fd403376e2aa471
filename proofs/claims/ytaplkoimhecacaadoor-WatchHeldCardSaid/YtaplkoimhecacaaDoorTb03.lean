/-
  Plain Lean: rows, ends, hulls. No condition, no program. Slices that are only read, wherever they lie. No condition. Plain Lean: what hulls and tight regions are. No condition, no program. Plain Lean: roots, and how far x + y of a vector of a length can be. No condition, no program. Plain Lean: counts, extremes, squared distances. No condition, no program. Strings that are only read; comparisons of integers of any kind. No condition. Slices that grow: append to a slice of one's own. No condition. Maps with keys and values of one Lean type each: look-up, store, delete, ranges in whatever order. No condition. Iterators that show blocks of their own to the loop: what they promise, how a loop over one is run. No condition. Plain Lean: fields. No condition, no program. Plain Lean: rows cut by the sides of a field. No condition, no program. Plain Lean: the search for regions that contradict each other. No condition, no program. Plain Lean: regions that contradict each other; four are enough. No condition, no program. Plain Lean: what the statements about regions say outright. No condition, no program.
-/
import Derived.Test.YtaplkoimhecacaaDoorTb02
import Derived.Laws.AppendOwn
import Derived.Laws.Cover3
import Derived.Test.YtaplkoimhecacaaDoorTb01
import Derived.Laws.IdiomRangeMap
namespace Go.Proofs.YtaplkoimhecacaaDoor

structure Rw where
  x : Int
  a : Int
  b : Int
  deriving DecidableEq

def xsF (lo : Int) : Nat → List Int
  | 0 => []
  | n + 1 => xsF lo n ++ [lo + n]
def Bd.len (b : Bd) : Nat := (b.hi + 1 - b.lo).toNat
def rowOf (r : Rg) (x : Int) : Rw := ⟨x, max (max r.y.lo (r.s.lo - x)) (x - r.d.hi), min (min r.y.hi (r.s.hi - x)) (x - r.d.lo)⟩
def rowL (r : Rg) (x : Int) : List Rw := if (rowOf r x).a ≤ (rowOf r x).b then [rowOf r x] else []
def rowsN (r : Rg) (n : Nat) : List Rw := (xsF r.x.lo n).flatMap (rowL r)
def rows (r : Rg) : List Rw := rowsN r r.x.len
def endL (w : Rw) : List Pt := if w.a = w.b then [⟨w.x, w.a⟩] else [⟨w.x, w.a⟩, ⟨w.x, w.b⟩]
def endsOf (r : Rg) : List Pt := (rows r).flatMap endL

theorem mem_xsF {lo x : Int} : ∀ {n : Nat}, x ∈ xsF lo n ↔ lo ≤ x ∧ x < lo + n
  | 0 => by simp [xsF]
  | n + 1 => by simp [xsF, mem_xsF (n := n)]; omega

theorem rowsN_succ (r : Rg) (n : Nat) : rowsN r (n + 1) = rowsN r n ++ rowL r (r.x.lo + n) := by simp [rowsN, xsF]
theorem xsF_split (lo : Int) (n : Nat) : ∀ m, n < m → ∃ post, xsF lo m = xsF lo n ++ (lo + n) :: post
  | 0, h => by omega
  | m + 1, h => by
    by_cases e : n = m
    · subst e; exact ⟨[], rfl⟩
    · obtain ⟨post, hp⟩ := xsF_split lo n m (by omega)
      exact ⟨post ++ [lo + m], by simp [xsF, hp]⟩
theorem rows_split (r : Rg) (n : Nat) (h : n < r.x.len) (hr : (rowOf r (r.x.lo + n)).a ≤ (rowOf r (r.x.lo + n)).b) : ∃ post, rows r = rowsN r n ++ rowOf r (r.x.lo + n) :: post := by
  obtain ⟨post, hp⟩ := xsF_split r.x.lo n _ h
  refine ⟨post.flatMap (rowL r), ?_⟩
  simp only [rows, rowsN, hp, List.flatMap_append, List.flatMap_cons]
  congr 1
  simp [rowL, hr]

theorem mem_rows {r : Rg} {w : Rw} : w ∈ rows r ↔ (r.x.lo ≤ w.x ∧ w.x ≤ r.x.hi) ∧ w = rowOf r w.x ∧ w.a ≤ w.b := by
  unfold rows rowsN rowL
  simp only [List.mem_flatMap, mem_xsF, Bd.len]
  constructor
  · rintro ⟨x, hx, hw⟩
    split at hw
    · rename_i h
      simp only [List.mem_singleton] at hw
      subst hw
      refine ⟨by simp only [rowOf]; omega, rfl, h⟩
    · cases hw
  · rintro ⟨hx, hw, hab⟩
    refine ⟨w.x, by omega, ?_⟩
    rw [← hw, if_pos hab]; simp

/-- A point lies in four bounds. -/
def inR (r : Rg) (p : Pt) : Prop := (r.x.lo ≤ p.x ∧ p.x ≤ r.x.hi) ∧ (r.y.lo ≤ p.y ∧ p.y ≤ r.y.hi) ∧ (r.s.lo ≤ p.x + p.y ∧ p.x + p.y ≤ r.s.hi) ∧ (r.d.lo ≤ p.x - p.y ∧ p.x - p.y ≤ r.d.hi)
instance (r : Rg) (p : Pt) : Decidable (inR r p) := by unfold inR; exact inferInstance
theorem inR_row {r : Rg} {p : Pt} : inR r p ↔ (r.x.lo ≤ p.x ∧ p.x ≤ r.x.hi) ∧ (rowOf r p.x).a ≤ p.y ∧ p.y ≤ (rowOf r p.x).b := by
  unfold inR rowOf; simp only; omega

theorem mem_ends {r : Rg} {p : Pt} : p ∈ endsOf r ↔ inR r p ∧ (p.y = (rowOf r p.x).a ∨ p.y = (rowOf r p.x).b) := by
  rw [inR_row]
  unfold endsOf
  simp only [List.mem_flatMap, mem_rows]
  constructor
  · rintro ⟨w, ⟨hx, hw, hab⟩, hp⟩
    unfold endL at hp
    split at hp <;> simp only [List.mem_cons, List.not_mem_nil, or_false] at hp
    · subst hp
      simp only
      rw [← hw]; omega
    · rcases hp with rfl | rfl <;> (simp only; rw [← hw]; omega)
  · rintro ⟨⟨hx, h1⟩, h2⟩
    refine ⟨rowOf r p.x, ⟨hx, rfl, by omega⟩, ?_⟩
    obtain ⟨px, py⟩ := p
    unfold endL
    simp only at h2 ⊢
    have hx : (rowOf r px).x = px := rfl
    split <;> rcases h2 with h2 | h2 <;> simp [h2, hx] <;> omega

/-! ### Hulls -/
def ofP (p : Pt) : Rg := ⟨⟨p.x, p.x⟩, ⟨p.y, p.y⟩, ⟨p.x + p.y, p.x + p.y⟩, ⟨p.x - p.y, p.x - p.y⟩⟩
def Bd.span (a b : Bd) : Bd := ⟨min a.lo b.lo, max a.hi b.hi⟩
def Bd.cut (a b : Bd) : Bd := ⟨max a.lo b.lo, min a.hi b.hi⟩
def Bd.plus (a b : Bd) : Bd := ⟨a.lo + b.lo, a.hi + b.hi⟩
def Bd.minus (a b : Bd) : Bd := ⟨a.lo - b.hi, a.hi - b.lo⟩
def Rg.map2 (f : Bd → Bd → Bd) (a b : Rg) : Rg := ⟨f a.x b.x, f a.y b.y, f a.s b.s, f a.d b.d⟩
def zR : Rg := ⟨⟨0, 0⟩, ⟨0, 0⟩, ⟨0, 0⟩, ⟨0, 0⟩⟩
/-- A point more. The hull so far is none: 'Option.none'. -/
def addP (h : Option Rg) (p : Pt) : Option Rg := some ((h.getD (ofP p)).map2 Bd.span (ofP p))
def hullP (l : List Pt) : Option Rg := l.foldl addP Option.none
def tightP (r : Rg) : Option Rg := hullP (endsOf r)

/-- Numbers of a magnitude for which nothing can overflow. -/
def Bd.sm (b : Bd) (m : Int) : Prop := (-m ≤ b.lo ∧ b.lo ≤ m) ∧ -m ≤ b.hi ∧ b.hi ≤ m
def Rg.sm (r : Rg) (m : Int) : Prop := r.x.sm m ∧ r.y.sm m ∧ r.s.sm m ∧ r.d.sm m
def Pt.sm (p : Pt) (m : Int) : Prop := (-m ≤ p.x ∧ p.x ≤ m) ∧ -m ≤ p.y ∧ p.y ≤ m
theorem Rg.sm.mono {r : Rg} {m n : Int} (h : r.sm m) (hmn : m ≤ n) : r.sm n := by
  unfold Rg.sm Bd.sm at *; omega
theorem Rg.ok.sm {r : Rg} (h : r.ok) : r.sm 65536 := by
  unfold Rg.ok Bd.fits at h; unfold Rg.sm Bd.sm; omega
theorem rows_sm {r : Rg} {m : Int} (h : r.sm m) {w : Rw} (hw : w ∈ rows r) : (-m ≤ w.x ∧ w.x ≤ m) ∧ (-m ≤ w.a ∧ w.a ≤ m) ∧ -m ≤ w.b ∧ w.b ≤ m := by
  obtain ⟨hx, hw, hab⟩ := mem_rows.1 hw
  have h1 : w.a = (rowOf r w.x).a := by rw [← hw]
  have h2 : w.b = (rowOf r w.x).b := by rw [← hw]
  unfold rowOf at h1 h2; unfold Rg.sm Bd.sm at h; simp only at h1 h2; omega
theorem ends_sm {r : Rg} {m : Int} (h : r.sm m) {p : Pt} (hp : p ∈ endsOf r) : p.sm m := by
  obtain ⟨h1, h2⟩ := mem_ends.1 hp
  unfold inR at h1; unfold Rg.sm Bd.sm at h; unfold Pt.sm; omega
theorem hullP_snoc (l : List Pt) (p : Pt) : hullP (l ++ [p]) = addP (hullP l) p := by simp [hullP]
theorem optN {α : Type} {h : Option α} (e : (!h.isSome) = true) : h = none := by cases h <;> simp_all
theorem optS {α : Type} {h : Option α} (e : (!h.isSome) = false) : ∃ g, h = some g := by cases h <;> simp_all
def errO (h : Option Rg) : Int := if h.isSome then 0 else 4
/-- A region, or none, and the error. -/
abbrev RE := Rg × Int
def optE (h : Option Rg) : RE := (h.getD zR, errO h)
def tightE (r : Rg) : RE := if r.ok then optE (tightP r) else (zR, 11)
theorem chkR_ok {r : Rg} (h : r.ok) : chkR r = 0 := if_pos h
theorem chkR_no {r : Rg} (h : ¬ r.ok) : chkR r = 11 := if_neg h
theorem chkR_zero {r : Rg} : chkR r = 0 ↔ r.ok := by unfold chkR; split <;> simp_all
theorem chkR_nz {r : Rg} : chkR r ≠ 0 ↔ ¬ r.ok := by rw [← chkR_zero]
theorem Pt.ok.sm {p : Pt} (h : p.ok) : p.sm 32768 := by unfold Pt.ok at h; unfold Pt.sm; omega
theorem Pt.sm.mono {r : Pt} {m n : Int} (h : r.sm m) (hmn : m ≤ n) : r.sm n := by unfold Pt.sm at *; omega
theorem errO_none {h : Option Rg} (e : h = none) : errO h = 4 := by subst e; rfl
end Go.Proofs.YtaplkoimhecacaaDoor
namespace Go.Proofs.YtaplkoimhecacaaDoor
open Go

/-- A cell of an object. -/
def oCell (ob : Obj) (a : Addr) : Option Value := match ob with
  | .cells c _ _ => if a.spot.isSome then Option.none else c[a.off]?
  | _ => Option.none
theorem oCell_eq {w : World} {a : Addr} {ob : Obj} (h : w.heap[a.block]? = some ob) : w.cell? a = oCell ob a := by
  unfold World.cell? oCell; rw [h]; cases ob <;> rfl
theorem add_block (a : Addr) (n : Nat) : (a.add n).block = a.block := by unfold Addr.add; split <;> rfl
theorem add_add (a : Addr) (m n : Nat) : (a.add m).add n = a.add (m + n) := by
  unfold Addr.add
  by_cases h1 : m = 0
  · subst h1; simp
  · by_cases h2 : n = 0
    · subst h2; simp [h1]
    · simp [h1, h2]; omega

/-- The elements of a slice, each by its cells. -/
class SlO {α : Type} (H : Heap) (oa : Option Addr) (esz : Nat) (enc : α → List Value) (l : List α) : Prop where
  el : ∀ i x, l[i]? = some x → (enc x).length = esz ∧ ∃ a ob, oa = some a ∧ (a.block, ob) ∈ H ∧ ∀ j v, (enc x)[j]? = some v → oCell ob (a.add (i * esz + j)) = some v
instance (priority := low) SlO.tail {α : Type} {x : Nat × Obj} {H : Heap} {oa : Option Addr} {esz : Nat} {enc : α → List Value} {l : List α} [h : SlO H oa esz enc l] : SlO (x :: H) oa esz enc l :=
  ⟨fun i y hy => let ⟨h1, a, ob, h2, h3, h4⟩ := h.el i y hy; ⟨h1, a, ob, h2, List.mem_cons_of_mem _ h3, h4⟩⟩
theorem SlO.sub {α : Type} {H H' : Heap} {oa : Option Addr} {esz : Nat} {enc : α → List Value} {l : List α} (h : SlO H oa esz enc l) (hs : ∀ e ∈ H, e ∈ H') : SlO H' oa esz enc l :=
  ⟨fun i y hy => let ⟨h1, a, ob, h2, h3, h4⟩ := h.el i y hy; ⟨h1, a, ob, h2, hs _ h3, h4⟩⟩
instance SlO.appL {α : Type} {A B : Heap} {oa : Option Addr} {esz : Nat} {enc : α → List Value} {l : List α} [h : SlO A oa esz enc l] : SlO (A ++ B) oa esz enc l := h.sub fun _e he => List.mem_append_left _ he
theorem SlO.nil {α : Type} {H : Heap} {oa : Option Addr} {esz : Nat} {enc : α → List Value} : SlO H oa esz enc ([] : List α) := ⟨fun i y hy => by simp at hy⟩
/-- A slice that was built: a block's cells. -/
theorem SlO.blk {α : Type} {H : Heap} {b : Nat} {cs : List Value} {T : TypeId} {esz : Nat} {enc : α → List Value} {l : List α} [h : HAt H b cs T] (hl : ∀ i x, l[i]? = some x → (enc x).length = esz ∧ ∀ j v, (enc x)[j]? = some v → cs[i * esz + j]? = some v) :
    SlO H (some ⟨b, 0, Option.none⟩) esz enc l := ⟨fun i x hx => by
  obtain ⟨h1, h2⟩ := hl i x hx
  refine ⟨h1, ⟨b, 0, Option.none⟩, Go.Proofs.YtaplkoimhecacaaDoor.blk cs T, rfl, h.mem, fun j v hj => ?_⟩
  have h3 := h2 j v hj
  unfold Addr.add
  split
  · rename_i e; rw [e] at h3; simpa [oCell, Go.Proofs.YtaplkoimhecacaaDoor.blk] using h3
  · simpa [oCell, Go.Proofs.YtaplkoimhecacaaDoor.blk] using h3⟩

theorem flat_get {α : Type} {enc : α → List Value} {esz : Nat} (he : ∀ x, (enc x).length = esz) : ∀ (l : List α) (i : Nat) (x : α) (j : Nat) (v : Value), l[i]? = some x → (enc x)[j]? = some v → (l.flatMap enc)[i * esz + j]? = some v
  | [], i, x, j, v, h, _ => by simp at h
  | y :: l, 0, x, j, v, h, hj => by
    simp only [List.getElem?_cons_zero, Option.some.injEq] at h
    subst h
    rw [List.flatMap_cons, Nat.zero_mul, Nat.zero_add, List.getElem?_append_left (List.getElem?_eq_some_iff.1 hj).1]
    exact hj
  | y :: l, i + 1, x, j, v, h, hj => by
    rw [List.getElem?_cons_succ] at h
    rw [List.flatMap_cons, List.getElem?_append_right (by rw [he, Nat.succ_mul]; omega), he, show (i + 1) * esz + j - esz = i * esz + j by rw [Nat.succ_mul]; omega]
    exact flat_get he l i x j v h hj
theorem SlO.flat {α : Type} {H : Heap} {b : Nat} {cs : List Value} {T : TypeId} {esz : Nat} {enc : α → List Value} {l : List α} [h : HAt H b cs T] (he : ∀ x, (enc x).length = esz) (hl : cs = l.flatMap enc) : SlO H (some ⟨b, 0, Option.none⟩) esz enc l :=
  SlO.blk fun i x hx => ⟨he x, fun j v hj => by rw [hl]; exact flat_get he l i x j v hx hj⟩

section
variable {P : Program} {f : FuncId} {ro : Option Nat} {N : Nat} {k : List Item} {E : Env} {D : List Deferred} {H : Heap} {Q : Out → Heap → Prop}
variable {ops : Array Oper} {l : List Oper}
variable {d : Nat} {x y : Operand} {T ty : TypeId} {pos : String} {af : Array Edge} {g : Option (Nat × Bool)}

def atI (oa : Option Addr) (n : Nat) : Option Addr := match oa with | some a => some (a.add n) | Option.none => Option.none

theorem visg {α : Type} {enc : α → List Value} {xs : List α} {oa : Option Addr} {n c e esz : Nat} {kd : IntKind} {i : Int} {z : α} [hT : TSl P T e esz] [hS : SlO H oa esz enc xs] (hx : ev E x = some (.slice oa n c)) (hy : ev E y = some (.int kd i)) (hi : 0 ≤ i ∧ i < n) (hz : xs[i.toNat]? = some z) :
    OQ P N E D H ⟨some d, .indexAddr T x y, ty, pos, af, g⟩ (.pointer (atI oa (i.toNat * esz))) :=
  ov (by simp) (fun t w hA hE => by
    obtain ⟨_, a, ob, rfl, _, _⟩ := hS.el _ _ hz
    simp [execOp, ev_eval hA hx, ev_eval hA hy, Instr.indexAt, asIntOf, run_underlying hT.und, hi, hT.size, atI])

theorem run_loadCellsG {P : Program} {w : World} {a : Addr} : ∀ (vs : List Value) (i : Nat) (acc : Array Value), (∀ j, j < vs.length → w.cell? (a.add (i + j)) = vs[j]?) →
    (loadCellsFrom a i vs.length acc).run P w = .ok (acc ++ vs.toArray) w
  | [], i, acc, _ => by simp [loadCellsFrom]
  | v :: r, i, acc, h => by
    have h0 := h 0 (by simp)
    simp only [Nat.add_zero, List.getElem?_cons_zero] at h0
    simp only [List.length_cons, loadCellsFrom]
    have hl : (load (a.add i)).run P w = .ok v w := by simp [load, Sem.run, h0]
    rw [Sem.run_bind, hl]
    simp only [Result.andThen]
    have := run_loadCellsG (P := P) (w := w) (a := a) r (i + 1) (acc.push v) (fun j hj => by
      have := h (j + 1) (by simpa using hj)
      rw [show i + 1 + j = i + (j + 1) by omega]; simpa using this)
    rw [this]
    simp

theorem vldS {α : Type} {enc : α → List Value} {xs : List α} {oa : Option Addr} {esz m : Nat} {z : α} [hT : TAg P T esz] [hS : SlO H oa esz enc xs] (hx : ev E x = some (.pointer (atI oa (m * esz)))) (hz : xs[m]? = some z) :
    OQ P N E D H ⟨some d, .load T x, ty, pos, af, g⟩ (.agg (enc z).toArray) := by
  obtain ⟨hl, a, ob, rfl, hm, hc⟩ := hS.el _ _ hz
  refine vldm (a := a.add (m * esz)) hx fun w hE => ?_
  have hob := hE.at_ _ hm
  have key := run_loadCellsG (P := P) (w := w) (a := a.add (m * esz)) (enc z) 0 #[] (fun j hj => by
    rw [add_add, Nat.zero_add, oCell_eq (ob := ob) (by rw [add_block]; exact hob), hc j _ (List.getElem?_eq_getElem hj), List.getElem?_eq_getElem hj])
  simp only [loadVar, Sem.run_bind, hT.agg, Result.andThen, if_true, hT.size, Sem.run_pure]
  rw [hl] at key
  rw [loadCells, key]
  simp
theorem vldS1 {α : Type} {enc : α → List Value} {xs : List α} {oa : Option Addr} {m : Nat} {z : α} {v : Value} [hT : TSc P T] [hS : SlO H oa 1 enc xs] (hx : ev E x = some (.pointer (atI oa (m * 1)))) (hz : xs[m]? = some z) (hv : enc z = [v]) :
    OQ P N E D H ⟨some d, .load T x, ty, pos, af, g⟩ v := by
  obtain ⟨hl, a, ob, rfl, hm, hc⟩ := hS.el _ _ hz
  refine vldm (a := a.add (m * 1)) hx fun w hE => ?_
  have hob := hE.at_ _ hm
  have h1 : w.cell? (a.add (m * 1)) = some v := by
    have := hc 0 v (by rw [hv]; rfl)
    rw [oCell_eq (ob := ob) (by rw [add_block]; exact hob)]; exact this
  simp only [loadVar, Sem.run_bind, hT.agg, Result.andThen]
  simp only [load, Sem.run, h1, Bool.false_eq_true, if_false]
end

/-- The consumer's blocks lie behind one's own. -/
theorem VY.l1 {P : Program} {y : Value} {args : List Value} {x1 : Nat × Obj} {L B : Heap} {R : Bool → Heap → Prop} (h : VY P y args B R) : VY P y args (x1 :: (L ++ B)) (fun b H' => ∃ B', H' = x1 :: (L ++ B') ∧ R b B') := h.behind (A := x1 :: L)
theorem VY.l2 {P : Program} {y : Value} {args : List Value} {x1 x2 : Nat × Obj} {L B : Heap} {R : Bool → Heap → Prop} (h : VY P y args B R) : VY P y args (x1 :: x2 :: (L ++ B)) (fun b H' => ∃ B', H' = x1 :: x2 :: (L ++ B') ∧ R b B') := h.behind (A := x1 :: x2 :: L)
theorem VY.l3 {P : Program} {y : Value} {args : List Value} {x1 x2 x3 : Nat × Obj} {L B : Heap} {R : Bool → Heap → Prop} (h : VY P y args B R) : VY P y args (x1 :: x2 :: x3 :: (L ++ B)) (fun b H' => ∃ B', H' = x1 :: x2 :: x3 :: (L ++ B') ∧ R b B') := h.behind (A := x1 :: x2 :: x3 :: L)
theorem get_of_lt {α : Type} (l : List α) {i : Nat} (h : i < l.length) : ∃ z, l[i]? = some z := ⟨_, List.getElem?_eq_getElem h⟩
theorem take_succ_of {α : Type} {l : List α} {i : Nat} {z : α} (h : l[i]? = some z) : l.take (i + 1) = l.take i ++ [z] := by
  rw [List.take_add_one, h]; rfl
/-! ### Contracts among other blocks -/
theorem VHas.perm {P : Program} {gf : FuncId} {al : List Value} {v : Value} {A A' B B' : Heap} (hp : A.Perm B) (hp' : A'.Perm B') (h : VHas P gf al v A A') : VHas P gf al v B B' := by
  intro w cs hE
  obtain ⟨o, w', m', H', ⟨h2, h3⟩, hFr, hs⟩ := h w cs (hE.perm hp.symm)
  subst h3
  exact ⟨o, w', m', _, ⟨h2, rfl⟩, hFr.perm hp hp', hs⟩
theorem sub_perm {A H : Heap} (hs : A.Sublist H) : ∃ B, H.Perm (A ++ B) := by
  induction hs with
  | slnil => exact ⟨[], .refl _⟩
  | cons x _ ih => obtain ⟨B, hB⟩ := ih; exact ⟨x :: B, (hB.cons x).trans List.perm_middle.symm⟩
  | cons_cons x _ ih => obtain ⟨B, hB⟩ := ih; exact ⟨B, hB.cons x⟩
/-- Blocks that are there and are kept. -/
theorem VHas.keepSub {P : Program} {gf : FuncId} {al : List Value} {v : Value} {A H : Heap} (h : VHas P gf al v A A) (hs : A.Sublist H) : VHas P gf al v H H := by
  obtain ⟨B, hB⟩ := sub_perm hs
  exact (h.frame (B := B)).perm hB.symm hB.symm
end Go.Proofs.YtaplkoimhecacaaDoor
namespace Go.Proofs.YtaplkoimhecacaaDoor

/-- A region is the tight one of some points. -/
structure Tot (l : List Pt) (t : Rg) : Prop where
  mem : ∀ p ∈ l, inR t p
  xlo : ∃ p ∈ l, p.x = t.x.lo
  xhi : ∃ p ∈ l, p.x = t.x.hi
  ylo : ∃ p ∈ l, p.y = t.y.lo
  yhi : ∃ p ∈ l, p.y = t.y.hi
  slo : ∃ p ∈ l, p.x + p.y = t.s.lo
  shi : ∃ p ∈ l, p.x + p.y = t.s.hi
  dlo : ∃ p ∈ l, p.x - p.y = t.d.lo
  dhi : ∃ p ∈ l, p.x - p.y = t.d.hi

theorem Tot.one (p : Pt) : Tot [p] ((ofP p).map2 Bd.span (ofP p)) := by
  refine ⟨fun q hq => ?_, ?_, ?_, ?_, ?_, ?_, ?_, ?_, ?_⟩
  · rw [List.mem_singleton.1 hq]; unfold inR ofP Rg.map2 Bd.span; simp only; omega
  all_goals exact ⟨p, by simp, by simp only [ofP, Rg.map2, Bd.span]; omega⟩

theorem pick_min {l : List Pt} {q : Pt} (f : Pt → Int) {a : Int} (h : ∃ p ∈ l, f p = a) : ∃ p ∈ l ++ [q], f p = min a (f q) := by
  obtain ⟨p, hp, e⟩ := h
  rcases Int.le_total a (f q) with h1 | h1
  · exact ⟨p, by simp [hp], by omega⟩
  · exact ⟨q, by simp, by omega⟩
theorem pick_max {l : List Pt} {q : Pt} (f : Pt → Int) {a : Int} (h : ∃ p ∈ l, f p = a) : ∃ p ∈ l ++ [q], f p = max a (f q) := by
  obtain ⟨p, hp, e⟩ := h
  rcases Int.le_total a (f q) with h1 | h1
  · exact ⟨q, by simp, by omega⟩
  · exact ⟨p, by simp [hp], by omega⟩

theorem Tot.snoc {l : List Pt} {t : Rg} (h : Tot l t) (q : Pt) : Tot (l ++ [q]) (t.map2 Bd.span (ofP q)) := by
  refine ⟨fun p hp => ?_, pick_min Pt.x h.xlo, pick_max Pt.x h.xhi, pick_min Pt.y h.ylo, pick_max Pt.y h.yhi, pick_min (fun p => p.x + p.y) h.slo, pick_max (fun p => p.x + p.y) h.shi, pick_min (fun p => p.x - p.y) h.dlo, pick_max (fun p => p.x - p.y) h.dhi⟩
  rcases List.mem_append.1 hp with hp | hp
  · have := h.mem p hp
    unfold inR ofP Rg.map2 Bd.span at *; simp only; omega
  · rw [List.mem_singleton.1 hp]; unfold inR ofP Rg.map2 Bd.span; simp only; omega

theorem tot_fold : ∀ (l pre : List Pt) (g t : Rg), Tot pre g → l.foldl addP (some g) = some t → Tot (pre ++ l) t
  | [], pre, g, t, h, e => by simp at e; subst e; simpa using h
  | q :: l, pre, g, t, h, e => by
    have := tot_fold l (pre ++ [q]) _ t (h.snoc q) e
    simpa using this
theorem hullP_tot {l : List Pt} {t : Rg} (h : hullP l = some t) : Tot l t := by
  cases l with
  | nil => simp [hullP] at h
  | cons q l => exact tot_fold l [q] _ t (Tot.one q) h
theorem fold_some : ∀ (l : List Pt) (g : Rg), ∃ t, l.foldl addP (some g) = some t
  | [], g => ⟨g, rfl⟩
  | _ :: l, _ => fold_some l _
theorem hullP_none {l : List Pt} : hullP l = none ↔ l = [] := by
  cases l with
  | nil => simp [hullP]
  | cons q l =>
    obtain ⟨t, h⟩ := fold_some l ((ofP q).map2 Bd.span (ofP q))
    have h2 : hullP (q :: l) = some t := h
    simp [h2]
/-- The tight region of a list is one alone. -/
theorem Tot.uniq {l l' : List Pt} {t t' : Rg} (h : Tot l t) (h' : Tot l' t') (e : ∀ p, p ∈ l ↔ p ∈ l') : t = t' := by
  have key : ∀ {l l' : List Pt} {t t' : Rg}, Tot l t → Tot l' t' → (∀ p, p ∈ l → p ∈ l') → (t'.x.lo ≤ t.x.lo ∧ t.x.hi ≤ t'.x.hi) ∧ (t'.y.lo ≤ t.y.lo ∧ t.y.hi ≤ t'.y.hi) ∧ (t'.s.lo ≤ t.s.lo ∧ t.s.hi ≤ t'.s.hi) ∧ (t'.d.lo ≤ t.d.lo ∧ t.d.hi ≤ t'.d.hi) := by
    intro l l' t t' h h' e
    obtain ⟨p1, m1, e1⟩ := h.xlo
    obtain ⟨p2, m2, e2⟩ := h.xhi
    obtain ⟨p3, m3, e3⟩ := h.ylo
    obtain ⟨p4, m4, e4⟩ := h.yhi
    obtain ⟨p5, m5, e5⟩ := h.slo
    obtain ⟨p6, m6, e6⟩ := h.shi
    obtain ⟨p7, m7, e7⟩ := h.dlo
    obtain ⟨p8, m8, e8⟩ := h.dhi
    have := h'.mem p1 (e _ m1)
    have := h'.mem p2 (e _ m2)
    have := h'.mem p3 (e _ m3)
    have := h'.mem p4 (e _ m4)
    have := h'.mem p5 (e _ m5)
    have := h'.mem p6 (e _ m6)
    have := h'.mem p7 (e _ m7)
    have := h'.mem p8 (e _ m8)
    unfold inR at *
    refine ⟨⟨?_, ?_⟩, ⟨?_, ?_⟩, ⟨?_, ?_⟩, ⟨?_, ?_⟩⟩ <;> omega
  have k1 := key h h' (fun p => (e p).1)
  have k2 := key h' h (fun p => (e p).2)
  obtain ⟨⟨a1, a2⟩, ⟨b1, b2⟩, ⟨c1, c2⟩, d1, d2⟩ := k1
  obtain ⟨⟨a3, a4⟩, ⟨b3, b4⟩, ⟨c3, c4⟩, d3, d4⟩ := k2
  have ex : ∀ (a b : Bd), a.lo = b.lo → a.hi = b.hi → a = b := fun a b h1 h2 => by cases a; cases b; simp_all
  have hx := ex t.x t'.x (by omega) (by omega)
  have hy := ex t.y t'.y (by omega) (by omega)
  have hs := ex t.s t'.s (by omega) (by omega)
  have hd := ex t.d t'.d (by omega) (by omega)
  cases t; cases t'; simp_all

/-! ### Tight regions -/
theorem tight_tot {r t : Rg} (h : tightP r = some t) : Tot (endsOf r) t := hullP_tot h
theorem ends_in {r : Rg} {p : Pt} (h : p ∈ endsOf r) : inR r p := (mem_ends.1 h).1
theorem Tot.sub {l : List Pt} {r t : Rg} (h : Tot l t) (hr : ∀ p ∈ l, inR r p) : (r.x.lo ≤ t.x.lo ∧ t.x.lo ≤ t.x.hi ∧ t.x.hi ≤ r.x.hi) ∧ (r.y.lo ≤ t.y.lo ∧ t.y.lo ≤ t.y.hi ∧ t.y.hi ≤ r.y.hi) ∧ (r.s.lo ≤ t.s.lo ∧ t.s.lo ≤ t.s.hi ∧ t.s.hi ≤ r.s.hi) ∧ (r.d.lo ≤ t.d.lo ∧ t.d.lo ≤ t.d.hi ∧ t.d.hi ≤ r.d.hi) := by
  obtain ⟨p1, m1, e1⟩ := h.xlo
  obtain ⟨p2, m2, e2⟩ := h.xhi
  obtain ⟨p3, m3, e3⟩ := h.ylo
  obtain ⟨p4, m4, e4⟩ := h.yhi
  obtain ⟨p5, m5, e5⟩ := h.slo
  obtain ⟨p6, m6, e6⟩ := h.shi
  obtain ⟨p7, m7, e7⟩ := h.dlo
  obtain ⟨p8, m8, e8⟩ := h.dhi
  have a1 := hr _ m1
  have a2 := hr _ m2
  have a3 := hr _ m3
  have a4 := hr _ m4
  have a5 := hr _ m5
  have a6 := hr _ m6
  have a7 := hr _ m7
  have a8 := hr _ m8
  have b := h.mem p1 m1
  unfold inR at *
  refine ⟨⟨?_, ?_, ?_⟩, ⟨?_, ?_, ?_⟩, ⟨?_, ?_, ?_⟩, ?_, ?_, ?_⟩ <;> omega
theorem tight_sub {r t : Rg} (h : tightP r = some t) : (r.x.lo ≤ t.x.lo ∧ t.x.lo ≤ t.x.hi ∧ t.x.hi ≤ r.x.hi) ∧ (r.y.lo ≤ t.y.lo ∧ t.y.lo ≤ t.y.hi ∧ t.y.hi ≤ r.y.hi) ∧ (r.s.lo ≤ t.s.lo ∧ t.s.lo ≤ t.s.hi ∧ t.s.hi ≤ r.s.hi) ∧ (r.d.lo ≤ t.d.lo ∧ t.d.lo ≤ t.d.hi ∧ t.d.hi ≤ r.d.hi) :=
  (tight_tot h).sub fun _ hp => ends_in hp
theorem tight_sm {r t : Rg} {m : Int} (h : tightP r = some t) (hs : r.sm m) : t.sm m := by
  have := tight_sub h; unfold Rg.sm Bd.sm at *; omega
theorem tight_ok {r t : Rg} (h : tightP r = some t) (hs : r.ok) : t.ok := by
  have := tight_sub h; unfold Rg.ok Bd.fits at *; omega
/-- The ends of a point's row. -/
theorem row_ends {r : Rg} {p : Pt} (h : inR r p) : (⟨p.x, (rowOf r p.x).a⟩ : Pt) ∈ endsOf r ∧ (⟨p.x, (rowOf r p.x).b⟩ : Pt) ∈ endsOf r := by
  have h1 := inR_row.1 h
  constructor
  · refine mem_ends.2 ⟨inR_row.2 ⟨h1.1, ?_, ?_⟩, .inl rfl⟩ <;> simp only <;> omega
  · refine mem_ends.2 ⟨inR_row.2 ⟨h1.1, ?_, ?_⟩, .inr rfl⟩ <;> simp only <;> omega
theorem in_between {t : Rg} {x a b y : Int} (ha : inR t ⟨x, a⟩) (hb : inR t ⟨x, b⟩) (h1 : a ≤ y) (h2 : y ≤ b) : inR t ⟨x, y⟩ := by
  unfold inR at *; simp only at *; omega
theorem tight_in {r t : Rg} (h : tightP r = some t) (p : Pt) : inR t p ↔ inR r p := by
  constructor
  · intro hp
    have := tight_sub h
    unfold inR at *; omega
  · intro hp
    obtain ⟨h1, h2⟩ := row_ends hp
    have h3 := inR_row.1 hp
    exact in_between ((tight_tot h).mem _ h1) ((tight_tot h).mem _ h2) h3.2.1 h3.2.2
theorem tight_none {r : Rg} : tightP r = none ↔ ∀ p, ¬ inR r p := by
  unfold tightP; rw [hullP_none]
  constructor
  · intro h p hp
    have := (row_ends hp).1; rw [h] at this; cases this
  · intro h
    cases he : endsOf r with
    | nil => rfl
    | cons p l => exact (h p (ends_in (by rw [he]; simp))).elim
/-! ### What the functions compute -/
def chk2 (a b : Rg) : Int := if a.ok ∧ b.ok then 0 else 11
theorem chk2_zero {a b : Rg} : chk2 a b = 0 ↔ a.ok ∧ b.ok := by unfold chk2; split <;> simp_all
def meetE (a b : Rg) : RE := if chk2 a b = 0 then optE (tightP (a.map2 Bd.cut b)) else (zR, chk2 a b)
/-- Two tight regions, and the error. -/
def twoE (a b : Rg) : Rg × Rg × Int := if chk2 a b = 0 then (match tightP a, tightP b with | some x, some y => (x, y, 0) | _, _ => (zR, zR, 4)) else (zR, zR, chk2 a b)
def Pt.okV (p : Pt) : Prop := (-65536 ≤ p.x ∧ p.x ≤ 65536) ∧ (-65536 ≤ p.y ∧ p.y ≤ 65536)
instance (p : Pt) : Decidable p.okV := by unfold Pt.okV; exact inferInstance
theorem cut_sm {a b : Rg} {m : Int} (ha : a.sm m) (hb : b.sm m) : (a.map2 Bd.cut b).sm m := by
  unfold Rg.sm Bd.sm Rg.map2 Bd.cut at *; simp only; omega
theorem minus_sm {a b : Rg} {m n : Int} (ha : a.sm m) (hb : b.sm n) : (a.map2 Bd.minus b).sm (m + n) := by
  unfold Rg.sm Bd.sm Rg.map2 Bd.minus at *; simp only; omega
theorem zR_sm : zR.sm 65536 := by unfold Rg.sm Bd.sm zR; simp only; omega
theorem twoE_sm (a b : Rg) : (twoE a b).1.sm 65536 ∧ (twoE a b).2.1.sm 65536 := by
  unfold twoE
  split
  · rename_i h
    have h := chk2_zero.1 h
    split
    · rename_i x y hx hy
      exact ⟨tight_sm hx h.1.sm, tight_sm hy h.2.sm⟩
    · exact ⟨zR_sm, zR_sm⟩
  · exact ⟨zR_sm, zR_sm⟩
end Go.Proofs.YtaplkoimhecacaaDoor
namespace Go.Proofs.YtaplkoimhecacaaDoor

theorem sq_mono {a b : Int} (ha : 0 ≤ a) (h : a ≤ b) : a * a ≤ b * b := Int.mul_le_mul h h ha (by omega)
theorem sq_lt {a b : Int} (ha : 0 ≤ a) (h : a < b) : a * a < b * b := by
  have h1 : a * a ≤ a * b := Int.mul_le_mul_of_nonneg_left (by omega) ha
  have h2 : a * b < b * b := Int.mul_lt_mul_of_pos_right h (by omega)
  omega
theorem sq_nn (a : Int) : 0 ≤ a * a := by
  rcases Int.le_total 0 a with h | h
  · exact Int.mul_nonneg h h
  · have := Int.mul_nonneg (show 0 ≤ -a by omega) (show 0 ≤ -a by omega)
    rwa [Int.neg_mul_neg] at this

def IsRt (n r : Int) : Prop := 0 ≤ r ∧ r * r ≤ n ∧ n < (r + 1) * (r + 1)
theorem IsRt.uniq {n r s : Int} (h : IsRt n r) (h' : IsRt n s) : r = s := by
  obtain ⟨a1, a2, a3⟩ := h
  obtain ⟨b1, b2, b3⟩ := h'
  have h1 : r < s + 1 := by
    rcases Int.lt_or_le r (s + 1) with h | h
    · exact h
    · have := sq_mono (by omega) h; omega
  have h2 : s < r + 1 := by
    rcases Int.lt_or_le s (r + 1) with h | h
    · exact h
    · have := sq_mono (by omega) h; omega
  omega
def rootN : Nat → Int
  | 0 => 0
  | n + 1 => if (rootN n + 1) * (rootN n + 1) ≤ (n : Int) + 1 then rootN n + 1 else rootN n
theorem rootN_is : ∀ n : Nat, IsRt n (rootN n)
  | 0 => ⟨by simp [rootN], by simp [rootN], by simp [rootN]⟩
  | n + 1 => by
    obtain ⟨h1, h2, h3⟩ := rootN_is n
    have e : ((n + 1 : Nat) : Int) = (n : Int) + 1 := by omega
    unfold rootN
    split
    · rename_i h
      refine ⟨by omega, by rw [e]; exact h, ?_⟩
      have := sq_lt (show 0 ≤ rootN n + 1 by omega) (show rootN n + 1 < rootN n + 1 + 1 by omega)
      omega
    · exact ⟨h1, by omega, by omega⟩
def rootP (n : Int) : Int := rootN n.toNat
theorem rootP_is {n : Int} (h : 0 ≤ n) : IsRt n (rootP n) := by
  have := rootN_is n.toNat
  rwa [show ((n.toNat : Nat) : Int) = n by omega] at this
theorem rootP_eq {n r : Int} (h : IsRt n r) : rootP n = r := by
  have h0 : 0 ≤ n := by have := sq_nn r; unfold IsRt at h; omega
  exact (rootP_is h0).uniq h
def pw : Nat → Int
  | 0 => 1
  | j + 1 => 2 * pw j
theorem pw_pos : ∀ j, 1 ≤ pw j
  | 0 => by simp [pw]
  | j + 1 => by have := pw_pos j; simp only [pw]; omega
def bv : Nat → Int
  | 0 => 0
  | j + 1 => pw j
theorem bv_half (j : Nat) : bv (j + 1) / 2 = bv j := by
  cases j with
  | zero => simp [bv, pw]
  | succ j => simp only [bv, pw]; omega
/-- What the search for a root keeps. -/
def RtInv (n r bit : Int) : Prop := ∃ j, bit = bv j ∧ r + pw j ≤ 2097152 ∧ 0 ≤ r ∧ r * r ≤ n ∧ n < (r + pw j) * (r + pw j)
theorem RtInv.start {n : Int} (h : 0 ≤ n ∧ n ≤ 1099511627776 * 2) : RtInv n 0 1048576 := ⟨21, by decide, by decide, by omega, by omega, by
  have : pw 21 = 2097152 := by decide
  rw [this]; omega⟩
theorem RtInv.yes {n r bit : Int} (h : RtInv n r bit) (hb : bit > 0) (hle : (r + bit) * (r + bit) ≤ n) : RtInv n (r + bit) (bit / 2) := by
  obtain ⟨j, rfl, h1, h2, h3, h4⟩ := h
  cases j with
  | zero => simp [bv] at hb
  | succ j =>
    have hp := pw_pos j
    refine ⟨j, bv_half j, ?_, ?_, hle, ?_⟩
    · simp only [bv, pw] at *; omega
    · simp only [bv, pw] at *; omega
    · have e : r + bv (j + 1) + pw j = r + pw (j + 1) := by simp only [bv, pw]; omega
      rw [e]; exact h4
theorem RtInv.no {n r bit : Int} (h : RtInv n r bit) (hb : bit > 0) (hle : ¬ (r + bit) * (r + bit) ≤ n) : RtInv n r (bit / 2) := by
  obtain ⟨j, rfl, h1, h2, h3, h4⟩ := h
  cases j with
  | zero => simp [bv] at hb
  | succ j =>
    have hp := pw_pos j
    refine ⟨j, bv_half j, ?_, h2, h3, ?_⟩
    · simp only [pw] at *; omega
    · simp only [bv] at hle; omega
theorem RtInv.done {n r bit : Int} (h : RtInv n r bit) (hb : ¬ bit > 0) : IsRt n r := by
  obtain ⟨j, rfl, h1, h2, h3, h4⟩ := h
  cases j with
  | zero => exact ⟨h2, h3, h4⟩
  | succ j => have := pw_pos j; simp only [bv] at hb; omega
theorem RtInv.bd {n r bit : Int} (h : RtInv n r bit) : (0 ≤ r ∧ r ≤ 2097152) ∧ 0 ≤ bit ∧ bit ≤ 2097152 ∧ r + bit ≤ 2097152 := by
  obtain ⟨j, rfl, h1, h2, h3, h4⟩ := h
  have := pw_pos j
  cases j with
  | zero => simp only [bv, pw] at *; omega
  | succ j => have := pw_pos j; simp only [bv, pw] at *; omega
theorem mul_bd {a b m : Int} (ha : 0 ≤ a ∧ a ≤ m) (hb : 0 ≤ b ∧ b ≤ m) : 0 ≤ a * b ∧ a * b ≤ m * m := ⟨Int.mul_nonneg ha.1 hb.1, Int.mul_le_mul ha.2 hb.2 hb.1 (by omega)⟩

/-! ### How far -/
def half2 (s : Int) : Int := s / 2 * (s / 2) + (s - s / 2) * (s - s / 2)
theorem half2_least {x y : Int} (hx : 0 ≤ x) (hy : 0 ≤ y) : half2 (x + y) ≤ x * x + y * y := by
  -- with s = x + y and h its half: (x - h)(x - h) and the like
  have key : ∀ h g d : Int, g = h ∨ g = h + 1 → x = h + d → y = g - d → h * h + g * g ≤ x * x + y * y := by
    intro h g d hg e1 e2
    subst e1; subst e2
    have hd : 0 ≤ d * d := sq_nn d
    have ex : (h + d) * (h + d) + (g - d) * (g - d) = h * h + g * g + 2 * (d * d) - 2 * ((g - h) * d) := by
      simp only [Int.add_mul, Int.mul_add, Int.sub_mul, Int.mul_sub, Int.mul_comm d h, Int.mul_comm d g]; omega
    rw [ex]
    rcases hg with rfl | rfl
    · simp; omega
    · have : (h + 1 - h) * d = d := by rw [show h + 1 - h = 1 by omega, Int.one_mul]
      rw [this]
      have hdd : d ≤ d * d := by
        rcases Int.le_total d 0 with h0 | h0
        · omega
        · rcases Int.lt_or_le d 1 with h1 | h1
          · have : d = 0 := by omega
            subst this; omega
          · have := Int.mul_le_mul_of_nonneg_right h1 h0; omega
      omega
  unfold half2
  exact key _ _ (x - (x + y) / 2) (by omega) (by omega) (by omega)
theorem half2_two (s : Int) : s * s ≤ 2 * half2 s := by
  unfold half2
  have e : s = s / 2 + (s - s / 2) := by omega
  generalize s / 2 = a at e ⊢
  generalize hb : s - a = b at e ⊢
  subst e
  have : 0 ≤ (a - b) * (a - b) := sq_nn _
  simp only [Int.add_mul, Int.mul_add, Int.sub_mul, Int.mul_sub, Int.mul_comm b a] at *
  omega
/-- s is the greatest one that can be. -/
def IsFar (n s : Int) : Prop := 0 ≤ s ∧ half2 s ≤ n * n ∧ ∀ s', s < s' → n * n < half2 s'
theorem IsFar.uniq {n s t : Int} (h : IsFar n s) (h' : IsFar n t) : s = t := by
  obtain ⟨_, a2, a3⟩ := h
  obtain ⟨_, b2, b3⟩ := h'
  rcases Int.lt_or_le s t with h1 | h1
  · have := a3 t h1; omega
  · rcases Int.lt_or_le t s with h2 | h2
    · have := b3 s h2; omega
    · omega
def farN (n : Int) : Nat → Int
  | 0 => 0
  | k + 1 => if half2 ((k : Int) + 1) ≤ n * n then (k : Int) + 1 else farN n k
def farP (n : Int) : Int := farN n (2 * n).toNat
theorem farN_is (n : Int) : ∀ k : Nat, (∀ s', (k : Int) < s' → n * n < half2 s') → IsFar n (farN n k)
  | 0, h => ⟨by simp [farN], by have := sq_nn n; simp only [farN]; rw [show half2 0 = 0 by decide]; exact this, fun s' hs => h s' (by simpa [farN] using hs)⟩
  | k + 1, h => by
    unfold farN
    split
    · rename_i hle
      exact ⟨by omega, hle, fun s' hs => h s' (by omega)⟩
    · rename_i hle
      refine farN_is n k fun s' hs => ?_
      by_cases e : s' = (k : Int) + 1
      · subst e; omega
      · exact h s' (by omega)
theorem farP_is {n : Int} (h : 0 ≤ n) : IsFar n (farP n) := by
  refine farN_is n _ fun s' hs => ?_
  have h1 : 2 * n < s' := by omega
  have h2 := sq_lt (show 0 ≤ 2 * n by omega) h1
  have h3 := half2_two s'
  have h4 : 2 * n * (2 * n) = 4 * (n * n) := by
    rw [Int.mul_assoc, Int.mul_left_comm n 2 n, ← Int.mul_assoc]
    rfl
  have := sq_nn n
  omega
theorem farP_eq {n s : Int} (h0 : 0 ≤ n) (h : IsFar n s) : farP n = s := (farP_is h0).uniq h
/-- From a root of twice the square on, nothing is near enough. -/
theorem far_start {n s : Int} (h : IsRt (2 * n * n) s) : ∀ s', s < s' → n * n < half2 s' := by
  intro s' hs
  obtain ⟨h1, h2, h3⟩ := h
  have h4 := sq_mono (show 0 ≤ s + 1 by omega) (show s + 1 ≤ s' by omega)
  have h5 := half2_two s'
  rw [Int.mul_assoc] at h3
  omega
theorem far_bd {n s : Int} (h : IsFar n s) (hn : 0 ≤ n) : s ≤ 2 * n := by
  obtain ⟨h1, h2, _⟩ := h
  rcases Int.lt_or_le (2 * n) s with h3 | h3
  · exfalso
    have h4 := sq_lt (show 0 ≤ 2 * n by omega) h3
    have h5 := half2_two s
    have h6 : 2 * n * (2 * n) = 4 * (n * n) := by
      rw [Int.mul_assoc, Int.mul_left_comm n 2 n, ← Int.mul_assoc]; rfl
    have := sq_nn n
    omega
  · exact h3
/-- The widest of the reference. -/
theorem far_of_widest {n s : Int} (_hn : 0 ≤ n) (hs : ∃ a b, 0 ≤ a ∧ 0 ≤ b ∧ a * a + b * b ≤ n * n ∧ a + b = s) (hall : ∀ a b, 0 ≤ a → 0 ≤ b → a * a + b * b ≤ n * n → a + b ≤ s) : IsFar n s := by
  obtain ⟨a, b, ha, hb, hab, rfl⟩ := hs
  refine ⟨by omega, Int.le_trans (half2_least ha hb) hab, fun s' hs => ?_⟩
  rcases Int.lt_or_le (n * n) (half2 s') with h | h
  · exact h
  · have := hall (s' / 2) (s' - s' / 2) (by omega) (by omega) h; omega

def intoI (l n : Int) : Int := max (-l) (min n l)
def Bd.wide (b : Bd) (n l : Int) : Bd := ⟨intoI l (b.lo - n), intoI l (b.hi + n)⟩
def wideR (x : Rg) (n m : Int) : Rg := ⟨x.x.wide n 32768, x.y.wide n 32768, x.s.wide m 65536, x.d.wide m 65536⟩
theorem wideR_sm (x : Rg) (n m : Int) : (wideR x n m).sm 65536 := by
  unfold Rg.sm Bd.sm wideR Bd.wide intoI; simp only; omega
def reachE (r : Rg) (n : Int) : RE := if r.ok then (if 0 ≤ n ∧ n ≤ 32768 then (match tightP r with | some x => optE (tightP (wideR x n (farP n))) | none => (zR, 4)) else (zR, 7)) else (zR, 11)
end Go.Proofs.YtaplkoimhecacaaDoor
namespace Go.Proofs.YtaplkoimhecacaaDoor

/-! ### The best of a list -/
def bestS {α : Type} (better : α → α → Bool) (b : Option α) (x : α) : Option α := match b with | none => some x | some y => if better x y = true then some x else some y
def pickL {α : Type} (better : α → α → Bool) (l : List α) : Option α := l.foldl (bestS better) none
theorem pick_n {α : Type} {better : α → α → Bool} {pre : List α} {x : α} (h : (!(pickL better pre).isSome) = true) : pickL better (pre ++ [x]) = some x := by
  simp only [pickL, List.foldl_append, List.foldl_cons, List.foldl_nil]
  have := optN h; unfold pickL at this; rw [this]; rfl
theorem pick_y {α : Type} {better : α → α → Bool} {z : α} {pre : List α} {x : α} (h : (!(pickL better pre).isSome) = false) (hb : better x ((pickL better pre).getD z) = true) : pickL better (pre ++ [x]) = some x := by
  simp only [pickL, List.foldl_append, List.foldl_cons, List.foldl_nil]
  obtain ⟨g, hg⟩ := optS h
  rw [hg] at hb
  unfold pickL at hg; rw [hg]
  exact if_pos hb
theorem pick_k {α : Type} {better : α → α → Bool} {z : α} {pre : List α} {x : α} (h : (!(pickL better pre).isSome) = false) (hb : better x ((pickL better pre).getD z) = false) : pickL better (pre ++ [x]) = pickL better pre := by
  simp only [pickL, List.foldl_append, List.foldl_cons, List.foldl_nil]
  obtain ⟨g, hg⟩ := optS h
  rw [hg] at hb
  unfold pickL at hg; rw [hg]
  exact if_neg (by simp at hb; simp [hb])

/-- A valued place. -/
structure Vd where
  n : Int
  p : Pt
  deriving DecidableEq
def zP : Pt := ⟨0, 0⟩
def zB : Bd := ⟨0, 0⟩
def val (v p : Pt) : Vd := ⟨v.x * p.x + v.y * p.y, p⟩
structure Pk where
  lo : Int
  hi : Int
  a : Pt
  t : Pt
  deriving DecidableEq
def Pt.okS (p : Pt) : Prop := (-1000 ≤ p.x ∧ p.x ≤ 1000) ∧ (-1000 ≤ p.y ∧ p.y ≤ 1000)
instance (p : Pt) : Decidable p.okS := by unfold Pt.okS; exact inferInstance
/-! ### Squared distances -/
def nearY (p : Pt) (w : Rw) : Int := max w.a (min p.y w.b) - p.y
def sqI (p : Pt) (w : Rw) : Bd := ⟨(w.x - p.x) * (w.x - p.x) + nearY p w * nearY p w, (w.x - p.x) * (w.x - p.x) + max ((w.a - p.y) * (w.a - p.y)) ((w.b - p.y) * (w.b - p.y))⟩
def sqS (b : Option Bd) (i : Bd) : Option Bd := some ((b.getD i).span i)
def sqL (l : List Bd) : Option Bd := l.foldl sqS none
def sqP (r : Rg) (p : Pt) : Option Bd := sqL ((rows r).map (sqI p))
def lessB (a b : Bd) : Bool := decide (a.lo < b.lo)
def moreB (a b : Bd) : Bool := decide (a.hi > b.hi)
/-- Three searches, side by side. -/
def SqR : Option Bd → Option Bd → Option Bd → Prop
  | none, none, none => True
  | some a, some b, some o => a.lo = o.lo ∧ b.hi = o.hi
  | _, _, _ => False
theorem sq_step {a b o : Option Bd} (h : SqR a b o) (i : Bd) : SqR (bestS lessB a i) (bestS moreB b i) (sqS o i) := by
  cases a <;> cases b <;> cases o <;> simp only [SqR] at h
  · simp only [bestS, sqS, SqR, Option.getD_none, Bd.span]; omega
  · rename_i a b o
    simp only [bestS, sqS, Option.getD_some, lessB, moreB, decide_eq_true_eq]
    split <;> split <;> simp only [SqR, Bd.span] <;> omega
theorem sq_fold : ∀ (l : List Bd) {a b o : Option Bd}, SqR a b o → SqR (l.foldl (bestS lessB) a) (l.foldl (bestS moreB) b) (l.foldl sqS o)
  | [], _, _, _, h => h
  | i :: l, _, _, _, h => sq_fold l (sq_step h i)
theorem sq_pick (l : List Bd) : SqR (pickL lessB l) (pickL moreB l) (sqL l) := sq_fold l (a := none) (b := none) (o := none) True.intro
theorem sq_pick_lo (l : List Bd) : ((pickL lessB l).getD zB).lo = ((sqL l).getD zB).lo := by
  have := sq_pick l
  cases h1 : pickL lessB l <;> cases h2 : pickL moreB l <;> cases h3 : sqL l <;> simp_all [SqR]
theorem sq_pick_hi (l : List Bd) : ((pickL moreB l).getD zB).hi = ((sqL l).getD zB).hi := by
  have := sq_pick l
  cases h1 : pickL lessB l <;> cases h2 : pickL moreB l <;> cases h3 : sqL l <;> simp_all [SqR]
theorem sq_pick_some (l : List Bd) : (pickL lessB l).isSome = (sqL l).isSome := by
  have := sq_pick l
  cases h1 : pickL lessB l <;> cases h2 : pickL moreB l <;> cases h3 : sqL l <;> simp_all [SqR]
/-- A bound, or none, and the error. -/
abbrev BE := Bd × Int
def gapE (a b : Rg) : BE := if (twoE a b).2.2 = 0 then ((sqP ((twoE a b).1.map2 Bd.minus (twoE a b).2.1) zP).getD zB, 0) else (zB, (twoE a b).2.2)
end Go.Proofs.YtaplkoimhecacaaDoor
namespace Go.Proofs.YtaplkoimhecacaaDoor
open Go
class TSg (P : Program) (T : TypeId) : Prop where
  und : P.underlying T = some .string
def byteAt (s : ByteArray) (i : Nat) : Int := match s[i]? with | some b => (b.toNat : Int) | Option.none => 0
section
variable {P : Program} {f : FuncId} {ro : Option Nat} {N : Nat} {k : List Item} {E : Env} {D : List Deferred} {H : Heap} {Q : Out → Heap → Prop}
variable {d : Nat} {x y : Operand} {T T' ty : TypeId} {pos : String} {af : Array Edge} {g : Option (Nat × Bool)} {a b : Int} {kd : IntKind}
theorem vlens {s : ByteArray} {ats : List TypeId} [hT : TSg P T] (hx : ev E x = some (.string s)) :
    OQ P N E D H ⟨some d, .call ⟨.builtin .len, #[x], (T :: ats).toArray⟩, ty, pos, af, g⟩ (.int .i64 (s.size : Int)) :=
  ov (by simp) (fun t w hA hE => by simp [execOp, resolve, invoke, builtin, Builtin.len_, ev_eval hA hx, run_underlying hT.und, goInt])
theorem vixs {s : ByteArray} {i : Int} [hT : TSg P T] (hx : ev E x = some (.string s)) (hy : ev E y = some (.int kd i)) (hi : 0 ≤ i ∧ i < s.size) :
    OQ P N E D H ⟨some d, .index T x y, ty, pos, af, g⟩ (.int .u8 (byteAt s i.toNat)) :=
  ov (by simp) (fun t w hA hE => by
    have hlt : i.toNat < s.size := by omega
    have hg : s[i.toNat]? = some s[i.toNat] := getElem?_pos s i.toNat hlt
    have hb : byteAt s i.toNat = (s[i.toNat].toNat : Int) := by unfold byteAt; rw [hg]
    have hr : (Instr.index T (.string s) (.int kd i)).run P w = .ok (.int .u8 (byteAt s i.toNat)) w := by
      simp only [Instr.index, asIntOf, Sem.run_bind, Sem.run_pure, run_underlying hT.und, Result.andThen]
      rw [if_pos hi.1, hg, hb]
      simp
    simp [execOp, ev_eval hA hx, ev_eval hA hy, hr])
theorem vlssk (hx : ev E x = some (.int kd a)) (hy : ev E y = some (.int kd b)) :
    OQ P N E D H ⟨some d, .binOp .lss T x y T', ty, pos, af, g⟩ (.bool (decide (a < b))) :=
  ov (by simp) (fun t w hA _ => by simp [execOp, ev_eval hA hx, ev_eval hA hy, binOp, eqGuard, Op.intCmp])
theorem vleqk (hx : ev E x = some (.int kd a)) (hy : ev E y = some (.int kd b)) :
    OQ P N E D H ⟨some d, .binOp .leq T x y T', ty, pos, af, g⟩ (.bool (decide (a ≤ b))) :=
  ov (by simp) (fun t w hA _ => by simp [execOp, ev_eval hA hx, ev_eval hA hy, binOp, eqGuard, Op.intCmp])
theorem vgtrk (hx : ev E x = some (.int kd a)) (hy : ev E y = some (.int kd b)) :
    OQ P N E D H ⟨some d, .binOp .gtr T x y T', ty, pos, af, g⟩ (.bool (decide (b < a))) :=
  ov (by simp) (fun t w hA _ => by simp [execOp, ev_eval hA hx, ev_eval hA hy, binOp, eqGuard, Op.intCmp])
theorem vgeqk (hx : ev E x = some (.int kd a)) (hy : ev E y = some (.int kd b)) :
    OQ P N E D H ⟨some d, .binOp .geq T x y T', ty, pos, af, g⟩ (.bool (decide (b ≤ a))) :=
  ov (by simp) (fun t w hA _ => by simp [execOp, ev_eval hA hx, ev_eval hA hy, binOp, eqGuard, Op.intCmp])
end
/-! ### Names -/
def letP (c : Int) : Prop := 97 ≤ c ∧ c ≤ 122
def goodP (s : ByteArray) (i : Nat) : Prop := letP (byteAt s i) ∨ i ≠ 0 ∧ (byteAt s i = 95 ∨ 48 ≤ byteAt s i ∧ byteAt s i ≤ 57)
def nameP (s : ByteArray) : Prop := (1 ≤ s.size ∧ s.size ≤ 16) ∧ ∀ i, i < s.size → goodP s i
noncomputable def nameB (s : ByteArray) : Bool := @decide (nameP s) (Classical.propDecidable _)
theorem nameB_t {s : ByteArray} (h : nameP s) : nameB s = true := by unfold nameB; exact @decide_eq_true _ (Classical.propDecidable _) h
theorem nameB_f {s : ByteArray} (h : ¬ nameP s) : nameB s = false := by unfold nameB; exact @decide_eq_false _ (Classical.propDecidable _) h
end Go.Proofs.YtaplkoimhecacaaDoor
namespace Go.Proofs.YtaplkoimhecacaaDoor
open Go

/-- What append asks of a slice's type. -/
class TAp (P : Program) (T : TypeId) (e size bytes : outParam Nat) : Prop where
  fact : ∃ i z, P.underlying T = some (.slice e) ∧ P.info? e = some i ∧ i.zero = some z ∧ i.size = size ∧ i.bytes = bytes ∧ z.cells.size = size

theorem mkTAp {P : Program} {T e size bytes : Nat} {z : Value} (ht : P.underlying T = some (.slice e)) (hi : (P.info? e).map (fun i => (i.zero, i.size, i.bytes)) = some (some z, size, bytes)) (hz : z.cells.size = size) : TAp P T e size bytes := by
  obtain ⟨i, h1, h2⟩ := Option.map_eq_some_iff.1 hi
  simp only [Prod.mk.injEq] at h2
  exact ⟨i, z, ht, h1, h2.1, h2.2.1, h2.2.2, hz⟩

/-- A slice of one's own: nil, or the beginning of one block. -/
def OwnS (e size : Nat) (v : Value) (n : Nat) (xs : List Value) (B : Heap) : Prop :=
  (v = .slice Option.none 0 0 ∧ n = 0 ∧ xs = [] ∧ B = []) ∨
  ∃ g cap cur, v = .slice (some ⟨g, 0, Option.none⟩) n cap ∧ B = [(g, blk cur e)] ∧ n ≤ cap ∧ cap ≤ maxLen ∧ cur.length = cap * size ∧ cur.take (n * size) = xs

theorem OwnS.nil {e size : Nat} : OwnS e size (.slice Option.none 0 0) 0 [] [] := .inl ⟨rfl, rfl, rfl, rfl⟩

theorem Fr.newD {H : Heap} {w : World} (hE : Emb H w) (o : Obj) : Fr H w ((w.heap.size, o) :: H) (w.drew.alloc o) := by
  have h := Fr.new hE o
  exact ⟨h.os, h.tape, h.output, h.size, h.keep, ⟨h.emb.nodup, h.emb.at_⟩, h.dom⟩

section
variable {P : Program} {N : Nat} {E : Env} {D : List Deferred} {H H0 B : Heap}
variable {d : Nat} {x y : Operand} {T ty : TypeId} {pos : String} {af : Array Edge} {g : Option (Nat × Bool)}

theorem vapp {v : Value} {n m c e size bytes : Nat} {xs news : List Value} {a : Addr} [hT : TAp P T e size bytes] (hx : ev E x = some v) (hy : ev E y = some (.slice (some a) m c)) (hown : OwnS e size v n xs B) (hp : H.Perm (B ++ H0))
    (hl : news.length = m * size) (hnews : ∀ j u, news[j]? = some u → ∃ ob, (a.block, ob) ∈ H ∧ oCell ob (a.add j) = some u) (h1 : ∀ u ∈ news, u.oneCell' = true) (hm : 0 < m) (h63 : n + m ≤ maxLen) (hb : (n + m) * bytes ≤ 140737488355328) :
    OG P N E D H ⟨some d, .call ⟨.builtin .append, #[x, y], #[T, T]⟩, ty, pos, af, g⟩ (fun u H' => ∃ B', OwnS e size u (n + m) (xs ++ news) B' ∧ u ≠ .slice Option.none 0 0 ∧ H' = B' ++ H0) := by
  refine ⟨by simp, fun t w hA hE => ?_⟩
  obtain ⟨i, z, ht, hi, hz, rfl, rfl, hzs⟩ := hT.fact
  have hE' := hE.perm hp
  have hcell : ∀ j u, news[j]? = some u → w.cell? (a.add j) = some u := fun j u hu => by
    obtain ⟨ob, hm, hc⟩ := hnews j u hu
    rw [oCell_eq (ob := ob) (by rw [add_block]; exact hE.at_ _ hm)]; exact hc
  have hsm : n + m ≤ 9223372036854775807 := by simp only [maxLen] at h63; omega
  have hex : ∀ (v' : Value) (w' : World) (ats : Array TypeId), (Builtin.append_ #[T, T] ty #[v, .slice (some a) m c]).run P w = .ok v' w' →
      (execOp (Act.eval ⟨t, D⟩) ⟨some d, .call ⟨.builtin .append, #[x, y], #[T, T]⟩, ty, pos, af, g⟩).run P w = .ok (.value v') w' := by
    intro v' w' _ h
    simp [execOp, resolve, invoke, builtin, ev_eval hA hx, ev_eval hA hy, h]
  -- a new block
  have fresh : ∀ (old : Nat) (B0 : Heap), old < n + m → xs.length = n * i.size → H.Perm (B0 ++ H0) →
      ∃ H', Fr H w H' (w.drew.alloc (.cells (xs.toArray ++ news.toArray ++ Builtin.zeroCells z.cells (grownCap w (n + m) old e - (n + m))) e)) ∧
        (∃ B', OwnS e i.size (.slice (some ⟨w.heap.size, 0, Option.none⟩) (n + m) (grownCap w (n + m) old e)) (n + m) (xs ++ news) B' ∧ (Value.slice (some ⟨w.heap.size, 0, Option.none⟩) (n + m) (grownCap w (n + m) old e)) ≠ .slice Option.none 0 0 ∧ H' = B' ++ H0) := by
    intro old B0 ho hlx hp0
    have hge := grownCap_ge w (n + m) old e
    have hcm : grownCap w (n + m) old e ≤ maxLen := grownCap_le_maxLen w (n + m) old e h63
    have hF := Fr.newD hE (.cells (xs.toArray ++ news.toArray ++ Builtin.zeroCells z.cells (grownCap w (n + m) old e - (n + m))) e)
    have hlen : (xs ++ news).length = (n + m) * i.size := by rw [List.length_append, hlx, hl, Nat.add_mul]
    refine ⟨[(w.heap.size, blk (xs ++ news ++ (Builtin.zeroCells z.cells (grownCap w (n + m) old e - (n + m))).toList) e)] ++ H0, ?_, _, .inr ⟨_, _, _, rfl, rfl, hge, hcm, ?_, ?_⟩, by simp, rfl⟩
    · have hs : ([(w.heap.size, Obj.cells (xs.toArray ++ news.toArray ++ Builtin.zeroCells z.cells (grownCap w (n + m) old e - (n + m))) e (0, 0))] ++ H0).Sublist ((w.heap.size, Obj.cells (xs.toArray ++ news.toArray ++ Builtin.zeroCells z.cells (grownCap w (n + m) old e - (n + m))) e (0, 0)) :: (B0 ++ H0)) :=
        List.Sublist.cons_cons _ (List.sublist_append_right _ _)
      have h3 := (hF.perm (.refl _) (hp0.cons _)).sub hs
      have e : (xs.toArray ++ news.toArray ++ Builtin.zeroCells z.cells (grownCap w (n + m) old e - (n + m))) = (xs ++ news ++ (Builtin.zeroCells z.cells (grownCap w (n + m) old e - (n + m))).toList).toArray := by
        apply Array.ext'; simp
      rw [e] at h3 ⊢
      exact h3
    · rw [List.length_append, hlen, Array.length_toList, size_zeroCells, hzs, ← Nat.add_mul]; congr 1; omega
    · rw [← hlen]; exact List.take_left
  rcases hown with ⟨rfl, rfl, rfl, rfl⟩ | ⟨gb, cap, cur, rfl, rfl, hnc, hcm, hcs, htake⟩
  · have hr := run_append_nil (P := P) w T ty e i z ht hi hz a m c news hl hcell hm (by omega) (by rw [Nat.zero_add] at hb; omega)
    obtain ⟨H', hF, hR⟩ := fresh 0 [] (by omega) (by simp) hp
    simp only [Nat.zero_add, List.nil_append, Array.empty_append] at hF hR ⊢
    exact ⟨_, _, hex _ _ #[] hr, H', hF, hR⟩
  · have hlx : xs.length = n * i.size := by rw [← htake, List.length_take, hcs, Nat.min_eq_left (Nat.mul_le_mul_right _ hnc)]
    have hg : w.heap[gb]? = some (.cells cur.toArray e (0, 0)) := hE'.at_ (gb, blk cur e) (by simp)
    by_cases hroom : n + m ≤ cap
    · have hfit : n * i.size + news.length ≤ cur.toArray.size := by rw [hl, List.size_toArray, hcs, ← Nat.add_mul]; exact Nat.mul_le_mul_right _ hroom
      have hr := run_append_room (P := P) w T ty e i ht hi gb n cap cur.toArray hg a m c news hl hcell h1 hroom hfit
      have hlen : (xs ++ news).length = (n + m) * i.size := by rw [List.length_append, hlx, hl, Nat.add_mul]
      have hup : HUp ([(gb, blk cur e)] ++ H0) gb cur e (fun c => (gb, blk c e) :: H0) := HUp.head
      have hF := hup.set hE' (c := cur.take (n * i.size) ++ news ++ cur.drop (n * i.size + news.length)) (setRow_heap w gb cur.toArray _ e _ hg) (fun k hk => setRow_other w gb k _ hk) (by simp [World.setRow]) rfl rfl rfl
      refine ⟨_, _, hex _ _ #[] hr, _, hF.perm hp.symm (.refl _), _, .inr ⟨gb, cap, _, rfl, rfl, hroom, hcm, ?_, ?_⟩, by simp, rfl⟩
      · simp only [List.length_append, List.length_take, List.length_drop]
        rw [List.size_toArray] at hfit
        omega
      · rw [htake, ← hlen]
        exact List.take_left
    · have holds : ∀ j u, xs[j]? = some u → w.cell? ((⟨gb, 0, Option.none⟩ : Addr).add j) = some u := fun j u hu => by
        rw [oCell_eq (ob := blk cur e) (by rw [add_block]; exact hg)]
        rw [← htake, List.getElem?_take] at hu
        split at hu
        · unfold Addr.add
          split
          · rename_i e0; subst e0; simpa [oCell, blk] using hu
          · simpa [oCell, blk] using hu
        · cases hu
      have hcap := growslice_fits (need := n + m) (old := cap) (bytes := i.bytes) (by omega) hb
      have hr := run_append_grow (P := P) w T ty e i z ht hi hz ⟨gb, 0, Option.none⟩ n cap xs hlx holds a m c news hl hcell (by omega) (by omega) hcap
      obtain ⟨H', hF, hR⟩ := fresh cap [(gb, blk cur e)] (by omega) hlx hp
      exact ⟨_, _, hex _ _ #[] hr, H', hF, hR⟩
/-- A slice, compared with nil. -/
theorem veqsn {oa : Option Addr} {n c e esz : Nat} {T' : TypeId} [hT : TSl P T e esz] (hx : ev E x = some (.slice oa n c)) (hy : ev E y = some (.slice Option.none 0 0)) :
    OQ P N E D H ⟨some d, .binOp .eql T x y T', ty, pos, af, g⟩ (.bool oa.isNone) :=
  ov (by simp) (fun t w hA _ => by
    have := run_equal_slice_nil (P := P) w T e oa n c hT.und
    simp [execOp, ev_eval hA hx, ev_eval hA hy, eqGuard, binOp, this])
/-- A slice literal without elements. -/
theorem vbs0 {e esz : Nat} [h1 : TSl P T e esz] :
    OG P N E D H ⟨some d, .buildSlice T 0 #[], ty, pos, af, g⟩ (fun v H' => ∃ b, v = .slice (some ⟨b, 0, Option.none⟩) 0 0 ∧ H' = (b, blk [] e) :: H) := by
  refine ⟨by simp, fun t w hA hE => ⟨.value _, { w with heap := w.heap.push (.cells #[] e) }, ?_, (w.heap.size, blk [] e) :: H, Fr.new hE _, w.heap.size, rfl, rfl⟩⟩
  simp only [execOp, Instr.buildSlice, Sem.run_bind, run_underlying h1.und, Result.andThen, h1.size, Sem.run_pure]
  simp [Instr.fill, newRow, newObj, Sem.run, Result.andThen]
  have h0 : Array.map (fun _ => (default : Value)) (Array.range 0) = #[] := Array.eq_empty_of_size_eq_zero (by simp)
  rw [h0]
theorem OwnS.empty {e size b : Nat} : OwnS e size (.slice (some ⟨b, 0, Option.none⟩) 0 0) 0 [] [(b, blk [] e)] := .inr ⟨b, 0, [], rfl, rfl, Nat.le_refl _, by simp [maxLen], by simp, by simp⟩
end
end Go.Proofs.YtaplkoimhecacaaDoor
namespace Go.Proofs.YtaplkoimhecacaaDoor
open Go

/-- An entry: key, value, stamp. -/
structure Ent (κ ν : Type) where
  k : κ
  v : ν
  b : Nat

section plain
variable {κ ν : Type}
def fnd [DecidableEq κ] (a : κ) : List (Ent κ ν) → Nat → Option (Nat × ν)
  | [], _ => Option.none
  | e :: r, i => if a = e.k then some (i, e.v) else fnd a r (i + 1)
def mget [DecidableEq κ] (a : κ) (l : List (Ent κ ν)) : Option ν := (fnd a l 0).map Prod.snd
def mput [DecidableEq κ] (a : κ) (v : ν) (c : Nat) : List (Ent κ ν) → List (Ent κ ν)
  | [] => [⟨a, v, c⟩]
  | e :: r => if a = e.k then ⟨a, v, e.b⟩ :: r else e :: mput a v c r
def mclk [DecidableEq κ] (a : κ) (l : List (Ent κ ν)) (c : Nat) : Nat := if (mget a l).isSome then c else c + 1
def mdel [DecidableEq κ] (a : κ) : List (Ent κ ν) → List (Ent κ ν)
  | [] => []
  | e :: r => if a = e.k then r else e :: mdel a r
theorem fnd_shift [DecidableEq κ] (a : κ) : ∀ (l : List (Ent κ ν)) (i : Nat), fnd a l (i + 1) = (fnd a l i).map fun p => (p.1 + 1, p.2)
  | [], i => rfl
  | e :: r, i => by
    simp only [fnd]
    split
    · rfl
    · exact fnd_shift a r (i + 1)
theorem mget_nil [DecidableEq κ] (a : κ) : mget a ([] : List (Ent κ ν)) = Option.none := rfl
theorem mget_cons [DecidableEq κ] (a : κ) (e : Ent κ ν) (r : List (Ent κ ν)) : mget a (e :: r) = if a = e.k then some e.v else mget a r := by
  unfold mget
  simp only [fnd]
  split
  · rfl
  · rw [fnd_shift]; cases fnd a r 0 <;> rfl
theorem mget_mput [DecidableEq κ] (a a' : κ) (v : ν) (c : Nat) : ∀ (l : List (Ent κ ν)), mget a' (mput a v c l) = if a' = a then some v else mget a' l
  | [] => by simp only [mput, mget_cons, mget_nil]
  | e :: r => by
    simp only [mput]
    by_cases h : a = e.k
    · rw [if_pos h]; simp only [mget_cons]
      by_cases h2 : a' = a
      · simp [h2]
      · simp [h2, show ¬ a' = e.k from fun h3 => h2 (h3.trans h.symm)]
    · rw [if_neg h]; simp only [mget_cons, mget_mput a a' v c r]
      by_cases h3 : a' = e.k
      · simp [h3, show ¬ e.k = a from fun h4 => h h4.symm]
      · simp [h3]
theorem mem_mget [DecidableEq κ] {a : κ} {v : ν} : ∀ {l : List (Ent κ ν)}, mget a l = some v → ∃ e ∈ l, e.k = a ∧ e.v = v
  | [], h => by simp [mget_nil] at h
  | e :: r, h => by
    rw [mget_cons] at h
    by_cases h2 : a = e.k
    · rw [if_pos h2] at h; cases h; exact ⟨e, by simp, h2.symm, rfl⟩
    · rw [if_neg h2] at h
      obtain ⟨e', h3, h4⟩ := mem_mget h
      exact ⟨e', List.mem_cons_of_mem _ h3, h4⟩
theorem mget_of_mem [DecidableEq κ] {e : Ent κ ν} : ∀ {l : List (Ent κ ν)}, (l.map Ent.k).Nodup → e ∈ l → mget e.k l = some e.v
  | [], _, h => by cases h
  | x :: r, hn, h => by
    rw [mget_cons]
    simp only [List.map_cons, List.nodup_cons] at hn
    rcases List.mem_cons.1 h with rfl | h
    · rw [if_pos rfl]
    · rw [if_neg (fun hk => hn.1 (by rw [← hk]; exact List.mem_map.2 ⟨e, h, rfl⟩))]
      exact mget_of_mem hn.2 h
/-- What holds of a map's entries at all times. -/
structure wfM (l : List (Ent κ ν)) (c : Nat) : Prop where
  ks : (l.map Ent.k).Nodup
  bs : (l.map Ent.b).Nodup
  lt : ∀ e ∈ l, e.b < c
theorem wfM.nil {c : Nat} : wfM ([] : List (Ent κ ν)) c := ⟨by simp, by simp, fun _ h => by cases h⟩
theorem mput_in [DecidableEq κ] {a : κ} {v : ν} {c : Nat} : ∀ {l : List (Ent κ ν)}, (mget a l).isSome = true → (mput a v c l).map Ent.k = l.map Ent.k ∧ (mput a v c l).map Ent.b = l.map Ent.b
  | [], h => by simp [mget_nil] at h
  | e :: r, h => by
    rw [mget_cons] at h
    simp only [mput]
    by_cases h2 : a = e.k
    · rw [if_pos h2]; simp [h2]
    · rw [if_neg h2] at h ⊢
      obtain ⟨h3, h4⟩ := mput_in (v := v) (c := c) h
      simp [h3, h4]
theorem mput_out [DecidableEq κ] {a : κ} {v : ν} {c : Nat} : ∀ {l : List (Ent κ ν)}, mget a l = Option.none → mput a v c l = l ++ [⟨a, v, c⟩]
  | [], _ => rfl
  | e :: r, h => by
    rw [mget_cons] at h
    simp only [mput]
    by_cases h2 : a = e.k
    · rw [if_pos h2] at h; cases h
    · rw [if_neg h2] at h ⊢; rw [mput_out h]; rfl
theorem mget_none [DecidableEq κ] {a : κ} : ∀ {l : List (Ent κ ν)}, mget a l = Option.none ↔ a ∉ l.map Ent.k
  | [] => by simp [mget_nil]
  | e :: r => by
    rw [mget_cons]
    by_cases h2 : a = e.k
    · simp [h2]
    · simp [h2, mget_none (l := r)]
theorem wfM.put [DecidableEq κ] {l : List (Ent κ ν)} {c : Nat} (h : wfM l c) (a : κ) (v : ν) : wfM (mput a v c l) (mclk a l c) := by
  unfold mclk
  cases hg : mget a l with
  | some u =>
    obtain ⟨h1, h2⟩ := mput_in (v := v) (c := c) (l := l) (a := a) (by rw [hg]; rfl)
    refine ⟨by rw [h1]; exact h.ks, by rw [h2]; exact h.bs, fun e he => ?_⟩
    have : e.b ∈ (mput a v c l).map Ent.b := List.mem_map.2 ⟨e, he, rfl⟩
    rw [h2] at this
    obtain ⟨e', h3, h4⟩ := List.mem_map.1 this
    have := h.lt e' h3
    simp only [Option.isSome_some, if_true]; omega
  | none =>
    rw [mput_out hg]
    refine ⟨?_, ?_, fun e he => ?_⟩
    · rw [List.map_append, List.nodup_append]
      refine ⟨h.ks, by simp, fun x hx y hy => ?_⟩
      simp only [List.map_cons, List.map_nil, List.mem_singleton] at hy
      subst hy
      exact fun e => mget_none.1 hg (e ▸ hx)
    · rw [List.map_append, List.nodup_append]
      refine ⟨h.bs, by simp, fun x hx y hy => ?_⟩
      simp only [List.map_cons, List.map_nil, List.mem_singleton] at hy
      subst hy
      obtain ⟨e', h3, rfl⟩ := List.mem_map.1 hx
      have := h.lt e' h3
      omega
    · simp only [Option.isSome_none, Bool.false_eq_true, if_false]
      rcases List.mem_append.1 he with he | he
      · have := h.lt e he; omega
      · rw [List.mem_singleton.1 he]; exact Nat.lt_succ_self c
theorem wfM.mono {l : List (Ent κ ν)} {c c' : Nat} (h : wfM l c) (hc : c ≤ c') : wfM l c' := ⟨h.ks, h.bs, fun e he => Nat.lt_of_lt_of_le (h.lt e he) hc⟩
end plain

/-- A map's block. -/
def mE {κ ν : Type} (ek : κ → Value) (ev : ν → Value) (l : List (Ent κ ν)) : List MapEntry := l.map fun e => ⟨ek e.k, ev e.v, e.b⟩
def mapO {κ ν : Type} (ek : κ → Value) (ev : ν → Value) (l : List (Ent κ ν)) (c : Nat) : Obj := .map (mE ek ev l).toArray c

/-- What a map's type says. -/
class TMk (P : Program) (T : TypeId) {κ : Type} [DecidableEq κ] (ek : κ → Value) (z : outParam Value) : Prop where
  spec : ∃ kt et, P.underlying T = some (.map kt et) ∧ (∀ w, (zeroValue et).run P w = .ok z w) ∧ (∀ em a w, (Instr.checkKey em 10000 kt (ek a)).run P w = .ok () w) ∧
    (∀ {ν : Type} (ev : ν → Value) (a : κ) (l : List (Ent κ ν)) w, (Instr.findKey kt (ek a) (mE ek ev l)).run P w = .ok ((fnd a l 0).map fun p => (p.1, ev p.2)) w) ∧
    (∀ a, Instr.sameBits 10000 (ek a) (ek a) = true)

theorem findNow_fnd {κ ν : Type} [DecidableEq κ] {ek : κ → Value} {ev : ν → Value} {td : TypeDesc} (hs : ∀ a b, Instr.sameNow td (ek a) (ek b) = some (decide (a = b))) (a : κ) : ∀ (l : List (Ent κ ν)) (i : Nat),
    Instr.findNow td (ek a) (mE ek ev l) i = some ((fnd a l i).map fun p => (p.1, ev p.2))
  | [], i => rfl
  | e :: r, i => by
    simp only [mE, List.map_cons, Instr.findNow, hs, fnd]
    by_cases h : a = e.k
    · simp [h]
    · simp only [h, decide_false, if_false]
      exact findNow_fnd hs a r (i + 1)
theorem findAsk_fnd {P : Program} {κ ν : Type} [DecidableEq κ] {ek : κ → Value} {ev : ν → Value} {kt : TypeId} {w : World} (hs : ∀ a b, (Op.equal kt (ek a) (ek b)).run P w = .ok (decide (a = b)) w) (a : κ) : ∀ (l : List (Ent κ ν)) (i : Nat),
    (Instr.findAsking kt (ek a) (mE ek ev l) i).run P w = .ok ((fnd a l i).map fun p => (p.1, ev p.2)) w
  | [], i => rfl
  | e :: r, i => by
    simp only [mE, List.map_cons, Instr.findAsking, Sem.run_bind, hs, Result.andThen, fnd]
    by_cases h : a = e.k
    · simp [h]
    · simp only [h, decide_false, Bool.false_eq_true, if_false]
      exact findAsk_fnd hs a r (i + 1)

section
variable {P : Program} {f : FuncId} {ro : Option Nat} {N : Nat} {k : List Item} {E : Env} {D : List Deferred} {H : Heap} {Q : Out → Heap → Prop}
variable {d : Nat} {x y z : Operand} {T ty : TypeId} {pos : String} {af : Array Edge} {g : Option (Nat × Bool)}
variable {κ ν : Type} {ek : κ → Value} {ev' : ν → Value} {zv : Value}

theorem vmm {rv : Option Operand} (hr : rv = Option.none) : OG P N E D H ⟨some d, .makeMap T rv, ty, pos, af, g⟩ (fun v H' => ∃ b, v = .map (some b) ∧ H' = (b, mapO ek ev' [] 0) :: H) := by
  subst hr
  refine ⟨by simp, fun t w hA hE => ⟨.value (.map (some w.heap.size)), { w with heap := w.heap.push (.map #[] 0) }, ?_, (w.heap.size, .map #[] 0) :: H, Fr.new hE _, w.heap.size, rfl, rfl⟩⟩
  simp [execOp, Instr.makeMap, newObj, Sem.run, Result.andThen]

theorem vlook [DecidableEq κ] {b c : Nat} {l : List (Ent κ ν)} {F : Obj → Heap} {a : κ} [hT : TMk P T ek zv] [hH : HOb H b (mapO ek ev' l c) F] (hx : ev E x = some (.map (some b))) (hy : ev E y = some (ek a)) :
    OQ P N E D H ⟨some d, .lookup T x y true, ty, pos, af, g⟩ (.tuple [((mget a l).map ev').getD zv, .bool (mget a l).isSome].toArray) :=
  ov (by simp) (fun t w hA hE => by
    obtain ⟨kt, et, h1, h2, h3, h4, h5⟩ := hT.spec
    have hg := hH.get hE
    simp only [execOp, ev_eval hA hx, ev_eval hA hy, Instr.lookup, Sem.run_bind, run_underlying h1, Result.andThen, MapKept.run_getObj_map hg, Sem.run_pure, h3]
    have h6 := h4 ev' a l w
    simp only [h6]
    unfold mget
    cases fnd a l 0 with
    | none => simp [h2, Result.andThen]
    | some p => simp)
theorem vlook1 [DecidableEq κ] {b c : Nat} {l : List (Ent κ ν)} {F : Obj → Heap} {a : κ} [hT : TMk P T ek zv] [hH : HOb H b (mapO ek ev' l c) F] (hx : ev E x = some (.map (some b))) (hy : ev E y = some (ek a)) :
    OQ P N E D H ⟨some d, .lookup T x y false, ty, pos, af, g⟩ (((mget a l).map ev').getD zv) :=
  ov (by simp) (fun t w hA hE => by
    obtain ⟨kt, et, h1, h2, h3, h4, h5⟩ := hT.spec
    have hg := hH.get hE
    simp only [execOp, ev_eval hA hx, ev_eval hA hy, Instr.lookup, Sem.run_bind, run_underlying h1, Result.andThen, MapKept.run_getObj_map hg, Sem.run_pure, h3]
    have h6 := h4 ev' a l w
    simp only [h6]
    unfold mget
    cases fnd a l 0 with
    | none => simp [h2]
    | some p => simp)

theorem vlook1s [DecidableEq κ] {b c : Nat} {l : List (Ent κ ν)} {F : Obj → Heap} {a : κ} {v : ν} (hk : mget a l = some v) [hT : TMk P T ek zv] [hH : HOb H b (mapO ek ev' l c) F] (hx : ev E x = some (.map (some b))) (hy : ev E y = some (ek a)) :
    OQ P N E D H ⟨some d, .lookup T x y false, ty, pos, af, g⟩ (ev' v) := by
  have h := vlook1 (P := P) (N := N) (E := E) (D := D) (H := H) (d := d) (x := x) (y := y) (T := T) (ty := ty) (pos := pos) (af := af) (g := g) (ek := ek) (ev' := ev') (a := a) (l := l) (c := c) (b := b) hx hy
  rw [hk] at h; exact h
theorem mE_get {ek : κ → Value} {ev' : ν → Value} {l : List (Ent κ ν)} (i : Nat) : (mE ek ev' l)[i]? = (l[i]?).map fun e => ⟨ek e.k, ev' e.v, e.b⟩ := by simp [mE]
theorem fnd_at [DecidableEq κ] {a : κ} {v : ν} : ∀ {l : List (Ent κ ν)} {i j : Nat}, fnd a l i = some (j, v) → i ≤ j ∧ ∃ e, l[j - i]? = some e ∧ e.k = a ∧ e.v = v
  | [], i, j, h => by simp [fnd] at h
  | e :: r, i, j, h => by
    simp only [fnd] at h
    split at h
    · rename_i hk; cases h; exact ⟨Nat.le_refl _, e, by simp, hk.symm, rfl⟩
    · obtain ⟨h1, e', h2, h3⟩ := fnd_at h
      refine ⟨by omega, e', ?_, h3⟩
      rw [show j - i = (j - (i + 1)) + 1 by omega]; simpa using h2
theorem mput_mod [DecidableEq κ] {ek : κ → Value} {ev' : ν → Value} {a : κ} {v u : ν} {c : Nat} : ∀ {l : List (Ent κ ν)} {i j : Nat}, fnd a l i = some (j, u) →
    mE ek ev' (mput a v c l) = (mE ek ev' l).modify (j - i) (fun e => { e with key := ek a, val := ev' v })
  | [], i, j, h => by simp [fnd] at h
  | e :: r, i, j, h => by
    simp only [fnd] at h
    simp only [mput]
    by_cases hk : a = e.k
    · rw [if_pos hk] at h ⊢; cases h
      simp [mE]
    · rw [if_neg hk] at h ⊢
      have h1 := (fnd_at h).1
      have ih := mput_mod (ek := ek) (ev' := ev') (v := v) (c := c) h
      rw [show j - i = (j - (i + 1)) + 1 by omega]
      simp only [mE, List.map_cons, List.modify_succ_cons] at ih ⊢
      rw [ih]
theorem mdel_erase [DecidableEq κ] {ek : κ → Value} {ev' : ν → Value} {a : κ} {u : ν} : ∀ {l : List (Ent κ ν)} {i j : Nat}, fnd a l i = some (j, u) → mE ek ev' (mdel a l) = (mE ek ev' l).eraseIdx (j - i)
  | [], i, j, h => by simp [fnd] at h
  | e :: r, i, j, h => by
    simp only [fnd] at h
    simp only [mdel]
    by_cases hk : a = e.k
    · rw [if_pos hk] at h ⊢; cases h
      simp [mE]
    · rw [if_neg hk] at h ⊢
      have h1 := (fnd_at h).1
      have ih := mdel_erase (ek := ek) (ev' := ev') h
      rw [show j - i = (j - (i + 1)) + 1 by omega]
      simp only [mE, List.map_cons, List.eraseIdx_cons_succ] at ih ⊢
      rw [ih]
theorem mdel_no [DecidableEq κ] {a : κ} : ∀ {l : List (Ent κ ν)} {i : Nat}, fnd a l i = Option.none → mdel a l = l
  | [], _, _ => rfl
  | e :: r, i, h => by
    simp only [fnd] at h
    simp only [mdel]
    by_cases hk : a = e.k
    · rw [if_pos hk] at h; cases h
    · rw [if_neg hk] at h ⊢; rw [mdel_no h]

theorem run_mapUpdate [DecidableEq κ] {b c : Nat} {l : List (Ent κ ν)} {a : κ} {v : ν} {w : World} [hT : TMk P T ek zv] (hg : w.heap[b]? = some (mapO ek ev' l c)) :
    (Instr.mapUpdate T (.map (some b)) (ek a) (ev' v)).run P w = .ok () { w with heap := w.heap.setIfInBounds b (mapO ek ev' (mput a v c l) (mclk a l c)) } := by
  obtain ⟨kt, et, h1, h2, h3, h4, h5⟩ := hT.spec
  have hs : ∀ o : Obj, (setObj b o).run P w = .ok () { w with heap := w.heap.setIfInBounds b o } := fun o => by simp [setObj, Sem.run, hg, mapO]
  simp only [Instr.mapUpdate, Sem.run_bind, run_underlying h1, Result.andThen, MapKept.run_getObj_map (es := (mE ek ev' l).toArray) (clock := c) hg, h3]
  have h6 := h4 ev' a l w
  simp only [h6]
  unfold mclk mget
  cases hf : fnd a l 0 with
  | none =>
    have hm : mget a l = Option.none := by unfold mget; rw [hf]; rfl
    simp only [Option.map_none, Option.isSome_none, Bool.false_eq_true, if_false]
    rw [hs, mput_out hm]
    simp [mapO, mE]
  | some p =>
    obtain ⟨j, u⟩ := p
    obtain ⟨_, e, h7, h8, _⟩ := fnd_at hf
    simp only [Nat.sub_zero] at h7
    have hm := mput_mod (ek := ek) (ev' := ev') (v := v) (c := c) hf
    simp only [Nat.sub_zero] at hm
    have hkey : (((mE ek ev' l).toArray[j]?).map (·.key)).getD (ek a) = ek a := by
      simp [mE_get (ek := ek) (ev' := ev'), h7, h8]
    simp only [Option.map_some, Sem.run_bind, hkey, Instr.keyThatStays, h5, if_true, Sem.run_pure, Result.andThen, Option.isSome_some]
    rw [hs]
    congr 3
    unfold mapO
    rw [hm]
    congr 1
    apply Array.ext'
    simp

theorem vmup [DecidableEq κ] {b c : Nat} {l : List (Ent κ ν)} {F : Obj → Heap} {a : κ} {v : ν} [hT : TMk P T ek zv] [hH : HOb H b (mapO ek ev' l c) F] (hx : ev E x = some (.map (some b))) (hy : ev E y = some (ek a)) (hz : ev E z = some (ev' v)) :
    OG P N E D H ⟨Option.none, .mapUpdate T x y z, ty, pos, af, g⟩ (fun _ H' => H' = F (mapO ek ev' (mput a v c l) (mclk a l c))) := by
  refine ⟨by simp, fun t w hA hE => ?_⟩
  have hr := run_mapUpdate (P := P) (T := T) (a := a) (v := v) (hH.get hE)
  refine ⟨.skip, _, ?_, _, hH.set hE (mapO ek ev' (mput a v c l) (mclk a l c)), rfl⟩
  simp [execOp, ev_eval hA hx, ev_eval hA hy, ev_eval hA hz, hr, Result.andThen]

theorem vmdel [DecidableEq κ] {b c : Nat} {l : List (Ent κ ν)} {F : Obj → Heap} {a : κ} {T2 : TypeId} [hT : TMk P T ek zv] [hH : HOb H b (mapO ek ev' l c) F] (hx : ev E x = some (.map (some b))) (hy : ev E y = some (ek a)) :
    OG P N E D H ⟨Option.none, .call ⟨.builtin .delete, #[x, y], #[T, T2]⟩, ty, pos, af, g⟩ (fun _ H' => H' = F (mapO ek ev' (mdel a l) c)) := by
  refine ⟨by simp, fun t w hA hE => ?_⟩
  obtain ⟨kt, et, h1, h2, h3, h4, h5⟩ := hT.spec
  have hg := hH.get hE
  have hs : ∀ o : Obj, (setObj b o).run P w = .ok () { w with heap := w.heap.setIfInBounds b o } := fun o => by simp [setObj, Sem.run, hg, mapO]
  have h6 := h4 ev' a l w
  have hr : (Builtin.delete_ #[T, T2] ty #[.map (some b), ek a]).run P w = .ok (.tuple #[]) { w with heap := w.heap.setIfInBounds b (mapO ek ev' (mdel a l) c) } := by
    simp only [Builtin.delete_, List.getElem?_toArray, List.getElem?_cons_zero, List.getElem?_cons_succ, Sem.run_bind, run_underlying h1, Result.andThen, MapKept.run_getObj_map (es := (mE ek ev' l).toArray) (clock := c) hg, h3, h6]
    cases hf : fnd a l 0 with
    | none =>
      rw [mdel_no hf]
      simp [hs, mapO, Result.andThen]
    | some p =>
      obtain ⟨j, u⟩ := p
      have hm := mdel_erase (ek := ek) (ev' := ev') hf
      simp only [Nat.sub_zero] at hm
      simp only [Option.map_some, hs, Result.andThen, Sem.run_pure, Sem.run_bind]
      unfold mapO
      rw [hm]
      congr 4
      simp
  refine ⟨.value (.tuple #[]), { w with heap := w.heap.setIfInBounds b (mapO ek ev' (mdel a l) c) }, ?_, _, hH.set hE (mapO ek ev' (mdel a l) c), rfl⟩
  simp only [execOp, resolve, invoke, builtin, List.map_toArray, List.map_cons, List.map_nil, ev_eval hA hx, ev_eval hA hy, Sem.run_bind, Sem.run_pure, Result.andThen, hr]

/-! ### Ranges -/
theorem vmrange [DecidableEq κ] {b c : Nat} {l : List (Ent κ ν)} {F : Obj → Heap} [hT : TMk P T ek zv] [hH : HOb H b (mapO ek ev' l c) F] (hx : ev E x = some (.map (some b))) :
    OG P N E D H ⟨some d, .range T x, ty, pos, af, g⟩ (fun v H' => ∃ i, v = .pointer (some ⟨i, 0, Option.none⟩) ∧ H' = (i, .mapIter (some b) c #[] c) :: H) := by
  refine ⟨by simp, fun t w hA hE => ⟨.value _, _, ?_, _, Fr.new hE (.mapIter (some b) c #[] c), w.heap.size, rfl, rfl⟩⟩
  obtain ⟨kt, et, h1, _⟩ := hT.spec
  have hg := hH.get hE
  simp only [execOp, ev_eval hA hx, Sem.run_bind, run_range_map w T kt et b _ c h1 hg, Result.andThen, Sem.run_pure]
  rfl

theorem vmnext {i b c since : Nat} {seen : Array Nat} {l : List (Ent κ ν)} {F F2 : Obj → Heap} [hI : HOb H i (.mapIter (some b) since seen since) F] [hH : HOb H b (mapO ek ev' l c) F2] (hx : ev E x = some (.pointer (some ⟨i, 0, Option.none⟩))) (hc : c = since) (hold : ∀ e ∈ l, e.b < since) :
    OG P N E D H ⟨some d, .next x false, ty, pos, af, g⟩ (fun v H' => (v = .tuple [.bool false].toArray ∧ H' = H ∧ ∀ e ∈ l, seen.contains e.b = true) ∨
      ∃ e ∈ l, seen.contains e.b = false ∧ v = .tuple [.bool true, ek e.k, ev' e.v].toArray ∧ H' = F (.mapIter (some b) since (seen.push e.b) since)) := by
  subst hc
  refine ⟨by simp, fun t w hA hE => ?_⟩
  have hgi := hI.get hE
  have hgm := hH.get hE
  have hex : ∀ (v : Value) (w' : World), (Instr.next (.pointer (some ⟨i, 0, Option.none⟩)) false ty).run P w = .ok v w' → (execOp (Act.eval ⟨t, D⟩) ⟨some d, .next x false, ty, pos, af, g⟩).run P w = .ok (.value v) w' := by
    intro v w' h
    simp only [execOp, ev_eval hA hx, Sem.run_bind, h, Result.andThen, Sem.run_pure]
  have hold' : ∀ e ∈ (mE ek ev' l).toArray.toList, e.born < c := by
    intro e he
    obtain ⟨e', h1, rfl⟩ := List.mem_map.1 he
    exact hold e' h1
  have htest := next_test_false seen (mE ek ev' l).toArray c c hold' (Nat.le_refl _)
  have hobi : (getObj i).run P w = .ok (.mapIter (some b) c seen c) w := by simp [getObj, Sem.run, hgi]
  have hobm : (getObj b).run P w = .ok (.map (mE ek ev' l).toArray c) w := MapKept.run_getObj_map hgm
  have hlist : ∀ x : MapEntry, x ∈ Array.filter (fun e => !seen.contains e.born) (mE ek ev' l).toArray ↔ x ∈ mE ek ev' l ∧ seen.contains x.born = false := by
    intro x
    rw [Array.mem_filter]
    simp
  generalize hL : Array.filter (fun e => !seen.contains e.born) (mE ek ev' l).toArray = L at hlist
  have hmem : ∀ x ∈ L.toList, x.born < c := fun x hx => hold' x (by simpa using ((hlist x).1 (by simpa using hx)).1)
  have e1 : L.filter (fun x => decide (x.born < c)) = L := Array.filter_eq_self.2 (fun x hx => by simpa using hmem x (by simpa using hx))
  have e2 : L.filter (fun x => decide (x.born ≥ c)) = #[] := by
    rw [Array.filter_eq_empty_iff]
    intro x hx
    have := hmem x (by simpa using hx)
    simp
    omega
  by_cases h0 : L.size = 0
  · have hLe : L = #[] := Array.eq_empty_of_size_eq_zero h0
    refine ⟨.value (.tuple #[.bool false]), w, hex _ _ ?_, H, Fr.refl hE, .inl ⟨rfl, rfl, fun e he => ?_⟩⟩
    · simp only [Instr.next, Sem.run_bind, hobi, hobm, Result.andThen, htest, Bool.false_eq_true, if_false, hL, e1, e2]
      subst hLe
      simp [choose, Sem.run, Question.forced]
    · cases hc : seen.contains e.b with
      | true => rfl
      | false =>
        have h1 := (hlist ⟨ek e.k, ev' e.v, e.b⟩).2 ⟨List.mem_map.2 ⟨e, he, rfl⟩, hc⟩
        rw [hLe] at h1
        simp at h1
  · have hne : L.isEmpty = false := by simp [Array.isEmpty, h0]
    have hch : ∃ (j : Nat) (w1 : World), j < L.size ∧ (w1 = w ∨ w1 = w.drew) ∧ (choose (Question.mapNext L.size)).run P w = .ok j w1 := by
      by_cases hf : L.size ≤ 1
      · exact ⟨0, w, by omega, .inl rfl, by simp [choose, Sem.run, Question.forced, hf]⟩
      · exact ⟨_, w.drew, Nat.mod_lt _ (by omega), .inr rfl, by
          simp only [choose, Sem.run, Question.forced, decide_eq_true_eq, hf, if_false, Question.cut]
          rfl⟩
    obtain ⟨j, w1, hj, hw1, hrun⟩ := hch
    have hF1 : Fr H w H w1 := by
      rcases hw1 with rfl | rfl
      · exact Fr.refl hE
      · exact ⟨rfl, rfl, rfl, Nat.le_refl _, fun _ _ _ => rfl, ⟨hE.nodup, hE.at_⟩, fun e he => .inl (List.mem_map.2 ⟨e, he, rfl⟩)⟩
    obtain ⟨h1, h2⟩ := (hlist L[j]).1 (Array.getElem_mem hj)
    obtain ⟨e, h3, h4⟩ := List.mem_map.1 h1
    refine ⟨.value (.tuple #[.bool true, ek e.k, ev' e.v]), { w1 with heap := w1.heap.setIfInBounds i (.mapIter (some b) c (seen.push e.b) c) }, hex _ _ ?_, _, hF1.trans (hI.set hF1.emb (.mapIter (some b) c (seen.push e.b) c)), .inr ⟨e, h3, by rw [← h4] at h2; exact h2, rfl, rfl⟩⟩
    have hgi1 := hI.get hF1.emb
    simp only [Instr.next, Sem.run_bind, hobi, hobm, Result.andThen, htest, Bool.false_eq_true, if_false, hL, e1, e2, hne, Array.append_empty, Array.empty_append, Array.size_map, hrun, Array.getElem?_map, Array.getElem?_eq_getElem hj, Option.map_some]
    rw [← h4]
    simp [setObj, Sem.run, hgi1]
/-- The entry of the last step. -/
theorem vmentry {i b c since : Nat} {seen : Array Nat} {l : List (Ent κ ν)} {F F2 : Obj → Heap} {e : Ent κ ν} [hI : HOb H i (.mapIter (some b) since (seen.push e.b) since) F] [hH : HOb H b (mapO ek ev' l c) F2] (hx : ev E x = some (.pointer (some ⟨i, 0, Option.none⟩))) (hc : c = since) (he : e ∈ l) (hw : (l.map Ent.b).Nodup) :
    OQ P N E D H ⟨some d, .entry x, ty, pos, af, g⟩ (.tuple [ek e.k, ev' e.v].toArray) :=
  ov (by simp) (fun t w hA hE => by
    subst hc
    have hgi := hI.get hE
    have hgm := hH.get hE
    have hobi : (getObj i).run P w = .ok (.mapIter (some b) c (seen.push e.b) c) w := by simp [getObj, Sem.run, hgi]
    have hobm : (getObj b).run P w = .ok (.map (mE ek ev' l).toArray c) w := MapKept.run_getObj_map hgm
    have hf : (mE ek ev' l).toArray.find? (·.born == e.b) = some ⟨ek e.k, ev' e.v, e.b⟩ := by
      rw [← Array.find?_toList]
      refine find_born ⟨ek e.k, ev' e.v, e.b⟩ _ ?_ (List.mem_map.2 ⟨e, he, rfl⟩)
      have : (mE ek ev' l).map (·.born) = l.map Ent.b := by unfold mE; rw [List.map_map]; rfl
      rw [this]; exact hw
    simp only [execOp, ev_eval hA hx, Instr.entry, Sem.run_bind, hobi, hobm, Result.andThen, Array.back?_push, bne_self_eq_false, Bool.false_eq_true, if_false, hf, Sem.run_pure])
end
theorem mkTMkS {P : Program} {T kt et : TypeId} {z : Value} (h1 : P.underlying T = some (.map kt et)) (h2 : P.underlying kt = some .string) (h3 : (P.info? et).map (·.zero) = some (some z)) : TMk P T Value.string z := by
  have hb : ∀ a b : ByteArray, (a == b) = decide (a = b) := fun a b => by rw [Bool.eq_iff_iff, decide_eq_true_iff]; exact MapKept.bytes_beq a b
  refine ⟨kt, et, h1, fun w => ?_, fun em a w => ?_, fun ev a l w => ?_, fun a => ?_⟩
  · cases hi : P.info? et with
    | none => simp [hi] at h3
    | some i => simp [hi] at h3; simp [zeroValue, run_info hi, h3]
  · exact MapKept.run_checkKey h2 (d := .string) (k := .string a) trivial em 9999
  · have h := findNow_fnd (ek := Value.string) (ev := ev) (td := .string) (fun a b => by simp only [Instr.sameNow, hb]) a l 0
    simp only [Instr.findKey, Sem.run_bind, run_underlying h2, Result.andThen, h, Sem.run_pure]
  · exact MapKept.sameBits_self (d := .string) (k := .string a) trivial 10000
/-- Keys that are structs of integers. -/
theorem mkTMkP {P : Program} {T kt et : TypeId} {κ : Type} [DecidableEq κ] {ek : κ → Value} {z : Value} {td : TypeDesc} (h1 : P.underlying T = some (.map kt et)) (h2 : P.underlying kt = some td) (h3 : (P.info? et).map (·.zero) = some (some z))
    (hs : ∀ a b, Instr.sameNow td (ek a) (ek b) = Option.none) (hc : ∀ em a w, (Instr.checkKey em 10000 kt (ek a)).run P w = .ok () w) (he : ∀ a b w, (Op.equal kt (ek a) (ek b)).run P w = .ok (decide (a = b)) w) (hb : ∀ a, Instr.sameBits 10000 (ek a) (ek a) = true) : TMk P T ek z := by
  refine ⟨kt, et, h1, fun w => ?_, hc, fun ev a l w => ?_, hb⟩
  · cases hi : P.info? et with
    | none => simp [hi] at h3
    | some i => simp [hi] at h3; simp [zeroValue, run_info hi, h3]
  · cases l with
    | nil => simp [Instr.findKey, run_underlying h2, mE, Instr.findNow, fnd, Result.andThen]
    | cons e r =>
      have hn : Instr.findNow td (ek a) (mE ek ev (e :: r)) 0 = Option.none := by simp only [mE, List.map_cons, Instr.findNow, hs]
      simp only [Instr.findKey, Sem.run_bind, run_underlying h2, Result.andThen, hn]
      exact findAsk_fnd (fun a b => he a b w) a (e :: r) 0
end Go.Proofs.YtaplkoimhecacaaDoor
namespace Go.Proofs.YtaplkoimhecacaaDoor
open Go
section
variable {P : Program} {f : FuncId} {ro : Option Nat} {N : Nat} {k : List Item} {E : Env} {D : List Deferred} {H : Heap} {Q : Out → Heap → Prop}
theorem VY.outp {y : Value} {args : List Value} {H : Heap} {R R' : Bool → Heap → Prop} (h : VY P y args H R) (hr : ∀ b H', R b H' → ∃ H2, H'.Perm H2 ∧ R' b H2) : VY P y args H R' :=
  fun w hE => let ⟨n, h1, h2⟩ := h w hE; ⟨n, h1, h2.mono fun _v _w2 ⟨H', b, hF, hv, hR⟩ => let ⟨H2, hp, hR'⟩ := hr b H' hR; ⟨H2, b, hF.perm (.refl _) hp, hv, hR'⟩⟩
/-- An iterator over xs; X says what is handed to the loop for an element, and which blocks it may look at. -/
def VItM {α : Type} (P : Program) (kf : FuncId) (caps : List Value) (X : α → List Value → Heap → Prop) (xs : List α) (Hi : Heap) : Prop :=
  ∀ (yf : Fn) (ya yc : Array Value) (J : List α → Heap → Prop) (Jx : Heap → Prop) (Hc : Heap), J [] Hc →
    (∀ pre x post, xs = pre ++ x :: post → ∀ vs Hx H1, X x vs Hx → J pre H1 → VY P (.func yf ya yc) vs (Hx ++ H1) (fun b H2 => ∃ H1', H2 = Hx ++ H1' ∧ if b = true then J (pre ++ [x]) H1' else Jx H1')) →
    VCall P kf (Value.func yf ya yc :: caps).toArray (Hi ++ Hc) (fun o H' => o = .val (.tuple #[]) ∧ ∃ Hc', H' = Hi ++ Hc' ∧ (J xs Hc' ∨ Jx Hc'))

/-- **A loop over such an iterator, outside of every round.** -/
theorem vrangeM {α : Type} {X : α → List Value → Heap → Prop} {xs : List α} {kf : FuncId} {caps : List Value} {Hi Hc : Heap} {gop : Operand} {ps : List Nat} {as bd : Code} [TFn P kf] (I : List α → Heap → Prop) (Ix : Code → Heap → Prop)
    (hg : ev E gop = some (.func (.func kf) #[] caps.toArray)) (hit : VItM P kf caps X xs Hi) (hp : H.Perm (Hi ++ Hc)) (h0 : I [] Hc) (hsz : ∀ x vs Hx, X x vs Hx → ps.length = vs.length) (hps : (ps.all fun p => Nat.blt p N) = true)
    (body : ∀ lp rec pre x post vs Hx H1, rec.state = .ready → xs = pre ++ x :: post → X x vs Hx → I pre H1 →
      VRun P f (some lp) N [.code as, .beginRound, .code bd] (parE ps vs E) [] ((lp, .loop rec) :: (Hx ++ H1)) (RQ lp rec (fun H2 => ∃ H1', H2 = Hx ++ H1' ∧ I (pre ++ [x]) H1') (fun c H2 => ∃ H1', H2 = Hx ++ H1' ∧ Ix c H1')))
    (done : ∀ r H1, I xs H1 → VRun P f Option.none N k E (mark r :: D) ((r, .deferred (some [])) :: (Hi ++ H1)) Q)
    (stop : ∀ r c H1, Ix c H1 → VRun P f Option.none N (.code c :: k) E (mark r :: D) ((r, .deferred (some [])) :: (Hi ++ H1)) Q) :
    VRun P f Option.none N (.code (.rangeFunc gop ps.toArray as bd) :: k) E D H Q := by
  intro t w cs hA hE
  let rc : Loop := { state := .ready, pending := Option.none, fn := f, tmps := t, params := ps.toArray, assign := as, body := bd, defers := w.heap.size }
  let w1 : World := { w with heap := w.heap.push (.deferred (some [])) }
  let w2 : World := { w1 with heap := w1.heap.push (.loop rc) }
  have hF1 : Fr H w ((w.heap.size, .deferred (some [])) :: H) w1 := Fr.new hE _
  have hF2 : Fr ((w.heap.size, .deferred (some [])) :: H) w1 ((w.heap.size + 1, .loop rc) :: (w.heap.size, .deferred (some [])) :: H) w2 := by
    have h := Fr.new hF1.emb (.loop rc)
    rw [show w1.heap.size = w.heap.size + 1 from Array.size_push _] at h
    exact h
  have henter : (Instr.enterLoop f t ps.toArray as bd Option.none).run P w = .ok (w.heap.size + 1, [mark w.heap.size]) w2 := by
    simp only [w2, w1, rc, mark]
    rw [show w.heap.size + 1 = (w.heap.push (Obj.deferred (some []))).size from (Array.size_push _).symm]
    rfl
  have hst := range_steps (P := P) (D := D) (k := k) (cs := cs) (ro := Option.none) hA hg henter
  have hcall := hit (.yield (w.heap.size + 1)) #[] #[] (fun pre Hx => ∃ H1, Hx = (w.heap.size + 1, .loop rc) :: H1 ∧ I pre H1)
    (fun Hx => ∃ c H1, Hx = (w.heap.size + 1, .loop { rc with state := .done, pending := some c }) :: H1 ∧ Ix c H1) ((w.heap.size + 1, .loop rc) :: Hc) ⟨Hc, rfl, h0⟩
    (by
      rintro pre x post hx vs Hx H1' hX ⟨H1, rfl, hI⟩
      have h1 := round_VY (lp := w.heap.size + 1) (f := f) (t := t) (rec := rc) ⟨rfl, rfl, rfl, rfl, rfl, rfl, rfl⟩ hA (hsz x vs Hx hX) hps (body _ rc pre x post vs Hx H1 rfl hx hX hI)
      refine (h1.perm List.perm_middle.symm).outp fun b H2 hR => ?_
      by_cases hb : b = true
      · rw [if_pos hb] at hR
        obtain ⟨H3, rfl, H4, rfl, hI4⟩ := hR
        exact ⟨Hx ++ (w.heap.size + 1, .loop rc) :: H4, List.perm_middle.symm, _, rfl, by rw [if_pos hb]; exact ⟨H4, rfl, hI4⟩⟩
      · rw [if_neg hb] at hR
        obtain ⟨c, H3, rfl, H4, rfl, hI4⟩ := hR
        exact ⟨Hx ++ (w.heap.size + 1, .loop { rc with state := .done, pending := some c }) :: H4, List.perm_middle.symm, _, rfl, by rw [if_neg hb]; exact ⟨c, H4, rfl, hI4⟩⟩)
  have hperm : ((w.heap.size + 1, Obj.loop rc) :: (w.heap.size, Obj.deferred (some [])) :: H).Perm ((Hi ++ (w.heap.size + 1, .loop rc) :: Hc) ++ [(w.heap.size, .deferred (some []))]) := by
    refine List.Perm.trans ?_ List.perm_append_comm
    refine List.Perm.trans (List.Perm.swap _ _ _) ?_
    refine List.Perm.cons _ ?_
    refine List.Perm.trans (List.Perm.cons _ hp) ?_
    exact List.perm_middle.symm
  obtain ⟨o, w3, m3, H3, hR, hF3, hs3, hfin⟩ := (hcall.frame (B := [(w.heap.size, .deferred (some []))])).perm hperm w2 ((bas f Option.none).atR ⟨t, [mark w.heap.size] ++ D⟩ (.inRangeFunc (w.heap.size + 1) :: k) :: cs) (hF1.trans hF2).emb
  obtain ⟨A', rfl, rfl, Hc', rfl, hJ⟩ := hR
  obtain ⟨_, fr', rfl, _, hleave⟩ := hfin
  have hback : Steps P (lone ((bas f Option.none).atR ⟨t, D⟩ (.code (.rangeFunc gop ps.toArray as bd) :: k)) cs w) (lone ((bas f Option.none).atR ⟨t, [mark w.heap.size] ++ D⟩ (.endRangeFunc (w.heap.size + 1) :: k)) cs w3) := by
    refine .head hst (hs3.trans (.one ?_))
    rw [← finish_atR_inRangeFunc (b := bas f Option.none) (a := ⟨t, [mark w.heap.size] ++ D⟩) (k := k) (w.heap.size + 1) (.tuple #[])]
    exact step_leave_returned hleave
  have hFall := (hF1.trans hF2).trans hF3
  have fin : ∀ (rc' : Loop) (H1 : Heap), Hc' = (w.heap.size + 1, .loop rc') :: H1 → rc'.state ≠ .busy → ∃ w4, (Instr.endLoop (w.heap.size + 1)).run P w3 = .ok rc'.pending w4 ∧ Fr H w ((w.heap.size, .deferred (some [])) :: (Hi ++ H1)) w4 := by
    intro rc' H1 hH hb
    subst hH
    have hg : w3.heap[w.heap.size + 1]? = some (.loop rc') := hF3.emb.at_ (w.heap.size + 1, .loop rc') (by simp)
    have hpm : ((Hi ++ (w.heap.size + 1, Obj.loop rc') :: H1) ++ [(w.heap.size, Obj.deferred (some []))]).Perm ((w.heap.size + 1, .loop rc') :: ((w.heap.size, .deferred (some [])) :: (Hi ++ H1))) := by
      refine List.Perm.trans List.perm_append_comm ?_
      refine List.Perm.trans (List.Perm.cons _ List.perm_middle) ?_
      exact List.Perm.swap _ _ _
    have hE3 := hF3.emb.perm hpm
    have hset := (HOb.head (H := (w.heap.size, .deferred (some [])) :: (Hi ++ H1)) (b := w.heap.size + 1) (o := .loop rc')).set hE3 (.loop { rc' with state := .exhausted })
    refine ⟨_, ?_, (hFall.perm (.refl _) hpm).trans (hset.sub (List.sublist_cons_self _ _))⟩
    simp [Instr.endLoop, Instr.getLoop, getObj, setObj, Sem.run, hg, Result.andThen, hb]
  rcases hJ with ⟨H1, hH, hI⟩ | ⟨c, H1, hH, hI⟩
  · obtain ⟨w4, hr, hF4⟩ := fin rc H1 hH (by simp [rc])
    obtain ⟨o, w5, m5, H5, hq, hF5, hs5, hfin5⟩ := done w.heap.size H1 hI t w4 cs hA hF4.emb
    refine ⟨o, w5, m5, H5, hq, hF4.trans hF5, hback.trans (.head (stepR_endRangeFunc (b := bas f Option.none) hr) ?_), hfin5⟩
    simpa [rc] using hs5
  · obtain ⟨w4, hr, hF4⟩ := fin _ H1 hH (by simp)
    obtain ⟨o, w5, m5, H5, hq, hF5, hs5, hfin5⟩ := stop w.heap.size c H1 hI t w4 cs hA hF4.emb
    refine ⟨o, w5, m5, H5, hq, hF4.trans hF5, hback.trans (.head (stepR_endRangeFunc (b := bas f Option.none) hr) ?_), hfin5⟩
    simpa using hs5
end
end Go.Proofs.YtaplkoimhecacaaDoor
namespace Go.Proofs.YtaplkoimhecacaaDoor

end Go.Proofs.YtaplkoimhecacaaDoor
namespace Go.Proofs.YtaplkoimhecacaaDoor

/-- Bounds that the cuts keep. -/
def Rw.bd (w : Rw) : Prop := (-2097152 ≤ w.x ∧ w.x ≤ 2097152) ∧ (-1099511627776 ≤ w.a ∧ w.a ≤ 1099511627776) ∧ (-1099511627777 ≤ w.b ∧ w.b ≤ 1099511627777)
end Go.Proofs.YtaplkoimhecacaaDoor
namespace Go.Proofs.YtaplkoimhecacaaDoor

def atR (l : List Rg) (i : Nat) : Rg := (l[i]?).getD zR
end Go.Proofs.YtaplkoimhecacaaDoor
namespace Go.Proofs.YtaplkoimhecacaaDoor

theorem inR_cut {a b : Rg} {p : Pt} : inR (a.map2 Bd.cut b) p ↔ inR a p ∧ inR b p := by
  unfold inR Rg.map2 Bd.cut; simp only; omega
theorem ok_inR {r : Rg} (h : r.ok) {p : Pt} (hp : inR r p) : p.ok := by unfold Rg.ok Bd.fits at h; unfold inR at hp; unfold Pt.ok; omega
/-- So many increasing indices from one on. -/
def Incr (n from_ : Nat) : List Nat → Prop
  | [] => True
  | j :: js => (from_ ≤ j ∧ j < n) ∧ Incr n (j + 1) js
theorem Incr.mono {n : Nat} : ∀ {js : List Nat} {a b : Nat}, a ≤ b → Incr n b js → Incr n a js
  | [], _, _, _, _ => True.intro
  | _ :: _, _, _, hab, h => ⟨⟨by have := h.1.1; omega, h.1.2⟩, h.2⟩
theorem Incr.mem {n : Nat} : ∀ {js : List Nat} {a : Nat}, Incr n a js → ∀ j ∈ js, a ≤ j ∧ j < n
  | _ :: js, a, h, j, hj => by
    rcases List.mem_cons.1 hj with rfl | hj
    · exact h.1
    · have := Incr.mem h.2 j hj
      have := h.1.1
      omega

theorem atR_of {l : List Rg} {i : Nat} {z : Rg} (h : l[i]? = some z) : atR l i = z := by unfold atR; rw [h]; rfl
theorem atR_mem {l : List Rg} {i : Nat} (h : i < l.length) : atR l i ∈ l := by
  rw [atR_of (List.getElem?_eq_getElem h)]; exact List.getElem_mem h
end Go.Proofs.YtaplkoimhecacaaDoor
namespace Go.Proofs.YtaplkoimhecacaaDoor

/-! ### Tight regions -/
/-- What a tight region is, without its list. -/
structure TotR (r t : Rg) : Prop where
  mem : ∀ p, inR r p → inR t p
  xlo : ∃ p, inR r p ∧ p.x = t.x.lo
  xhi : ∃ p, inR r p ∧ p.x = t.x.hi
  ylo : ∃ p, inR r p ∧ p.y = t.y.lo
  yhi : ∃ p, inR r p ∧ p.y = t.y.hi
  slo : ∃ p, inR r p ∧ p.x + p.y = t.s.lo
  shi : ∃ p, inR r p ∧ p.x + p.y = t.s.hi
  dlo : ∃ p, inR r p ∧ p.x - p.y = t.d.lo
  dhi : ∃ p, inR r p ∧ p.x - p.y = t.d.hi
theorem tight_totR {r t : Rg} (h : tightP r = some t) : TotR r t := by
  have g := tight_tot h
  have f : ∀ {q : Pt → Prop}, (∃ p ∈ endsOf r, q p) → ∃ p, inR r p ∧ q p := fun ⟨p, h1, h2⟩ => ⟨p, ends_in h1, h2⟩
  exact ⟨fun p hp => (tight_in h p).2 hp, f g.xlo, f g.xhi, f g.ylo, f g.yhi, f g.slo, f g.shi, f g.dlo, f g.dhi⟩
/-- The tight region depends on the places alone. -/
theorem TotR.uniq {a b t u : Rg} (h : TotR a t) (g : TotR b u) (e : ∀ p, inR a p ↔ inR b p) : t = u := by
  have key : ∀ {a b t u : Rg}, TotR a t → TotR b u → (∀ p, inR a p → inR b p) → (u.x.lo ≤ t.x.lo ∧ t.x.hi ≤ u.x.hi) ∧ (u.y.lo ≤ t.y.lo ∧ t.y.hi ≤ u.y.hi) ∧ (u.s.lo ≤ t.s.lo ∧ t.s.hi ≤ u.s.hi) ∧ (u.d.lo ≤ t.d.lo ∧ t.d.hi ≤ u.d.hi) := by
    intro a b t u h g e
    obtain ⟨p1, m1, e1⟩ := h.xlo
    obtain ⟨p2, m2, e2⟩ := h.xhi
    obtain ⟨p3, m3, e3⟩ := h.ylo
    obtain ⟨p4, m4, e4⟩ := h.yhi
    obtain ⟨p5, m5, e5⟩ := h.slo
    obtain ⟨p6, m6, e6⟩ := h.shi
    obtain ⟨p7, m7, e7⟩ := h.dlo
    obtain ⟨p8, m8, e8⟩ := h.dhi
    have := g.mem p1 (e _ m1)
    have := g.mem p2 (e _ m2)
    have := g.mem p3 (e _ m3)
    have := g.mem p4 (e _ m4)
    have := g.mem p5 (e _ m5)
    have := g.mem p6 (e _ m6)
    have := g.mem p7 (e _ m7)
    have := g.mem p8 (e _ m8)
    unfold inR at *
    refine ⟨⟨?_, ?_⟩, ⟨?_, ?_⟩, ⟨?_, ?_⟩, ⟨?_, ?_⟩⟩ <;> omega
  obtain ⟨⟨a1, a2⟩, ⟨b1, b2⟩, ⟨c1, c2⟩, d1, d2⟩ := key h g (fun p => (e p).1)
  obtain ⟨⟨a3, a4⟩, ⟨b3, b4⟩, ⟨c3, c4⟩, d3, d4⟩ := key g h (fun p => (e p).2)
  have ex : ∀ (a b : Bd), a.lo = b.lo → a.hi = b.hi → a = b := fun a b h1 h2 => by cases a; cases b; simp_all
  have hx := ex t.x u.x (by omega) (by omega)
  have hy := ex t.y u.y (by omega) (by omega)
  have hs := ex t.s u.s (by omega) (by omega)
  have hd := ex t.d u.d (by omega) (by omega)
  cases t; cases u; simp_all
theorem tight_some {r : Rg} {p : Pt} (h : inR r p) : ∃ t, tightP r = some t := by
  cases e : tightP r with
  | none => exact absurd h (tight_none.1 e p)
  | some t => exact ⟨t, rfl⟩
theorem tight_ne {r t : Rg} (h : tightP r = some t) : ∃ p, inR r p := let ⟨p, hp, _⟩ := (tight_totR h).xlo; ⟨p, hp⟩
theorem tight_eq {a b : Rg} (e : ∀ p, inR a p ↔ inR b p) : tightP a = tightP b := by
  cases ha : tightP a with
  | none => exact (tight_none.2 fun p hp => tight_none.1 ha p ((e p).2 hp)).symm
  | some t =>
    obtain ⟨p, hp⟩ := tight_ne ha
    obtain ⟨u, hu⟩ := tight_some ((e p).1 hp)
    rw [hu, (tight_totR ha).uniq (tight_totR hu) e]
/-- It is its own tight region. -/
theorem tight_idem {r t : Rg} (h : tightP r = some t) : tightP t = some t := by rw [tight_eq (tight_in h), h]
theorem totR_self {r t : Rg} (h : tightP r = some t) : TotR t t := tight_totR (tight_idem h)
/-! ### Counts -/
/-! ### Eight ends -/
/-! ### A chosen place -/
/-! ### Has -/
/-! ### Both -/
end Go.Proofs.YtaplkoimhecacaaDoor
