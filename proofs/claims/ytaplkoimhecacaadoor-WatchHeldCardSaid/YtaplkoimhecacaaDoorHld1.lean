/-
  What the base lacks. Plain Lean of package watch: a scene with a step more; what a keeper sets. No condition, no program. What a keeper does with a step, in plain Lean: what it sets breaks no rule. Walks of a keeper's Modes and Scene. The walk of a scene with a step more. The walk of a keeper's Do. The walk of the reference's comparison of scenes, at equal ones. The walk of WatchTold. How a list of steps that are told reads. The walk of WatchHeld.
-/
import Derived.SizedLaws
import Derived.Test.YtaplkoimhecacaaDoorTb01
import Derived.Test.YtaplkoimhecacaaDoorTb02
import Derived.Test.YtaplkoimhecacaaDoorTb03
import Derived.Test.YtaplkoimhecacaaDoorTb04
import Derived.Test.YtaplkoimhecacaaDoorTb05
import Derived.Test.YtaplkoimhecacaaDoorTb06
import Derived.Test.YtaplkoimhecacaaDoorTb07
import Derived.Test.YtaplkoimhecacaaDoorTb08
import Derived.Test.YtaplkoimhecacaaDoorTb09
import Derived.Test.YtaplkoimhecacaaDoorTb10
import Derived.Test.YtaplkoimhecacaaDoorTb11
import Derived.Test.YtaplkoimhecacaaDoorTb12
import Derived.Test.YtaplkoimhecacaaDoorTb13
import Derived.Test.YtaplkoimhecacaaDoorTb14
import Derived.Test.YtaplkoimhecacaaDoorTb15
import Derived.Test.YtaplkoimhecacaaDoorTb16
import Derived.Test.YtaplkoimhecacaaDoorTb17
import Derived.Test.YtaplkoimhecacaaDoorTb18
import Derived.Test.YtaplkoimhecacaaDoorTb19
namespace Go.Proofs.YtaplkoimhecacaaDoor
open Go
set_option maxRecDepth 100000
section
open Go

variable {P : Program} {f : FuncId} {ro : Option Nat} {N : Nat} {k : List Item} {E : Env} {D : List Deferred} {H : Heap} {Q : Out → Heap → Prop}
variable {ops : Array Oper} {l : List Oper}
variable {d : Nat} {x y : Operand} {T ty : TypeId} {pos : String} {af : Array Edge} {g : Option (Nat × Bool)}

theorem veqs {cx cy : List Value} {xs ys : List Int} {n : Nat} {T' : TypeId} [hT : TEq P T n] (hx : ev E x = some (.agg cx.toArray)) (hy : ev E y = some (.agg cy.toArray)) (hix : intsOf cx = some xs) (hiy : intsOf cy = some ys)
    (hlx : Nat.beq xs.length n = true) (hly : Nat.beq ys.length n = true) :
    OQ P N E D H ⟨some d, .binOp .eql T x y T', ty, pos, af, g⟩ (.bool (decide (xs = ys))) :=
  ov (by simp) (fun t w hA hE => by
    have h1 := hT.grd .eql x y cx.toArray cy.toArray w
    have h2 := hT.eq xs ys w (Nat.eq_of_beq_eq_true hlx) (Nat.eq_of_beq_eq_true hly)
    rw [← intsOf_eq _ _ hix, ← intsOf_eq _ _ hiy] at h2
    simp only [execOp, ev_eval hA hx, ev_eval hA hy, Sem.run_bind, h1, Result.andThen, run_eql_struct, h2, Sem.run_pure])
end
section
open Go

variable {P : Program} {f : FuncId} {ro : Option Nat} {N : Nat} {k : List Item} {D : List Deferred} {Q : Out → Heap → Prop} {ops : Array Oper}

variable {E : Env} {G H : Heap} {l : List (Kd × Oper)}

/-- An operation that adds blocks. -/
theorem vdgl {o : Oper} {d : Nat} {R : Value → Heap → Prop} {M : Heap} (hM : appHO G H = some M) (hm : Met ops N E o) (h : OG P N E D M o (fun v H' => ∃ B, H' = B ++ M ∧ R v B)) (ho : o.dst = some d) (hN : Nat.blt d N = true) (hL : ∀ v B, R v B → VD P f ro N ops l k ((d, v) :: E) D (B ++ G) H Q) :
    VD P f ro N ops ((.g, o) :: l) k E D G H Q := by
  intro t hA
  have hM := appHO_eq _ _ _ hM
  subst hM
  refine ⟨hm t hA, (h.st hA).mono fun v H' hR => ?_⟩
  obtain ⟨B, rfl, hR⟩ := hR
  refine ⟨B, rfl, fun _ => hL v B hR _ ?_⟩
  have := agree_pu hA (D := D) (o := o.dst) (fun d' hd' => by rw [ho] at hd'; cases hd'; exact Nat.le_of_ble_eq_true hN) v
  rwa [ho] at this ⊢
end
section
open Go
theorem stAt_md (g : Lg) (ms : List Int) (n : Nat) : (stAt g ms (n + 1)).md = mdAt ms n := by
  simp only [stAt, afterP]; split <;> rfl
end
section
open Go
open Go.ChangeShapes Go.WideShapes Go.ChangeAt Go.RowKit

variable {HH : Type} (enc : TypeId × Value → HH) (P : Program) (W : World)

variable {enc P W}
theorem allH_emb (W : World) : Emb (allH W) W := by
  refine ⟨?_, fun e he => ?_⟩
  · have : (allH W).map Prod.fst = List.range W.heap.size := by
      unfold allH
      rw [List.map_map]
      have : (Prod.fst ∘ fun p : Obj × Nat => (p.2, p.1)) = Prod.snd := rfl
      rw [this, List.zipIdx_map_snd, List.range_eq_range']
      simp
    rw [this]; exact List.nodup_range
  · exact allH_mem.1 he

/-- A contract at all blocks, in the library's form. -/
theorem calls_of {P : Program} {k : FuncId} {args : Array Value} {W : World} {v : Value} (h : VCall P k args (allH W) (fun o H' => o = .val v ∧ ∃ B, H' = B ++ allH W)) :
    Calls P k args W (fun e w' => e = .returned v ∧ Below W.heap.size W w') := by
  intro cs
  obtain ⟨o, w', m', H', ⟨rfl, B, rfl⟩, hF, hs, _, fr', rfl, h1, h2⟩ := h W cs (allH_emb W)
  refine ⟨.returned v, w', fr', ⟨rfl, hF.os, hF.tape, hF.output, hF.size, fun i hi => ?_⟩, hs, h1, h2⟩
  have hg : W.heap[i]? = some W.heap[i] := Array.getElem?_eq_getElem hi
  rw [hg]
  exact hF.emb.at_ (i, W.heap[i]) (List.mem_append_right _ (allH_mem.2 hg))

end
section
open Go
instance tEq23 : TEq Tryd.prog 23 7 := mkTEq (by kernel_rfl) (by kernel_rfl) (by kernel_rfl)
instance tSc34 : TSc Tryd.prog 34 := mkTSc (by kernel_rfl) (by kernel_rfl)
instance tSl88 : TSl Tryd.prog 88 95 20 := mkTSl (by kernel_rfl) (by kernel_rfl)
instance tAg95 : TAg Tryd.prog 95 20 := mkTAg (by kernel_rfl) (by kernel_rfl)
instance tFl95_0 : TFl Tryd.prog 95 0 0 := mkTFl (by kernel_rfl)
instance tFl95_1 : TFl Tryd.prog 95 1 8 := mkTFl (by kernel_rfl)
instance tFl95_2 : TFl Tryd.prog 95 2 16 := mkTFl (by kernel_rfl)
instance tFl95_3 : TFl Tryd.prog 95 3 17 := mkTFl (by kernel_rfl)
instance tFl95_4 : TFl Tryd.prog 95 4 18 := mkTFl (by kernel_rfl)
instance tFl95_5 : TFl Tryd.prog 95 5 19 := mkTFl (by kernel_rfl)
instance tFl155_0 : TFl Tryd.prog 155 0 0 := mkTFl (by kernel_rfl)
instance tFl155_1 : TFl Tryd.prog 155 1 5 := mkTFl (by kernel_rfl)
instance tFl155_2 : TFl Tryd.prog 155 2 12 := mkTFl (by kernel_rfl)
instance tAv157 : TAv Tryd.prog 157 true 3 1 := mkTAv (b := false) (by kernel_rfl) (by simp)
instance tBd157 : TBd Tryd.prog 157 [.int .i64 0, .int .i64 0, .int .i64 0] (fun i => some (i * 1, 1)) := mkTBda (n := 3) (b := false) (z := .agg #[.int .i64 0, .int .i64 0, .int .i64 0]) (by kernel_rfl) rfl (by kernel_rfl)
instance tFn43 : TFn Tryd.prog 43 := mkTFn Tryd.func43 (by kernel_rfl) rfl
instance tFn44 : TFn Tryd.prog 44 := mkTFn Tryd.func44 (by kernel_rfl) rfl
instance tFn46 : TFn Tryd.prog 46 := mkTFn Tryd.func46 (by kernel_rfl) rfl
instance tFn47 : TFn Tryd.prog 47 := mkTFn Tryd.func47 (by kernel_rfl) rfl
instance tFn86 : TFn Tryd.prog 86 := mkTFn Tryd.func86 (by kernel_rfl) rfl
instance tFn87 : TFn Tryd.prog 87 := mkTFn Tryd.func87 (by kernel_rfl) rfl
instance tFn88 : TFn Tryd.prog 88 := mkTFn Tryd.func88 (by kernel_rfl) rfl
instance tFn89 : TFn Tryd.prog 89 := mkTFn Tryd.func89 (by kernel_rfl) rfl
end
end Go.Proofs.YtaplkoimhecacaaDoor
namespace Go.Proofs.YtaplkoimhecacaaDoor
open Go
/-- A step that a keeper is told. -/
structure Lk where
  ship : Rg
  src : Rg
  eyes : Bool
  ears : Bool
  sg : List Sg
  fire : Bool
def atStep (t : Int) (x : Sg) : Sg := { x with st := t }
/-- A scene with a step more. -/
def withP (s : Sc) (x : Lk) : Sc := ⟨s.ship ++ [x.ship], s.src ++ [x.src], s.eyes ++ [x.eyes], s.ears ++ [x.ears], s.sg ++ x.sg.map (atStep s.ship.length)⟩
theorem atR_app {l m : List Rg} {i : Nat} (h : i < l.length) : atR (l ++ m) i = atR l i := by unfold atR; rw [List.getElem?_append_left h]
theorem bAt_app {l m : List Bool} {t : Int} (h : t.toNat < l.length) : bAt (l ++ m) t = bAt l t := by unfold bAt; rw [List.getElem?_append_left h]
section
variable {s : Sc} {y : Lk} {w : Wn}
theorem see_with {k : Kn} {x : Sg} (h : x.st.toNat < s.ship.length) : seeP (withP s y) k x = seeP s k x := by
  unfold seeP sightP
  rw [show atR (withP s y).ship x.st.toNat = atR s.ship x.st.toNat from atR_app h]
theorem sees_with : ∀ {L : List Sg} {k : Kn}, (∀ x ∈ L, x.st.toNat < s.ship.length) → seesP (withP s y) k L = seesP s k L
  | [], _, _ => rfl
  | x :: r, k, h => by
    simp only [seesP, see_with (h x (by simp))]
    cases seeP s k x with
    | none => rfl
    | some k' => exact sees_with fun z hz => h z (by simp [hz])
theorem far_with {k : Kn} {x : Sg} (h : x.st.toNat < s.ship.length) : farOk (withP s y) k x ↔ farOk s k x := by
  unfold farOk; rw [show atR (withP s y).ship x.st.toNat = atR s.ship x.st.toNat from atR_app h]
theorem inStep_with {nm : ByteArray} {t : Int} (h : t ≠ s.ship.length) : inStep (withP s y) nm t = inStep s nm t := by
  have e : (y.sg.map (atStep s.ship.length)).filter (fun x => decide (x.st = t) && decide (x.nm = nm)) = [] := by
    rw [List.filter_eq_nil_iff]
    intro x hx
    obtain ⟨z, _, rfl⟩ := List.mem_map.1 hx
    have : ¬ (s.ship.length : Int) = t := fun e => h e.symm
    simp [atStep, this]
  unfold inStep withP
  simp only [List.filter_append]
  rw [e, List.append_nil]
theorem stepT_with {nm : ByteArray} {t : Nat} {k : Kn} (h : t < s.ship.length) : stepT w (withP s y) nm t k = stepT w s nm t k := by
  have hL : ∀ x ∈ inStep s nm t, x.st.toNat < s.ship.length := fun x hx => by have := (inStep_mem hx).2.1; omega
  unfold stepT
  rw [inStep_with (by omega), sees_with hL]
  cases seesP s (swimP w k) (inStep s nm t) with
  | none => rfl
  | some k' =>
    have e : (∀ x ∈ inStep s nm t, farOk (withP s y) k' x) ↔ ∀ x ∈ inStep s nm t, farOk s k' x :=
      ⟨fun g x hx => (far_with (hL x hx)).1 (g x hx), fun g x hx => (far_with (hL x hx)).2 (g x hx)⟩
    simp only [e]
theorem kst_with {nm : ByteArray} : ∀ {n : Nat}, n ≤ s.ship.length → kst w (withP s y) nm n = kst w s nm n
  | 0, _ => rfl
  | n + 1, h => by
    show (match kst w (withP s y) nm n with | none => none | some k => stepT w (withP s y) nm n k) = (match kst w s nm n with | none => none | some k => stepT w s nm n k)
    rw [kst_with (by omega)]
    cases kst w s nm n with
    | none => rfl
    | some k => exact stepT_with (by omega)
theorem kst_unseen {nm : ByteArray} (h : ∀ x ∈ s.sg, x.nm ≠ nm) : ∀ n, kst w s nm n = some none
  | 0 => rfl
  | n + 1 => by
    show (match kst w s nm n with | none => none | some k => stepT w s nm n k) = some none
    rw [kst_unseen h n]
    exact stepT_unseen (List.filter_eq_nil_iff.2 fun x hx => by simp [h x hx])
theorem knAt_with {nm : ByteArray} {n : Nat} (h : n ≤ s.ship.length) : knAt w (withP s y) nm n = knAt w s nm n := by unfold knAt; rw [kst_with h]
theorem riskL_at {t : Nat} (h : t < s.ship.length) : bAt (riskL w s) t = s.sg.any fun x => riskAt w s t (knAt w s x.nm (t + 1)) := by
  unfold bAt riskL
  rw [List.getElem?_map, Int.toNat_natCast, List.getElem?_range h]; rfl
theorem risk_with {t : Nat} (h : t < s.ship.length) (hs : s.src.length = s.ship.length) : bAt (riskL w (withP s y)) t = bAt (riskL w s) t := by
  have hr : ∀ k, riskAt w (withP s y) t k = riskAt w s t k := fun k => by
    unfold riskAt; rw [show atR (withP s y).src t = atR s.src t from atR_app (by omega)]
  rw [riskL_at (s := withP s y) (by simp [withP]; omega), riskL_at h]
  have e : ∀ x : Sg, riskAt w (withP s y) t (knAt w (withP s y) x.nm (t + 1)) = riskAt w s t (knAt w s x.nm (t + 1)) := fun x => by rw [hr, knAt_with (by omega)]
  rw [show (withP s y).sg = s.sg ++ y.sg.map (atStep s.ship.length) from rfl, List.any_append]
  simp only [e]
  cases hA : s.sg.any fun x => riskAt w s t (knAt w s x.nm (t + 1)) with
  | true => rfl
  | false =>
    rw [Bool.false_or, List.any_eq_false]
    intro z _ hz
    rcases Classical.em (∃ x ∈ s.sg, x.nm = z.nm) with ⟨x, hx, hn⟩ | hno
    · rw [List.any_eq_false] at hA
      exact hA x hx (by rw [hn]; exact hz)
    · have : knAt w s z.nm (t + 1) = none := by
        unfold knAt
        rw [kst_unseen (fun x hx hn => hno ⟨x, hx, hn⟩)]; rfl
      rw [this] at hz
      simp [riskAt] at hz
end
/-- Two logs that say the same up to a step. -/
structure SameTo (g g' : Lg) (T : Int) : Prop where
  w : g'.w = g.w
  d : ∀ t, 0 ≤ t → t < T → bAt g'.d t = bAt g.d t
  e : ∀ t, 0 ≤ t → t < T → bAt g'.s.eyes t = bAt g.s.eyes t
  a : ∀ t, 0 ≤ t → t < T → bAt g'.s.ears t = bAt g.s.ears t
theorem allTr_congr {l m : List Bool} {a b : Int} (h : ∀ t, a ≤ t → t < b → bAt l t = bAt m t) : allTr l a b = allTr m a b := by
  unfold allTr
  rw [Bool.eq_iff_iff, List.all_eq_true, List.all_eq_true]
  constructor
  · intro g j hj; have := List.mem_range.1 hj; rw [← h _ (by omega) (by omega)]; exact g j hj
  · intro g j hj; have := List.mem_range.1 hj; rw [h _ (by omega) (by omega)]; exact g j hj
theorem anyTr_congr {l m : List Bool} {a b : Int} (h : ∀ t, a ≤ t → t < b → bAt l t = bAt m t) : anyTr l a b = anyTr m a b := by
  rw [Bool.eq_iff_iff, anyTr_iff, anyTr_iff]
  constructor
  · rintro ⟨j, h1, h2⟩; exact ⟨j, h1, by rw [← h _ (by omega) (by omega)]; exact h2⟩
  · rintro ⟨j, h1, h2⟩; exact ⟨j, h1, by rw [h _ (by omega) (by omega)]; exact h2⟩
section
variable {g g' : Lg} {T : Int}
theorem SameTo.start (h : SameTo g g' T) {t : Int} (h0 : 0 ≤ t) (ht : t < T) (hp : 0 ≤ g.w.pre) : startP g' t = startP g t := by
  unfold startP
  rw [h.w]
  by_cases hpt : g.w.pre ≤ t
  · rw [allTr_congr (fun j h1 h2 => h.e j (by omega) (by omega)), allTr_congr (l := g'.s.ears) (fun j h1 h2 => h.a j (by omega) (by omega)), anyTr_congr (fun j h1 h2 => h.d j (by omega) (by omega))]
  · rw [decide_eq_false hpt]; rfl
theorem SameTo.look (h : SameTo g g' T) {t : Int} (h0 : 0 ≤ t) (ht : t < T) : lookB g' t = lookB g t := by unfold lookB; rw [h.e t h0 ht, h.a t h0 ht]
theorem SameTo.broken (h : SameTo g g' T) {t : Int} (h0 : 0 ≤ t) (ht : t < T) (hp : 0 ≤ g.w.pre) (x : Sta) (m : Int) : brokenP g' t x m = brokenP g t x m := by
  unfold brokenP; rw [h.d t h0 ht, h.look h0 ht, h.start h0 ht hp, h.w]
theorem SameTo.after (h : SameTo g g' T) {t : Int} (h0 : 0 ≤ t) (ht : t < T) (x : Sta) (m : Int) : afterP g' t x m = afterP g t x m := by
  unfold afterP quietP; rw [h.d t h0 ht, h.look h0 ht, h.w]
theorem SameTo.st (h : SameTo g g' T) (ms : List Int) : ∀ n : Nat, (n : Int) ≤ T → stAt g' ms n = stAt g ms n
  | 0, _ => rfl
  | n + 1, hn => by simp only [stAt]; rw [h.st ms n (by omega), h.after (by omega) (by omega)]
theorem SameTo.up (h : SameTo g g' T) (hp : 0 ≤ g.w.pre) {ms : List Int} {n : Nat} (hn : (n : Int) ≤ T) (ho : okUp g ms n) : okUp g' ms n := fun t ht => by
  rw [h.st ms t (by omega), h.broken (by omega) (by omega) hp]; exact ho t ht
end
theorem mdAt_app {l m : List Int} {t : Nat} (h : t < l.length) : mdAt (l ++ m) t = mdAt l t := by unfold mdAt; rw [List.getElem?_append_left h]
theorem mdAt_last {l : List Int} {m : Int} : mdAt (l ++ [m]) l.length = m := by unfold mdAt; simp
theorem stAt_app (g : Lg) (l m : List Int) : ∀ n : Nat, n ≤ l.length → stAt g (l ++ m) n = stAt g l n
  | 0, _ => rfl
  | n + 1, hn => by simp only [stAt]; rw [stAt_app g l m n (by omega), mdAt_app (by omega)]
theorem okUp_snoc {g : Lg} {l : List Int} {m : Int} (h : okUp g l l.length) (hm : brokenP g l.length (stAt g l l.length) m = 0) : okUp g (l ++ [m]) (l ++ [m]).length := fun t ht => by
  rw [List.length_append, List.length_singleton] at ht
  by_cases e : t = l.length
  · subst e; rw [stAt_app g l [m] _ (Nat.le_refl _), mdAt_last]; exact hm
  · rw [stAt_app g l [m] _ (by omega), mdAt_app (by omega)]; exact h t (by omega)
theorem judge_all {g : Lg} {ms : List Int} (h : okUp g ms ms.length) : judgeF g 0 sta0 ms = ((ms.length : Int), 0) := by
  obtain ⟨T, h1, h2, _, h4, h5⟩ := judgeF_at g ms ms.length 0 (by omega) (fun t ht => by omega)
  have hT : T = ms.length := by
    rcases Nat.lt_or_ge T ms.length with hlt | hge
    · exact absurd (h T hlt) (h4 hlt).2
    · omega
  simp only [stAt, List.drop_zero, Int.ofNat_zero] at h1 h5
  exact Prod.ext (by rw [h1, hT]) (h5 hT)
theorem judge_last {g : Lg} {ms : List Int} {n : Int} (hm : brokenP g ms.length (stAt g ms ms.length) n ≠ 0) : (judgeF g 0 sta0 (ms ++ [n])).2 ≠ 0 := by
  obtain ⟨T, h1, h2, h3, h4, h5⟩ := judgeF_at g (ms ++ [n]) (ms ++ [n]).length 0 (by omega) (fun t ht => by omega)
  rw [List.length_append, List.length_singleton] at h2 h4
  simp only [stAt, List.drop_zero, Int.ofNat_zero] at h4
  rcases Nat.lt_or_ge T (ms.length + 1) with hlt | hge
  · rw [(h4 hlt).1]; exact (h4 hlt).2
  · have := h3 ms.length (by omega)
    rw [stAt_app g ms [n] _ (Nat.le_refl _), mdAt_last] at this
    exact absurd this hm
/-- The mode that a keeper sets. -/
def pickM (g : Lg) (t : Int) (x : Sta) (fire : Bool) : Int :=
  if fire = false then 0
  else if brokenP g t x (g.w.soft + 1) = 0 then g.w.soft + 1
  else if x.md + 1 ≤ g.w.soft + 1 ∧ brokenP g t x (x.md + 1) = 0 then x.md + 1
  else if brokenP g t x 1 = 0 then 1 else 0
section
variable {g : Lg} {t : Int} {x : Sta} {f : Bool}
theorem pick_ok : brokenP g t x (pickM g t x f) = 0 := by
  unfold pickM
  split
  · exact broken0 g t x
  · split
    · assumption
    · split
      · rename_i h; exact h.2
      · split
        · assumption
        · exact broken0 g t x
theorem pick_bd (hs : 1 ≤ g.w.soft) (hx : 0 ≤ x.md) : 0 ≤ pickM g t x f ∧ pickM g t x f ≤ g.w.soft + 1 := by
  unfold pickM; repeat' split
  all_goals omega
theorem pick_zero (hs : 1 ≤ g.w.soft) (hx : 0 ≤ x.md) (h : pickM g t x true = 0) {n : Int} (h1 : 1 ≤ n) (h2 : n ≤ g.w.soft + 1) : brokenP g t x n ≠ 0 := by
  intro hb
  unfold pickM at h
  rw [if_neg (by decide)] at h
  split at h
  · omega
  · rename_i k1
    split at h
    · omega
    · rename_i k2
      split at h
      · omega
      · rename_i k3
        have hne : n ≠ 1 := fun e => k3 (e ▸ hb)
        have hnf : n ≠ g.w.soft + 1 := fun e => k1 (e ▸ hb)
        have hmd : x.md = n - 1 := by
          unfold brokenP at hb
          repeat' split at hb
          all_goals omega
        exact k2 ⟨by omega, by rw [hmd, show n - 1 + 1 = n by omega]; exact hb⟩
end
theorem stAt_md0 {g : Lg} {ms : List Int} (h : ∀ m ∈ ms, 0 ≤ m) : ∀ n, 0 ≤ (stAt g ms n).md
  | 0 => Int.le_refl 0
  | n + 1 => by
    rw [stAt_md]; unfold mdAt
    cases hm : ms[n]? with
    | none => exact Int.le_refl 0
    | some m => exact h m (List.mem_of_getElem? hm)
/-- A keeper: what it was told, and what it set. -/
structure Kp where
  s : Sc
  ms : List Int
def kp0 : Kp := ⟨⟨[], [], [], [], []⟩, []⟩
theorem with_len (s : Sc) (y : Lk) : (withP s y).ship.length = s.ship.length + 1 := by simp [withP]
end Go.Proofs.YtaplkoimhecacaaDoor
namespace Go.Proofs.YtaplkoimhecacaaDoor
open Go
set_option maxRecDepth 100000

/-- What a keeper does with a step. -/
noncomputable def doE (w : Wn) (k : Kp) (x : Lk) : Kp × Int × Int :=
  if k.s.ship.length = 64 then (k, 0, 3) else if (dangerE w (withP k.s x)).2 ≠ 0 then (k, 0, (dangerE w (withP k.s x)).2)
  else (⟨withP k.s x, k.ms ++ [pickM (⟨w, withP k.s x, (dangerE w (withP k.s x)).1⟩ : Lg) k.s.ship.length (stAt (⟨w, withP k.s x, (dangerE w (withP k.s x)).1⟩ : Lg) k.ms k.ms.length) x.fire]⟩, pickM (⟨w, withP k.s x, (dangerE w (withP k.s x)).1⟩ : Lg) k.s.ship.length (stAt (⟨w, withP k.s x, (dangerE w (withP k.s x)).1⟩ : Lg) k.ms k.ms.length) x.fire, 0)
section
variable {w : Wn} {k : Kp} {x : Lk}
theorem do_3 (h : k.s.ship.length = 64) : doE w k x = (k, 0, 3) := if_pos h
theorem do_e (h : ¬ k.s.ship.length = 64) (h2 : (dangerE w (withP k.s x)).2 ≠ 0) : doE w k x = (k, 0, (dangerE w (withP k.s x)).2) := by unfold doE; rw [if_neg h, if_pos h2]
theorem do_y (h : ¬ k.s.ship.length = 64) (h2 : ¬ (dangerE w (withP k.s x)).2 ≠ 0) : doE w k x = (⟨withP k.s x, k.ms ++ [pickM (⟨w, withP k.s x, (dangerE w (withP k.s x)).1⟩ : Lg) k.s.ship.length (stAt (⟨w, withP k.s x, (dangerE w (withP k.s x)).1⟩ : Lg) k.ms k.ms.length) x.fire]⟩, pickM (⟨w, withP k.s x, (dangerE w (withP k.s x)).1⟩ : Lg) k.s.ship.length (stAt (⟨w, withP k.s x, (dangerE w (withP k.s x)).1⟩ : Lg) k.ms k.ms.length) x.fire, 0) := by unfold doE; rw [if_neg h, if_neg h2]
end
/-- What a keeper is, at any time. -/
structure KpI (w : Wn) (k : Kp) : Prop where
  len : k.ms.length = k.s.ship.length
  rng : ∀ m ∈ k.ms, 0 ≤ m ∧ m ≤ w.soft + 1
  ok : k = kp0 ∨ ((dangerE w k.s).2 = 0 ∧ okUp ⟨w, k.s, (dangerE w k.s).1⟩ k.ms k.ms.length)
theorem KpI.zero (w : Wn) : KpI w kp0 := ⟨rfl, fun m hm => (by cases hm), .inl rfl⟩
theorem KpI.bd {w : Wn} {k : Kp} (h : KpI w k) : k.s.ship.length ≤ 64 ∧ k.s.src.length = k.s.ship.length ∧ k.s.eyes.length = k.s.ship.length ∧ k.s.ears.length = k.s.ship.length ∧ k.s.sg.length ≤ 32 := by
  rcases h.ok with rfl | ⟨h1, _⟩
  · simp [kp0]
  · obtain ⟨_, h2, _⟩ := danger_0 h1
    obtain ⟨g1, g2, g3, g4, g5, _⟩ := h2
    omega
theorem risk_is {w : Wn} {s : Sc} (h : (dangerE w s).2 = 0) : (dangerE w s).1 = riskL w s := by
  obtain ⟨_, _, h3, _⟩ := danger_0 h
  unfold riskP at h3
  split at h3
  · exact (Option.some.inj h3).symm
  · cases h3
/-- What was so, is so with a step more. -/
theorem same_with {w : Wn} {s : Sc} {x : Lk} (h : (dangerE w s).2 = 0) (h' : (dangerE w (withP s x)).2 = 0) : SameTo ⟨w, s, (dangerE w s).1⟩ ⟨w, withP s x, (dangerE w (withP s x)).1⟩ s.ship.length := by
  obtain ⟨_, h2, _⟩ := danger_0 h
  obtain ⟨g1, g2, g3, g4, _⟩ := h2
  refine ⟨rfl, fun t h0 ht => ?_, fun t h0 ht => ?_, fun t h0 ht => ?_⟩
  · rw [risk_is h, risk_is h']
    have := risk_with (w := w) (s := s) (y := x) (t := t.toNat) (by omega) g2
    rwa [show ((t.toNat : Nat) : Int) = t by omega] at this
  · exact bAt_app (by omega)
  · exact bAt_app (by omega)
theorem KpI.up {w : Wn} {k : Kp} (h : KpI w k) {x : Lk} (h' : (dangerE w (withP k.s x)).2 = 0) : okUp (⟨w, withP k.s x, (dangerE w (withP k.s x)).1⟩ : Lg) k.ms k.ms.length := by
  rcases h.ok with rfl | ⟨h1, h2⟩
  · intro t ht; exact absurd ht (by simp [kp0])
  · have hw := (danger_0 h').1
    unfold okW at hw
    exact (same_with h1 h').up (by simp only; omega) (by rw [h.len]; exact Int.le_refl _) h2
theorem KpI.step {w : Wn} {k : Kp} (h : KpI w k) (x : Lk) : KpI w (doE w k x).1 := by
  by_cases h3 : k.s.ship.length = 64
  · rw [do_3 h3]; exact h
  · by_cases he : (dangerE w (withP k.s x)).2 ≠ 0
    · rw [do_e h3 he]; exact h
    · rw [do_y h3 he]
      have he' := Classical.not_not.1 he
      have hw := (danger_0 he').1
      unfold okW at hw
      have hmd := stAt_md0 (g := (⟨w, withP k.s x, (dangerE w (withP k.s x)).1⟩ : Lg)) (ms := k.ms) (fun m hm => (h.rng m hm).1) k.ms.length
      refine ⟨by rw [with_len, List.length_append, List.length_singleton, h.len], fun m hm => ?_, .inr ⟨he', okUp_snoc (h.up he') (by rw [h.len]; exact pick_ok)⟩⟩
      rcases List.mem_append.1 hm with hm | hm
      · exact h.rng m hm
      · rw [List.mem_singleton.1 hm]
        exact pick_bd (g := (⟨w, withP k.s x, (dangerE w (withP k.s x)).1⟩ : Lg)) (by simp only; omega) hmd
theorem modes_in {w : Wn} {ms : List Int} (h : ∀ m ∈ ms, 0 ≤ m ∧ m ≤ w.soft + 1) : modesBad w ms = false := by
  unfold modesBad
  rw [List.any_eq_false]
  intro m hm
  have := h m hm
  simp [this]
/-- What a keeper has set breaks no rule. -/
theorem KpI.judge {w : Wn} {k : Kp} (h : KpI w k) (hn : k.ms ≠ []) : judgeE w k.s k.ms = ((k.ms.length : Int), 0, 0) := by
  rcases h.ok with rfl | ⟨h1, h2⟩
  · exact absurd rfl hn
  · obtain ⟨g1, g2, _⟩ := danger_0 h1
    have hb : ¬ bothE w (chkS k.s) ≠ 0 := by
      intro hb; rw [danger_e hb] at h1; exact hb h1
    exact judge_y hb (by rw [modes_in h.rng]; rintro (e | e); exact e h.len; cases e) (by rw [h1]; simp) (judge_all h2)
/-- Who was told to fire, and does not, could not. -/
theorem KpI.none {w : Wn} {k : Kp} (h : KpI w k) {x : Lk} (h3 : ¬ k.s.ship.length = 64) (he : ¬ (dangerE w (withP k.s x)).2 ≠ 0) (hf : x.fire = true) (hm : (doE w k x).2.1 = 0) {n : Int} (h1 : 1 ≤ n) (h2 : n ≤ w.soft + 1) :
    ∃ a b, judgeE w (withP k.s x) (k.ms ++ [n]) = (a, b, 0) ∧ b ≠ 0 := by
  have he' := Classical.not_not.1 he
  rw [do_y h3 he, hf] at hm
  have hw := (danger_0 he').1
  unfold okW at hw
  have hmd := stAt_md0 (g := (⟨w, withP k.s x, (dangerE w (withP k.s x)).1⟩ : Lg)) (ms := k.ms) (fun m hm => (h.rng m hm).1) k.ms.length
  have hbr : brokenP (⟨w, withP k.s x, (dangerE w (withP k.s x)).1⟩ : Lg) k.ms.length (stAt (⟨w, withP k.s x, (dangerE w (withP k.s x)).1⟩ : Lg) k.ms k.ms.length) n ≠ 0 := by rw [h.len] at *; exact pick_zero (g := (⟨w, withP k.s x, (dangerE w (withP k.s x)).1⟩ : Lg)) (by simp only; omega) hmd hm h1 (by simp only; omega)
  have hb : ¬ bothE w (chkS (withP k.s x)) ≠ 0 := by
    intro hb; rw [danger_e hb] at he'; exact hb he'
  refine ⟨_, _, judge_y hb ?_ he rfl, judge_last hbr⟩
  rw [modes_in (ms := k.ms ++ [n]) (fun m hm => by
    rcases List.mem_append.1 hm with hm | hm
    · exact h.rng m hm
    · rw [List.mem_singleton.1 hm]; omega)]
  rintro (e | e)
  · exact e (by rw [with_len, List.length_append, List.length_singleton, h.len])
  · cases e
theorem do_ok {w : Wn} {k : Kp} {x : Lk} (h : (doE w k x).2.2 = 0) : ¬ k.s.ship.length = 64 ∧ ¬ (dangerE w (withP k.s x)).2 ≠ 0 := by
  by_cases h3 : k.s.ship.length = 64
  · rw [do_3 h3] at h; cases h
  · refine ⟨h3, fun he => ?_⟩
    rw [do_e h3 he] at h; exact he h
theorem do_no {w : Wn} {k : Kp} {x : Lk} (h : (doE w k x).2.2 ≠ 0) : (doE w k x).1 = k ∧ (doE w k x).2.1 = 0 := by
  by_cases h3 : k.s.ship.length = 64
  · rw [do_3 h3]; exact ⟨rfl, rfl⟩
  · by_cases he : (dangerE w (withP k.s x)).2 ≠ 0
    · rw [do_e h3 he]; exact ⟨rfl, rfl⟩
    · rw [do_y h3 he] at h; exact absurd rfl h
theorem do_is {w : Wn} {k : Kp} {x : Lk} (h : (doE w k x).2.2 = 0) : (doE w k x).1.s = withP k.s x ∧ (doE w k x).1.ms = k.ms ++ [(doE w k x).2.1] ∧ (x.fire = false → (doE w k x).2.1 = 0) := by
  obtain ⟨h3, he⟩ := do_ok h
  rw [do_y h3 he]
  exact ⟨rfl, rfl, fun hf => by simp only; unfold pickM; rw [if_pos hf]⟩

end Go.Proofs.YtaplkoimhecacaaDoor
namespace Go.Proofs.YtaplkoimhecacaaDoor
open Go
set_option maxRecDepth 100000

attribute [local irreducible] tightP hullP rootP farP rows endsOf
abbrev clKp (h : SH) (w : Wn) (k : Kp) (oa : Option Addr) (c : Nat) : List Value := [.slice h.a1 k.s.ship.length h.c1, .slice h.a2 k.s.src.length h.c2, .slice h.a3 k.s.eyes.length h.c3, .slice h.a4 k.s.ears.length h.c4, .slice h.a5 k.s.sg.length h.c5, I w.zone, I w.speed, I w.hold, I w.pre, I w.delay, I w.soft, I w.pause, .slice oa k.ms.length c]
abbrev clLk (x : Lk) (oa : Option Addr) (c : Nat) : List Value := [I x.ship.x.lo, I x.ship.x.hi, I x.ship.y.lo, I x.ship.y.hi, I x.ship.s.lo, I x.ship.s.hi, I x.ship.d.lo, I x.ship.d.hi, I x.src.x.lo, I x.src.x.hi, I x.src.y.lo, I x.src.y.hi, I x.src.s.lo, I x.src.s.hi, I x.src.d.lo, I x.src.d.hi, .bool x.eyes, .bool x.ears, .slice oa x.sg.length c, .bool x.fire]
section
variable {P : Program} {N : Nat} {E : Env} {D : List Deferred} {H : Heap} {d : Nat} {x y : Operand} {T ty : TypeId} {pos : String} {af : Array Edge} {g : Option (Nat × Bool)}
theorem veqpN {a : Addr} {T' e : TypeId} (hT : P.underlying T = some (.pointer e)) (hx : ev E x = some (.pointer (some a))) (hy : ev E y = some (.pointer Option.none)) :
    OQ P N E D H ⟨some d, .binOp .eql T x y T', ty, pos, af, g⟩ (.bool false) :=
  ov (by simp) (fun t w hA _ => by
    have h1 : ∀ n, (Op.equalIn (n + 1) T (.pointer (some a)) (.pointer Option.none)).run P w = .ok false w := fun n => by simp [Op.equalIn, run_underlying hT]
    have h2 : (Op.equal T (.pointer (some a)) (.pointer Option.none)).run P w = .ok false w := h1 9999
    simp [execOp, ev_eval hA hx, ev_eval hA hy, eqGuard, binOp, h2])
end
theorem OwnS.cp {e size n c : Nat} {oa : Option Addr} {xs : List Value} {B : Heap} (h : OwnS e size (.slice oa n c) n xs B) : n ≤ c := by
  obtain ⟨_, _, h1, h2⟩ := h.shape; cases h1; exact h2
theorem mapB' (l : List Bool) : l.flatMap encB = l.flatMap encB := rfl
theorem ScO.ofs {B1 B2 B3 B4 B5 : Heap} {o1 o2 o3 o4 o5 : Option Addr} {k1 k2 k3 k4 k5 : Nat} {s : Sc} (h1 : SlO B1 o1 8 clR s.ship) (h2 : SlO B2 o2 8 clR s.src) (h3 : SlO B3 o3 1 encB s.eyes) (h4 : SlO B4 o4 1 encB s.ears) (h5 : SlO B5 o5 5 clSg s.sg) (hc : s.eyes.length ≤ k3 ∧ s.ears.length ≤ k4) (hn : ∀ x ∈ s.sg, x.nm.size ≤ 9223372036854775807)
    (hb : s.ship.length ≤ 9223372036854775807 ∧ s.src.length ≤ 9223372036854775807 ∧ s.eyes.length ≤ 9223372036854775807 ∧ s.ears.length ≤ 9223372036854775807 ∧ s.sg.length ≤ 9223372036854775807) {B : Heap} (e1 : ∀ e ∈ B1, e ∈ B) (e2 : ∀ e ∈ B2, e ∈ B) (e3 : ∀ e ∈ B3, e ∈ B) (e4 : ∀ e ∈ B4, e ∈ B) (e5 : ∀ e ∈ B5, e ∈ B) : ScO B ⟨o1, k1, o2, k2, o3, k3, o4, k4, o5, k5⟩ s :=
  ⟨h1.sub e1, h2.sub e2, h3.sub e3, h4.sub e4, h5.sub e5, hc, hn, hb⟩

/-- (*paravane/watch.Keeper).Modes -/
theorem d_Modes (h : SH) (w : Wn) (k : Kp) (oa : Option Addr) (c b : Nat) (H : Heap) [hat : HAt H b (clKp h w k oa c) 155] [hsl : SlO H oa 1 encI k.ms] (hm : k.ms.length ≤ 64) : VCall Tryd.prog 43 [ptr b].toArray H (fun o H' => ∃ v, o = .val v ∧ ∃ B, H' = B ++ H ∧ ∃ oa' c', v = .slice oa' k.ms.length c' ∧ OwnS 3 1 (.slice oa' k.ms.length c') k.ms.length (k.ms.flatMap encI) B) := by
 refine vcall_of_vrun Tryd.func43 rfl (N := 10) rfl rfl ?_
 refine vseq ?_
 refine vregion ?_
 refine vone rfl (vxq (vas rfl) rfl rfl ?_)
 refine vnil ?_
 refine vseq ?_
 refine vseq ?_
 refine vregion ?_
 refine vone rfl (vxq (vmv rfl) rfl rfl ?_)
 refine vone rfl (vxq (veqpN (e := 155) (by kernel_rfl) rfl rfl) rfl rfl ?_)
 refine vknow (d := 4) (b' := false) rfl rfl ?_
 refine vnil ?_
 refine vcondf rfl ?_
 refine vskip ?_
 refine vseq ?_
 refine vregion ?_
 refine vone rfl (vxq (vmv rfl) rfl rfl ?_)
 refine vone rfl (vxq (vnc rfl) rfl rfl ?_)
 refine vone rfl (vxq (vfa rfl) rfl rfl ?_)
 refine vone rfl (vxq (vld1 rfl rfl) rfl rfl ?_)
 refine vone rfl (vxg (vcg rfl rfl rfl (d_CloneI k.ms _ _ _ rfl (by omega) _) (fun o H' h => h)) rfl rfl ?_)
 rintro _ _ ⟨B, rfl, ⟨oa1, c1, rfl, hown⟩⟩
 refine vone rfl (vxq (vas rfl) rfl rfl ?_)
 refine vnil ?_
 refine vret (vr1 (H' := B ++ H) Tryd.func43 rfl (.tmp rfl) sb2 ?_)
 exact ⟨_, rfl, B, rfl, oa1, c1, rfl, hown⟩
/-- (*paravane/watch.Keeper).Scene -/
theorem d_Scene (h : SH) (w : Wn) (k : Kp) (oa : Option Addr) (c b : Nat) (H : Heap) [hat : HAt H b (clKp h w k oa c) 155] [hsc : ScO H h k.s] (hb : k.s.ship.length ≤ 64 ∧ k.s.src.length ≤ 64 ∧ k.s.eyes.length ≤ 64 ∧ k.s.ears.length ≤ 64 ∧ k.s.sg.length ≤ 32) : VCall Tryd.prog 46 [ptr b].toArray H (fun o H' => ∃ v, o = .val v ∧ ∃ B, H' = B ++ H ∧ ∃ h', v = vSc h' k.s ∧ ScO B h' k.s) := by
 have hbd := hsc.bd
 refine vcall_of_vrun Tryd.func46 rfl (N := 42) rfl rfl ?_
 refine vseq ?_
 refine vregion ?_
 refine vone rfl (vxa valloc rfl rfl (fun b1 => ?_))
 refine vnil ?_
 refine vseq ?_
 refine vseq ?_
 refine vregion ?_
 refine vone rfl (vxq (vmv rfl) rfl rfl ?_)
 refine vone rfl (vxq (veqpN (e := 155) (by kernel_rfl) rfl rfl) rfl rfl ?_)
 refine vknow (d := 4) (b' := false) rfl rfl ?_
 refine vnil ?_
 refine vcondf rfl ?_
 refine vskip ?_
 refine vseq ?_
 refine vdraw0 [(.q, 0), (.q, 1), (.q, 2), (.q, 3), (.q, 4), (.q, 5), (.q, 7), (.q, 8), (.q, 9), (.q, 10), (.q, 11), (.q, 12), (.q, 14), (.q, 15), (.q, 16), (.q, 17), (.q, 18), (.q, 19), (.q, 21), (.q, 22), (.q, 23), (.q, 24), (.q, 25), (.q, 26), (.q, 28), (.q, 29), (.q, 30), (.q, 31), (.q, 32), (.q, 33), (.g, 6), (.g, 13), (.g, 20), (.g, 27), (.g, 34), (.q, 35), (.c, 36)] Tryd.mixed (by kernel_rfl) (by kernel_rfl) ?_
 refine vdq (mone rfl) (vmv rfl) rfl rfl ?_
 refine vdq (mone rfl) (vnc rfl) rfl rfl ?_
 refine vdq (mone rfl) (vfa rfl) rfl rfl ?_
 refine vdq (mone rfl) (vfa rfl) rfl rfl ?_
 refine vdq (mone rfl) (vfa rfl) rfl rfl ?_
 refine vdq (mone rfl) (vld1 rfl rfl) rfl rfl ?_
 refine vdq (mone rfl) (vmv rfl) rfl rfl ?_
 refine vdq (mone rfl) (vnc rfl) rfl rfl ?_
 refine vdq (mone rfl) (vfa rfl) rfl rfl ?_
 refine vdq (mone rfl) (vfa rfl) rfl rfl ?_
 refine vdq (mone rfl) (vfa rfl) rfl rfl ?_
 refine vdq (mone rfl) (vld1 rfl rfl) rfl rfl ?_
 refine vdq (mone rfl) (vmv rfl) rfl rfl ?_
 refine vdq (mone rfl) (vnc rfl) rfl rfl ?_
 refine vdq (mone rfl) (vfa rfl) rfl rfl ?_
 refine vdq (mone rfl) (vfa rfl) rfl rfl ?_
 refine vdq (mone rfl) (vfa rfl) rfl rfl ?_
 refine vdq (mone rfl) (vld1 rfl rfl) rfl rfl ?_
 refine vdq (mone rfl) (vmv rfl) rfl rfl ?_
 refine vdq (mone rfl) (vnc rfl) rfl rfl ?_
 refine vdq (mone rfl) (vfa rfl) rfl rfl ?_
 refine vdq (mone rfl) (vfa rfl) rfl rfl ?_
 refine vdq (mone rfl) (vfa rfl) rfl rfl ?_
 refine vdq (mone rfl) (vld1 rfl rfl) rfl rfl ?_
 refine vdq (mone rfl) (vmv rfl) rfl rfl ?_
 refine vdq (mone rfl) (vnc rfl) rfl rfl ?_
 refine vdq (mone rfl) (vfa rfl) rfl rfl ?_
 refine vdq (mone rfl) (vfa rfl) rfl rfl ?_
 refine vdq (mone rfl) (vfa rfl) rfl rfl ?_
 refine vdq (mone rfl) (vld1 rfl rfl) rfl rfl ?_
 refine vdgl rfl (mone rfl) (vcg rfl rfl rfl (d_CloneR k.s.ship _ _ _ rfl (by omega) _) (fun o H' h => h)) rfl rfl ?_
 rintro _ B1 ⟨o1, c1, rfl, g1⟩
 refine vdgl (appHO_of _ _) (mone rfl) (vcg rfl rfl rfl (d_CloneR k.s.src _ _ _ rfl (by omega) _) (fun o H' h => h)) rfl rfl ?_
 rintro _ B2 ⟨o2, c2, rfl, g2⟩
 refine vdgl (appHO_of _ _) (mone rfl) (vcg rfl rfl rfl (d_CloneB k.s.eyes _ _ _ rfl (by omega) _) (fun o H' h => h)) rfl rfl ?_
 rintro _ B3 ⟨o3, c3, rfl, g3⟩
 refine vdgl (appHO_of _ _) (mone rfl) (vcg rfl rfl rfl (d_CloneB k.s.ears _ _ _ rfl (by omega) _) (fun o H' h => h)) rfl rfl ?_
 rintro _ B4 ⟨o4, c4, rfl, g4⟩
 refine vdgl (appHO_of _ _) (mone rfl) (vcg rfl rfl rfl (d_CloneS k.s.sg _ _ _ rfl (by omega) _) (fun o H' h => h)) rfl rfl ?_
 rintro _ B5 ⟨o5, c5, rfl, g5⟩
 refine vdq (mone rfl) (vbd rfl rfl) rfl rfl ?_
 refine vdcs (mone rfl) (vstn rfl rfl rfl rfl rfl) rfl ?_
 refine vdend (appHO_of _ _) ?_
 refine vret (vr1 (H' := (B5 ++ (B4 ++ (B3 ++ (B2 ++ (B1 ++ []))))) ++ H) Tryd.func46 rfl (.celln rfl rfl) sb2 ?_)
 exact ⟨_, rfl, _, rfl, ⟨o1, c1, o2, c2, o3, c3, o4, c4, o5, c5⟩, rfl, ScO.ofs (OwnS.slo (enc := clR) g1 clR_len (by decide) rfl rfl) (OwnS.slo (enc := clR) g2 clR_len (by decide) rfl rfl) (OwnS.slo (enc := encB) g3 encB_len (by decide) (mapB' _) rfl) (OwnS.slo (enc := encB) g4 encB_len (by decide) (mapB' _) rfl) (OwnS.slo (enc := clSg) g5 clSg_len (by decide) rfl rfl) ⟨g3.cp, g4.cp⟩ hsc.nm hbd (fun e he => by simp [he]) (fun e he => by simp [he]) (fun e he => by simp [he]) (fun e he => by simp [he]) (fun e he => by simp [he])⟩
end Go.Proofs.YtaplkoimhecacaaDoor
namespace Go.Proofs.YtaplkoimhecacaaDoor
open Go
set_option maxRecDepth 100000

attribute [local irreducible] tightP hullP rootP farP rows endsOf
section
open Classical in
theorem pmW (A B C D E P1 N4 N5 N6 N7 Q H : Heap) : ((P1 ++ (A ++ (N7 ++ (B ++ (N6 ++ (C ++ (N5 ++ (D ++ (N4 ++ (E ++ [])))))))))) ++ (Q ++ H)).Perm ((P1 ++ (Q ++ (A ++ (E ++ (D ++ (C ++ (B ++ H))))))) ++ (N7 ++ (N6 ++ (N5 ++ N4)))) := perm_of fun a => by simp only [List.count_append, List.count_nil]; omega
end

/-- (paravane/watch.scene).with -/
theorem d_with (h : SH) (s : Sc) (x : Lk) (oa : Option Addr) (c : Nat) (H : Heap) [hsc : ScO H h s] [hsx : SlO H oa 5 clSg x.sg] (hb : s.ship.length ≤ 64 ∧ s.src.length ≤ 64 ∧ s.eyes.length ≤ 64 ∧ s.ears.length ≤ 64 ∧ s.sg.length ≤ 32) (hx : x.sg.length * 48 ≤ 140737488351232) (hxn : ∀ z ∈ x.sg, z.nm.size ≤ 9223372036854775807) : VCall Tryd.prog 87 [vSc h s, .agg (clLk x oa c).toArray].toArray H (fun o H' => ∃ v, o = .val v ∧ ∃ B, H' = B ++ H ∧ ∃ h', v = vSc h' (withP s x) ∧ ScO B h' (withP s x)) := by
 have hbd := hsc.bd
 refine vcall_of_vrun Tryd.func87 rfl (N := 63) rfl rfl ?_
 refine vseq ?_
 refine vregion ?_
 refine vone rfl (vxa (vbox rfl rfl) rfl rfl (fun b1 => ?_))
 refine vone rfl (vxa (vbox rfl rfl) rfl rfl (fun b2 => ?_))
 refine vone rfl (vxa valloc rfl rfl (fun b3 => ?_))
 refine vnil ?_
 refine vseq ?_
 refine vdraw [(.q, 0), (.q, 1), (.q, 2), (.q, 4), (.q, 5), (.q, 8), (.q, 9), (.q, 10), (.q, 12), (.q, 13), (.q, 16), (.q, 17), (.q, 18), (.q, 20), (.q, 21), (.q, 24), (.q, 25), (.q, 26), (.q, 28), (.q, 29), (.q, 32), (.q, 33), (.q, 34), (.g, 3), (.m, 6), (.s, 7), (.g, 11), (.m, 14), (.s, 15), (.g, 19), (.m, 22), (.s, 23), (.g, 27), (.m, 30), (.s, 31), (.g, 35), (.q, 36), (.a (blk [.slice Option.none 0 0, .slice Option.none 0 0, .slice Option.none 0 0, .slice Option.none 0 0, .slice Option.none 0 0] 33), 37), (.s, 38)] Tryd.mixed (by kernel_rfl) (by exact ⟨⟨_, _, _, _, _, rfl, _, inferInstance, rfl⟩, True.intro⟩) ?_
 refine vdq (mone rfl) (vfa rfl) rfl rfl ?_
 refine vdq (mone rfl) (vfa rfl) rfl rfl ?_
 refine vdq (mone rfl) (vld1 rfl rfl) rfl rfl ?_
 refine vdq (mone rfl) (vfa rfl) rfl rfl ?_
 refine vdq (mone rfl) (vldn rfl rfl) rfl rfl ?_
 refine vdq (mone rfl) (vfa rfl) rfl rfl ?_
 refine vdq (mone rfl) (vfa rfl) rfl rfl ?_
 refine vdq (mone rfl) (vld1 rfl rfl) rfl rfl ?_
 refine vdq (mone rfl) (vfa rfl) rfl rfl ?_
 refine vdq (mone rfl) (vldn rfl rfl) rfl rfl ?_
 refine vdq (mone rfl) (vfa rfl) rfl rfl ?_
 refine vdq (mone rfl) (vfa rfl) rfl rfl ?_
 refine vdq (mone rfl) (vld1 rfl rfl) rfl rfl ?_
 refine vdq (mone rfl) (vfa rfl) rfl rfl ?_
 refine vdq (mone rfl) (vld1 rfl rfl) rfl rfl ?_
 refine vdq (mone rfl) (vfa rfl) rfl rfl ?_
 refine vdq (mone rfl) (vfa rfl) rfl rfl ?_
 refine vdq (mone rfl) (vld1 rfl rfl) rfl rfl ?_
 refine vdq (mone rfl) (vfa rfl) rfl rfl ?_
 refine vdq (mone rfl) (vld1 rfl rfl) rfl rfl ?_
 refine vdq (mone rfl) (vfa rfl) rfl rfl ?_
 refine vdq (mone rfl) (vfa rfl) rfl rfl ?_
 refine vdq (mone rfl) (vld1 rfl rfl) rfl rfl ?_
 refine vdgl rfl (mone rfl) (vcg rfl rfl rfl (d_CloneR s.ship _ _ _ rfl (by omega) _) (fun o H' h => h)) rfl rfl ?_
 rintro _ B1 ⟨o1, c1, rfl, g1⟩
 refine vdm (mone rfl) (vbsP rfl rfl rfl rfl rfl rfl) rfl rfl (fun b4 => ?_)
 refine vdsd (mone rfl) (vappF (a := ⟨b4, 0, Option.none⟩) (m := 1) (c := 1) (size := 8) (bytes := 64) (F := fun X => (b4, blk (clR x.ship) 55) :: (X ++ [])) (B := B1) (xs := s.ship.flatMap clR) (news := clR x.ship) (fun X => perm_mid [(b4, blk (clR x.ship) 55)] X []) rfl rfl g1 rfl (news_blk (b := b4) (T := 55) (by simp)) (one1 (enc := clR) (fun _ => rfl) [x.ship] x.ship (by simp)) (by omega) (by simp only [maxLen]; omega) (by omega)) rfl rfl ?_
 rintro _ _ ⟨D1, hP1, _, rfl⟩
 obtain ⟨p1, q1, rfl, l1⟩ := hP1.shape
 refine vdgl (appHO_of _ _) (mone rfl) (vcg rfl rfl rfl (d_CloneR s.src _ _ _ rfl (by omega) _) (fun o H' h => h)) rfl rfl ?_
 rintro _ B2 ⟨o2, c2, rfl, g2⟩
 refine vdm (mone rfl) (vbsP rfl rfl rfl rfl rfl rfl) rfl rfl (fun b5 => ?_)
 refine vdsd (mone rfl) (vappF (a := ⟨b5, 0, Option.none⟩) (m := 1) (c := 1) (size := 8) (bytes := 64) (F := fun X => (b5, blk (clR x.src) 55) :: (X ++ ((b4, blk (clR x.ship) 55) :: (D1 ++ [])))) (B := B2) (xs := s.src.flatMap clR) (news := clR x.src) (fun X => perm_mid [(b5, blk (clR x.src) 55)] X ((b4, blk (clR x.ship) 55) :: (D1 ++ []))) rfl rfl g2 rfl (news_blk (b := b5) (T := 55) (by simp)) (one1 (enc := clR) (fun _ => rfl) [x.src] x.src (by simp)) (by omega) (by simp only [maxLen]; omega) (by omega)) rfl rfl ?_
 rintro _ _ ⟨D2, hP2, _, rfl⟩
 obtain ⟨p2, q2, rfl, l2⟩ := hP2.shape
 refine vdgl (appHO_of _ _) (mone rfl) (vcg rfl rfl rfl (d_CloneB s.eyes _ _ _ rfl (by omega) _) (fun o H' h => h)) rfl rfl ?_
 rintro _ B3 ⟨o3, c3, rfl, g3⟩
 refine vdm (mone rfl) (vbsP rfl rfl rfl rfl rfl rfl) rfl rfl (fun b6 => ?_)
 refine vdsd (mone rfl) (vappF (a := ⟨b6, 0, Option.none⟩) (m := 1) (c := 1) (size := 1) (bytes := 1) (F := fun X => (b6, blk [.bool x.eyes] 4) :: (X ++ ((b5, blk (clR x.src) 55) :: (D2 ++ ((b4, blk (clR x.ship) 55) :: (D1 ++ [])))))) (B := B3) (xs := s.eyes.flatMap encB) (news := encB x.eyes) (fun X => perm_mid [(b6, blk [.bool x.eyes] 4)] X ((b5, blk (clR x.src) 55) :: (D2 ++ ((b4, blk (clR x.ship) 55) :: (D1 ++ []))))) rfl rfl g3 rfl (news_blk (b := b6) (T := 4) (by simp)) (one1 (enc := encB) (fun _ => rfl) [x.eyes] x.eyes (by simp)) (by omega) (by simp only [maxLen]; omega) (by omega)) rfl rfl ?_
 rintro _ _ ⟨D3, hP3, _, rfl⟩
 obtain ⟨p3, q3, rfl, l3⟩ := hP3.shape
 refine vdgl (appHO_of _ _) (mone rfl) (vcg rfl rfl rfl (d_CloneB s.ears _ _ _ rfl (by omega) _) (fun o H' h => h)) rfl rfl ?_
 rintro _ B4 ⟨o4, c4, rfl, g4⟩
 refine vdm (mone rfl) (vbsP rfl rfl rfl rfl rfl rfl) rfl rfl (fun b7 => ?_)
 refine vdsd (mone rfl) (vappF (a := ⟨b7, 0, Option.none⟩) (m := 1) (c := 1) (size := 1) (bytes := 1) (F := fun X => (b7, blk [.bool x.ears] 4) :: (X ++ ((b6, blk [.bool x.eyes] 4) :: (D3 ++ ((b5, blk (clR x.src) 55) :: (D2 ++ ((b4, blk (clR x.ship) 55) :: (D1 ++ [])))))))) (B := B4) (xs := s.ears.flatMap encB) (news := encB x.ears) (fun X => perm_mid [(b7, blk [.bool x.ears] 4)] X ((b6, blk [.bool x.eyes] 4) :: (D3 ++ ((b5, blk (clR x.src) 55) :: (D2 ++ ((b4, blk (clR x.ship) 55) :: (D1 ++ []))))))) rfl rfl g4 rfl (news_blk (b := b7) (T := 4) (by simp)) (one1 (enc := encB) (fun _ => rfl) [x.ears] x.ears (by simp)) (by omega) (by simp only [maxLen]; omega) (by omega)) rfl rfl ?_
 rintro _ _ ⟨D4, hP4, _, rfl⟩
 obtain ⟨p4, q4, rfl, l4⟩ := hP4.shape
 refine vdgl (appHO_of _ _) (mone rfl) (vcg rfl rfl rfl (d_CloneS s.sg _ _ _ rfl (by omega) _) (fun o H' h => h)) rfl rfl ?_
 rintro _ B5 ⟨o5, c5, rfl, g5⟩
 refine vdq (mone rfl) (vbd rfl rfl) rfl rfl ?_
 refine vda rfl rfl (fun b8 => ?_)
 refine vds (mone rfl) (vstn rfl rfl rfl rfl rfl) rfl ?_
 refine vdend (appHO_of _ _) ?_
 refine vseq ?_
 refine vseq ?_
 refine vregion ?_
 refine vone rfl (vxq (vfa rfl) rfl rfl ?_)
 refine vone rfl (vxq (vld1 rfl rfl) rfl rfl ?_)
 refine vone rfl (vxq (vlen rfl) rfl rfl ?_)
 refine vone rfl (vxq (vmv rfl) rfl rfl ?_)
 refine vnil ?_
 refine vblock ?_
 refine VRun.perm (H' := ((b8, blk [.slice p1 (s.ship.length + 1) q1, .slice p2 (s.src.length + 1) q2, .slice p3 (s.eyes.length + 1) q3, .slice p4 (s.ears.length + 1) q4, .slice o5 (s.sg.length) c5] 33) :: (b3, blk [.slice Option.none 0 0, .slice Option.none 0 0, .slice Option.none 0 0, .slice Option.none 0 0, .slice Option.none 0 0] 33) :: (b2, blk (clLk x oa c) 95) :: (b1, blk (clSc h s) 106) :: (B5 ++ (D1 ++ (D2 ++ (D3 ++ (D4 ++ H)))))) ++ [(b7, blk [.bool x.ears] 4), (b6, blk [.bool x.eyes] 4), (b5, blk (clR x.src) 55), (b4, blk (clR x.ship) 55)]) (pmW B5 D4 D3 D2 D1 [(b8, blk [.slice p1 (s.ship.length + 1) q1, .slice p2 (s.src.length + 1) q2, .slice p3 (s.eyes.length + 1) q3, .slice p4 (s.ears.length + 1) q4, .slice o5 (s.sg.length) c5] 33)] [(b4, blk (clR x.ship) 55)] [(b5, blk (clR x.src) 55)] [(b6, blk [.bool x.eyes] 4)] [(b7, blk [.bool x.ears] 4)] [(b3, blk [.slice Option.none 0 0, .slice Option.none 0 0, .slice Option.none 0 0, .slice Option.none 0 0, .slice Option.none 0 0] 33), (b2, blk (clLk x oa c) 95), (b1, blk (clSc h s) 106)] H) ?_
 refine VRun.sub (List.sublist_append_left _ _) ?_
 refine vwhile (σ := Nat × Option Addr × Nat × Heap) (fun ⟨i, o6, c6, C⟩ => x.sg.length - i) (fun ⟨i, o6, c6, C⟩ => [(2, ptr b1), (3, ptr b2), (4, ptr b3), (5, ptr b8), (46, .slice oa x.sg.length c), (47, I x.sg.length), (48, I (i : Int))]) (fun ⟨i, o6, c6, C⟩ => (b8, blk [.slice p1 (s.ship.length + 1) q1, .slice p2 (s.src.length + 1) q2, .slice p3 (s.eyes.length + 1) q3, .slice p4 (s.ears.length + 1) q4, .slice o6 (s.sg.length + i) c6] 33) :: (b3, blk [.slice Option.none 0 0, .slice Option.none 0 0, .slice Option.none 0 0, .slice Option.none 0 0, .slice Option.none 0 0] 33) :: (b2, blk (clLk x oa c) 95) :: (b1, blk (clSc h s) 106) :: (C ++ (D1 ++ (D2 ++ (D3 ++ (D4 ++ H)))))) (fun ⟨i, o6, c6, C⟩ => i ≤ x.sg.length ∧ OwnS 49 5 (.slice o6 (s.sg.length + i) c6) (s.sg.length + i) ((s.sg ++ (x.sg.take i).map (atStep s.ship.length)).flatMap clSg) C) (0, o5, c5, B5) ⟨Nat.zero_le _, by simpa using g5⟩ ⟨rfl, rfl, rfl, rfl, rfl, rfl, rfl, True.intro⟩ sb ?_
 rintro ⟨i, o6, c6, C⟩ ⟨hin, hown⟩ IH
 change VRun _ _ _ _ _ [(2, ptr b1), (3, ptr b2), (4, ptr b3), (5, ptr b8), (46, .slice oa x.sg.length c), (47, I x.sg.length), (48, I (i : Int))] _ ((b8, blk [.slice p1 (s.ship.length + 1) q1, .slice p2 (s.src.length + 1) q2, .slice p3 (s.eyes.length + 1) q3, .slice p4 (s.ears.length + 1) q4, .slice o6 (s.sg.length + i) c6] 33) :: (b3, blk [.slice Option.none 0 0, .slice Option.none 0 0, .slice Option.none 0 0, .slice Option.none 0 0, .slice Option.none 0 0] 33) :: (b2, blk (clLk x oa c) 95) :: (b1, blk (clSc h s) 106) :: (C ++ (D1 ++ (D2 ++ (D3 ++ (D4 ++ H)))))) _
 refine vseq ?_
 refine vregion ?_
 refine vone rfl (vxq (vlss rfl rfl) rfl rfl ?_)
 refine vnil ?_
 refine vseq ?_
 refine vcondd rfl (fun h49 => ?_) (fun h49 => ?_)
 ·
  obtain ⟨z, hz⟩ := get_of_lt x.sg (i := i) (by omega)
  refine vskip ?_
  refine vseq ?_
  refine vblock ?_
  refine vseq ?_
  refine vregion ?_
  refine vone rfl (vxq (visg (enc := clSg) rfl rfl (by omega) hz) rfl rfl ?_)
  refine vone rfl (vxq (vldS (enc := clSg) rfl hz) rfl rfl ?_)
  refine vone rfl (vxa valloc rfl rfl (fun b9 => ?_))
  refine vone rfl (vxs (vstn rfl rfl rfl rfl rfl) rfl ?_)
  refine vnil ?_
  refine vseq ?_
  refine vregion ?_
  refine vone rfl (vxq (vldn rfl rfl) rfl rfl ?_)
  refine vone rfl (vxq (vcp rfl rfl rfl (c_steps h s)) rfl rfl ?_)
  refine vone rfl (vxq (vfa rfl) rfl rfl ?_)
  refine vone rfl (vxs (vst1 rfl rfl rfl rfl) rfl ?_)
  refine vnil ?_
  refine vregion ?_
  refine vone rfl (vxq (vfa rfl) rfl rfl ?_)
  refine vone rfl (vxq (vld1 rfl rfl) rfl rfl ?_)
  refine vone rfl (vxq (vldn rfl rfl) rfl rfl ?_)
  refine vone rfl (vxg (vbs rfl rfl rfl rfl rfl rfl) rfl rfl ?_)
  rintro _ _ ⟨b10, rfl, rfl⟩
  refine vone rfl (vxg (vappF (a := ⟨b10, 0, Option.none⟩) (m := 1) (c := 1) (size := 5) (bytes := 48) (F := fun X => (b10, blk (clSg (atStep s.ship.length z)) 49) :: (b9, blk (clSg (atStep s.ship.length z)) 49) :: (b8, blk [.slice p1 (s.ship.length + 1) q1, .slice p2 (s.src.length + 1) q2, .slice p3 (s.eyes.length + 1) q3, .slice p4 (s.ears.length + 1) q4, .slice o6 (s.sg.length + i) c6] 33) :: (b3, blk [.slice Option.none 0 0, .slice Option.none 0 0, .slice Option.none 0 0, .slice Option.none 0 0, .slice Option.none 0 0] 33) :: (b2, blk (clLk x oa c) 95) :: (b1, blk (clSc h s) 106) :: (X ++ (D1 ++ (D2 ++ (D3 ++ (D4 ++ H)))))) (B := C) (xs := (s.sg ++ (x.sg.take i).map (atStep s.ship.length)).flatMap clSg) (news := clSg (atStep s.ship.length z)) (fun X => perm_mid [(b10, blk (clSg (atStep s.ship.length z)) 49), (b9, blk (clSg (atStep s.ship.length z)) 49), (b8, blk [.slice p1 (s.ship.length + 1) q1, .slice p2 (s.src.length + 1) q2, .slice p3 (s.eyes.length + 1) q3, .slice p4 (s.ears.length + 1) q4, .slice o6 (s.sg.length + i) c6] 33), (b3, blk [.slice Option.none 0 0, .slice Option.none 0 0, .slice Option.none 0 0, .slice Option.none 0 0, .slice Option.none 0 0] 33), (b2, blk (clLk x oa c) 95), (b1, blk (clSc h s) 106)] X (D1 ++ (D2 ++ (D3 ++ (D4 ++ H))))) rfl rfl hown rfl (news_blk (b := b10) (List.Mem.head _)) (one1 (enc := clSg) (fun _ => rfl) [atStep s.ship.length z] (atStep s.ship.length z) (by simp)) (by omega) (by simp only [maxLen]; omega) (by omega)) rfl rfl ?_)
  rintro _ _ ⟨C2, hown2, _, rfl⟩
  obtain ⟨o7, c7, rfl, l7⟩ := hown2.shape
  refine vone rfl (vxq (vfa rfl) rfl rfl ?_)
  refine vone rfl (vxs (vst1 rfl rfl rfl rfl) rfl ?_)
  refine vnil ?_
  refine vinblock ?_
  refine vregion ?_
  refine vone rfl (vxq (vadd rfl rfl (by unfold InR; omega)) rfl rfl ?_)
  refine vone rfl (vxq (vmv rfl) rfl rfl ?_)
  refine vnil ?_
  exact vback (IH (i + 1, o7, c7, C2) ⟨by omega, by rw [take_succ_of hz, List.map_append, ← List.append_assoc, List.flatMap_append]; simpa [Nat.add_assoc] using hown2⟩ (by show _ - (i + 1) < _ - i; omega)) ⟨rfl, rfl, rfl, rfl, rfl, rfl, rfl, True.intro⟩ sb2
 ·
  refine vexit (k' := _) rfl ?_
  refine vseq ?_
  refine vregion ?_
  refine vone rfl (vxq (vldn rfl rfl) rfl rfl ?_)
  refine vone rfl (vxs (vstn rfl rfl rfl rfl rfl) rfl ?_)
  refine vnil ?_
  refine vret (vr1 (H' := C ++ (D1 ++ (D2 ++ (D3 ++ (D4 ++ H))))) Tryd.func87 rfl (.celln rfl rfl) sb2 ?_)
  (obtain rfl : i = x.sg.length := (by omega)); rw [List.take_length] at hown; exact ⟨_, rfl, C ++ (D1 ++ (D2 ++ (D3 ++ D4))), (by simp only [List.append_assoc]), ⟨p1, q1, p2, q2, p3, q3, p4, q4, o6, c6⟩, (by simp only [vSc, clSc, withP, List.length_append, List.length_singleton, List.length_map]), ScO.ofs (s := withP s x) (OwnS.slo (enc := clR) (l := s.ship ++ [x.ship]) hP1 clR_len (by decide) (by simp) (by simp)) (OwnS.slo (enc := clR) (l := s.src ++ [x.src]) hP2 clR_len (by decide) (by simp) (by simp)) (OwnS.slo (enc := encB) (l := s.eyes ++ [x.eyes]) hP3 encB_len (by decide) (by simp) (by simp)) (OwnS.slo (enc := encB) (l := s.ears ++ [x.ears]) hP4 encB_len (by decide) (by simp) (by simp)) (OwnS.slo (enc := clSg) (l := s.sg ++ x.sg.map (atStep s.ship.length)) hown clSg_len (by decide) rfl (by simp)) ⟨by simp only [withP, List.length_append, List.length_singleton]; exact l3, by simp only [withP, List.length_append, List.length_singleton]; exact l4⟩ (fun y hy => by rcases List.mem_append.1 hy with hy | hy; exact hsc.nm y hy; obtain ⟨u, hu, rfl⟩ := List.mem_map.1 hy; exact hxn u hu) (by simp only [withP, List.length_append, List.length_singleton, List.length_map]; omega) (fun e he => by simp [he]) (fun e he => by simp [he]) (fun e he => by simp [he]) (fun e he => by simp [he]) (fun e he => by simp [he])⟩
end Go.Proofs.YtaplkoimhecacaaDoor
namespace Go.Proofs.YtaplkoimhecacaaDoor
open Go
set_option maxRecDepth 100000

attribute [local irreducible] tightP hullP rootP farP rows endsOf
theorem stAt_mdb {g : Lg} {ms : List Int} {B : Int} (hB : 0 ≤ B) (h : ∀ m ∈ ms, 0 ≤ m ∧ m ≤ B) : ∀ n, 0 ≤ (stAt g ms n).md ∧ (stAt g ms n).md ≤ B
  | 0 => ⟨Int.le_refl 0, hB⟩
  | n + 1 => by
    rw [stAt_md]; unfold mdAt
    cases hm : ms[n]? with
    | none => exact ⟨Int.le_refl 0, hB⟩
    | some m => exact h m (List.mem_of_getElem? hm)
theorem stAt_ok {g : Lg} (hw : okW g.w) (ms : List Int) : ∀ n, okSt (stAt g ms n)
  | 0 => sta0_ok
  | n + 1 => after_okSt hw _ _ _
section
open Classical in
theorem pmD (N L S W X K M H : Heap) : (N ++ (L ++ (S ++ (W ++ (X ++ (K ++ (M ++ H))))))).Perm ((K ++ (M ++ (W ++ H))) ++ (N ++ (L ++ (S ++ X)))) := perm_of fun a => by simp only [List.count_append]; omega
end
section
variable {g : Lg} {t : Int} {x : Sta}
theorem pick_nF : pickM g t x false = 0 := rfl
theorem pick_f (h : brokenP g t x (g.w.soft + 1) = 0) : pickM g t x true = g.w.soft + 1 := by unfold pickM; rw [if_neg (by decide), if_pos h]
theorem pick_m (h : ¬ brokenP g t x (g.w.soft + 1) = 0) (h1 : x.md + 1 ≤ g.w.soft + 1) (h2 : brokenP g t x (x.md + 1) = 0) : pickM g t x true = x.md + 1 := by unfold pickM; rw [if_neg (by decide), if_neg h, if_pos ⟨h1, h2⟩]
theorem pick_1 (h : ¬ brokenP g t x (g.w.soft + 1) = 0) (h1 : ¬ (x.md + 1 ≤ g.w.soft + 1 ∧ brokenP g t x (x.md + 1) = 0)) (h2 : brokenP g t x 1 = 0) : pickM g t x true = 1 := by unfold pickM; rw [if_neg (by decide), if_neg h, if_neg h1, if_pos h2]
theorem pick_0 (h : ¬ brokenP g t x (g.w.soft + 1) = 0) (h1 : ¬ (x.md + 1 ≤ g.w.soft + 1 ∧ brokenP g t x (x.md + 1) = 0)) (h2 : ¬ brokenP g t x 1 = 0) : pickM g t x true = 0 := by unfold pickM; rw [if_neg (by decide), if_neg h, if_neg h1, if_neg h2]
end


section
open Classical in
theorem pmM (N L S W K X H : Heap) : (N ++ (L ++ (S ++ (W ++ (K ++ (X ++ H)))))).Perm (X ++ (N ++ (L ++ (S ++ (W ++ (K ++ H)))))) := perm_of fun a => by simp only [List.count_append]; omega
end

/-- (*paravane/watch.Keeper).Do -/
theorem d_Do (h : SH) (w : Wn) (k : Kp) (oa : Option Addr) (c b : Nat) (BM : Heap) (x : Lk) (oax : Option Addr) (cx : Nat) (H : Heap) [hgl : Glob H] [hsc : ScO H h k.s] [hsx : SlO H oax 5 clSg x.sg] (hw : okW w) (hK : KpI w k) (hown : OwnS 3 1 (.slice oa k.ms.length c) k.ms.length (k.ms.flatMap encI) BM) (hx : x.sg.length * 48 ≤ 140737488351232) (hxn : ∀ z ∈ x.sg, z.nm.size ≤ 9223372036854775807) : VCall Tryd.prog 44 [ptr b, .agg (clLk x oax cx).toArray].toArray ((b, blk (clKp h w k oa c) 155) :: (BM ++ H)) (fun o H' => ∃ h' oa' c' BM' BS, o = .val (tup [I (doE w k x).2.1, I (doE w k x).2.2]) ∧ H' = (b, blk (clKp h' w (doE w k x).1 oa' c') 155) :: (BM' ++ (BS ++ H)) ∧ OwnS 3 1 (.slice oa' (doE w k x).1.ms.length c') (doE w k x).1.ms.length ((doE w k x).1.ms.flatMap encI) BM' ∧ ∀ X, ScO X h k.s → ScO (BS ++ X) h' (doE w k x).1.s) := by
 have hKb := hK.bd
 have hKl := hK.len
 have hww := hw
 unfold okW at hww
 haveI hsm : SlO BM oa 1 encI k.ms := OwnS.slo (enc := encI) hown encI_len (by decide) rfl rfl
 refine vcall_of_vrun Tryd.func44 rfl (N := 109) rfl rfl ?_
 refine vseq ?_
 refine vregion ?_
 refine vone rfl (vxa (vbox rfl rfl) rfl rfl (fun b1 => ?_))
 refine vone rfl (vxq (vas rfl) rfl rfl ?_)
 refine vone rfl (vxq (vas rfl) rfl rfl ?_)
 refine vnil ?_
 refine vseq ?_
 refine vseq ?_
 refine vregion ?_
 refine vone rfl (vxq (vmv rfl) rfl rfl ?_)
 refine vone rfl (vxq (veqpN (e := 155) (by kernel_rfl) rfl rfl) rfl rfl ?_)
 refine vknow (d := 17) (b' := false) rfl rfl ?_
 refine vone rfl (vxq (vmv rfl) rfl rfl ?_)
 refine vyes rfl rfl rfl (vxq (vmv rfl) rfl rfl ?_)
 refine vyes rfl rfl rfl (vxq (vnc rfl) rfl rfl ?_)
 refine vyes rfl rfl rfl (vxq (vfa rfl) rfl rfl ?_)
 refine vyes rfl rfl rfl (vxq (vldn rfl rfl) rfl rfl ?_)
 refine vyes rfl rfl rfl (vxq (vbd rfl rfl) rfl rfl ?_)
 refine vyes rfl rfl rfl (vxq (veqs rfl rfl rfl rfl rfl rfl) rfl rfl ?_)
 refine vknow (d := 24) (b' := false) rfl (decide_eq_false (fun e => by simp at e; omega)) ?_
 refine vone rfl (vxq (vpkf rfl rfl) rfl rfl ?_)
 refine vnil ?_
 refine vcondf rfl ?_
 refine vskip ?_
 refine vseq ?_
 refine vregion ?_
 refine vone rfl (vxq (vmv rfl) rfl rfl ?_)
 refine vone rfl (vxq (vnc rfl) rfl rfl ?_)
 refine vone rfl (vxq (vfa rfl) rfl rfl ?_)
 refine vone rfl (vxq (vldn rfl rfl) rfl rfl ?_)
 refine vone rfl (vxq (vcp rfl rfl rfl (c_steps h k.s)) rfl rfl ?_)
 refine vone rfl (vxq (vas rfl) rfl rfl ?_)
 refine vnil ?_
 refine vseq ?_
 refine vseq ?_
 refine vregion ?_
 refine vone rfl (vxq (vmv rfl) rfl rfl ?_)
 refine vone rfl (vxq (veql rfl rfl) rfl rfl ?_)
 refine vnil ?_
 refine vcondd rfl (fun h32 => ?_) (fun h32 => ?_)
 ·
  refine vseq ?_
  refine vregion ?_
  refine vone rfl (vxq (vas rfl) rfl rfl ?_)
  refine vone rfl (vxq (vas rfl) rfl rfl ?_)
  refine vnil ?_
  refine vret (vr2 (H' := (b, blk (clKp h w k oa c) 155) :: (BM ++ ([] ++ H))) Tryd.func44 rfl (.tmp rfl) (.tmp rfl) sb2 ?_)
  first | (rw [do_3 (by omega)]; exact ⟨h, oa, c, BM, [], rfl, rfl, hown, fun X hX => (show ScO X h k.s from hX)⟩) | (rw [do_e (by omega) h49]; exact ⟨h, oa, c, BM, [], rfl, rfl, hown, fun X hX => (show ScO X h k.s from hX)⟩) | (rw [do_y (by omega) h49, h69, pick_nF]; exact ⟨h1, oa2, c2, BM2, BW, rfl, (by simp only [clKp, List.length_append, List.length_singleton]), (by simpa using hown2), fun X _ => inferInstance⟩) | (rw [do_y (by omega) h49, h69, pick_f h90]; exact ⟨h1, oa2, c2, BM2, BW, rfl, (by simp only [clKp, List.length_append, List.length_singleton]), (by simpa using hown2), fun X _ => inferInstance⟩) | (rw [do_y (by omega) h49, h69, pick_m hb0 h83 h90]; exact ⟨h1, oa2, c2, BM2, BW, rfl, (by simp only [clKp, List.length_append, List.length_singleton]), (by simpa using hown2), fun X _ => inferInstance⟩) | (rw [do_y (by omega) h49, h69, pick_1 hb0 hb1 h90]; exact ⟨h1, oa2, c2, BM2, BW, rfl, (by simp only [clKp, List.length_append, List.length_singleton]), (by simpa using hown2), fun X _ => inferInstance⟩) | (rw [do_y (by omega) h49, h69, pick_0 hb0 hb1 hb2]; exact ⟨h1, oa2, c2, BM2, BW, rfl, (by simp only [clKp, List.length_append, List.length_singleton]), (by simpa using hown2), fun X _ => inferInstance⟩)
 ·
  refine vskip ?_
  refine vseq ?_
  refine vdraw [(.q, 0), (.q, 1), (.q, 2), (.q, 3), (.q, 4), (.g, 5), (.a (blk [.slice Option.none 0 0, .slice Option.none 0 0, .slice Option.none 0 0, .slice Option.none 0 0, .slice Option.none 0 0] 33), 6), (.s, 7)] Tryd.mixed (by kernel_rfl) ⟨⟨_, _, _, _, _, rfl, _, inferInstance, rfl⟩, True.intro⟩ ?_
  refine vdq (mone rfl) (vmv rfl) rfl rfl ?_
  refine vdq (mone rfl) (vnc rfl) rfl rfl ?_
  refine vdq (mone rfl) (vfa rfl) rfl rfl ?_
  refine vdq (mone rfl) (vldn rfl rfl) rfl rfl ?_
  refine vdq (mone rfl) (vldn rfl rfl) rfl rfl ?_
  refine vdgl rfl (mone rfl) (vcg rfl rfl rfl (d_with h k.s x oax cx _ (by omega) hx hxn) (fun o H' h => h)) rfl rfl ?_
  rintro _ BW ⟨h1, rfl, hscW⟩
  refine vda rfl rfl (fun b2 => ?_)
  refine vds (mone rfl) (vstn rfl rfl rfl rfl rfl) rfl ?_
  refine vdend (appHO_of _ _) ?_
  refine vseq ?_
  refine VRun.perm (H' := (b2, blk (clSc h1 (withP k.s x)) 33) :: (BW ++ ((b1, blk (clLk x oax cx) 95) :: (b, blk (clKp h w k oa c) 155) :: (BM ++ H)))) (List.Perm.of_eq (by simp only [List.cons_append, List.append_assoc, List.append_nil, List.nil_append])) ?_
  refine vdraw [(.q, 0), (.q, 1), (.q, 2), (.q, 3), (.q, 4), (.g, 5), (.q, 6), (.q, 7), (.q, 8), (.a (blk [.slice Option.none 0 0, .slice Option.none 0 0, .slice Option.none 0 0, .slice Option.none 0 0, .slice Option.none 0 0, .int .i64 0, .int .i64 0, .int .i64 0, .int .i64 0, .int .i64 0, .int .i64 0, .int .i64 0, .slice Option.none 0 0] 108), 9), (.s, 10), (.q, 11)] Tryd.mixed (by kernel_rfl) ⟨⟨_, _, _, _, _, rfl, _, inferInstance, rfl⟩, True.intro⟩ ?_
  refine vdq (mone rfl) (vmv rfl) rfl rfl ?_
  refine vdq (mone rfl) (vnc rfl) rfl rfl ?_
  refine vdq (mone rfl) (vfa rfl) rfl rfl ?_
  refine vdq (mone rfl) (vldn rfl rfl) rfl rfl ?_
  refine vdq (mone rfl) (vldn rfl rfl) rfl rfl ?_
  refine vdgl rfl (mone rfl) (vcg rfl rfl rfl (d_logOf w h1 (withP k.s x) _) (fun o H' h => h)) rfl rfl ?_
  rintro _ BL ⟨oa1, c1, rfl, hle, hsl⟩
  refine vdq (mone rfl) (vmv rfl) rfl rfl ?_
  refine vdq (mone rfl) (vex rfl rfl) rfl rfl ?_
  refine vdq (mone rfl) (vex rfl rfl) rfl rfl ?_
  refine vda rfl rfl (fun b3 => ?_)
  refine vds (mone rfl) (vstn rfl rfl rfl rfl rfl) rfl ?_
  refine vdq (mone rfl) (vas rfl) rfl rfl ?_
  refine vdend (appHO_of _ _) ?_
  refine vseq ?_
  refine vseq ?_
  refine VRun.perm (H' := (b3, blk (clLg (⟨h1, oa1, c1⟩ : LH) (⟨w, withP k.s x, (dangerE w (withP k.s x)).1⟩ : Lg)) 108) :: (BL ++ ((b2, blk (clSc h1 (withP k.s x)) 33) :: (BW ++ ((b1, blk (clLk x oax cx) 95) :: (b, blk (clKp h w k oa c) 155) :: (BM ++ H)))))) (List.Perm.of_eq (by simp only [List.cons_append, List.append_assoc, List.append_nil, List.nil_append])) ?_
  refine vregion ?_
  refine vone rfl (vxq (vmv rfl) rfl rfl ?_)
  refine vone rfl (vxq (vneq rfl rfl) rfl rfl ?_)
  refine vnil ?_
  refine vcondd rfl (fun h49 => ?_) (fun h49 => ?_)
  ·
   refine vseq ?_
   refine vregion ?_
   refine vone rfl (vxq (vmv rfl) rfl rfl ?_)
   refine vone rfl (vxq (vas rfl) rfl rfl ?_)
   refine vone rfl (vxq (vas rfl) rfl rfl ?_)
   refine vnil ?_
   refine vret (vr2 (H' := (b, blk (clKp h w k oa c) 155) :: (BM ++ ([] ++ H))) Tryd.func44 rfl (.tmp rfl) (.tmp rfl) sb2 ?_)
   first | (rw [do_3 (by omega)]; exact ⟨h, oa, c, BM, [], rfl, rfl, hown, fun X hX => (show ScO X h k.s from hX)⟩) | (rw [do_e (by omega) h49]; exact ⟨h, oa, c, BM, [], rfl, rfl, hown, fun X hX => (show ScO X h k.s from hX)⟩) | (rw [do_y (by omega) h49, h69, pick_nF]; exact ⟨h1, oa2, c2, BM2, BW, rfl, (by simp only [clKp, List.length_append, List.length_singleton]), (by simpa using hown2), fun X _ => inferInstance⟩) | (rw [do_y (by omega) h49, h69, pick_f h90]; exact ⟨h1, oa2, c2, BM2, BW, rfl, (by simp only [clKp, List.length_append, List.length_singleton]), (by simpa using hown2), fun X _ => inferInstance⟩) | (rw [do_y (by omega) h49, h69, pick_m hb0 h83 h90]; exact ⟨h1, oa2, c2, BM2, BW, rfl, (by simp only [clKp, List.length_append, List.length_singleton]), (by simpa using hown2), fun X _ => inferInstance⟩) | (rw [do_y (by omega) h49, h69, pick_1 hb0 hb1 h90]; exact ⟨h1, oa2, c2, BM2, BW, rfl, (by simp only [clKp, List.length_append, List.length_singleton]), (by simpa using hown2), fun X _ => inferInstance⟩) | (rw [do_y (by omega) h49, h69, pick_0 hb0 hb1 hb2]; exact ⟨h1, oa2, c2, BM2, BW, rfl, (by simp only [clKp, List.length_append, List.length_singleton]), (by simpa using hown2), fun X _ => inferInstance⟩)
  ·
   obtain ⟨_, hs0, _, hdl⟩ := danger_0 (Classical.not_not.1 h49)
   haveI hlg : LgO (BL ++ ((b2, blk (clSc h1 (withP k.s x)) 33) :: (BW ++ ((b1, blk (clLk x oax cx) 95) :: (b, blk (clKp h w k oa c) 155) :: (BM ++ H))))) (⟨h1, oa1, c1⟩ : LH) (⟨w, withP k.s x, (dangerE w (withP k.s x)).1⟩ : Lg) := LgO.of (Classical.not_not.1 h49) hle hsl
   refine vskip ?_
   refine vseq ?_
   refine vregion ?_
   refine vone rfl (vxq (vglF rfl) rfl rfl ?_)
   refine vone rfl (vxa valloc rfl rfl (fun b4 => ?_))
   refine vone rfl (vxs (vstn rfl rfl rfl rfl rfl) rfl ?_)
   refine vnil ?_
   refine vseq ?_
   refine vseq ?_
   refine vregion ?_
   refine vone rfl (vxq (vmv rfl) rfl rfl ?_)
   refine vone rfl (vxq (vnc rfl) rfl rfl ?_)
   refine vone rfl (vxq (vfa rfl) rfl rfl ?_)
   refine vone rfl (vxq (vld1 rfl rfl) rfl rfl ?_)
   refine vone rfl (vxq (vlen rfl) rfl rfl ?_)
   refine vone rfl (vxq (vmv rfl) rfl rfl ?_)
   refine vnil ?_
   refine vblock ?_
   refine vwhile (σ := Nat) (fun i => k.ms.length - i) (fun i => [(0, ptr b), (3, ptr b1), (6, I k.s.ship.length), (7, ptr b2), (8, ptr b3), (10, ptr b4), (55, .slice oa k.ms.length c), (56, I k.ms.length), (57, I (i : Int))]) (fun i => (b4, blk (clSt (stAt (⟨w, withP k.s x, (dangerE w (withP k.s x)).1⟩ : Lg) k.ms i)) 112) :: (b3, blk (clLg (⟨h1, oa1, c1⟩ : LH) (⟨w, withP k.s x, (dangerE w (withP k.s x)).1⟩ : Lg)) 108) :: (BL ++ ((b2, blk (clSc h1 (withP k.s x)) 33) :: (BW ++ ((b1, blk (clLk x oax cx) 95) :: (b, blk (clKp h w k oa c) 155) :: (BM ++ H)))))) (fun i => i ≤ k.ms.length) 0 (Nat.zero_le _) ⟨rfl, rfl, rfl, rfl, rfl, rfl, rfl, rfl, rfl, True.intro⟩ sb2 ?_
   rintro i hin IH
   change VRun _ _ _ _ _ [(0, ptr b), (3, ptr b1), (6, I k.s.ship.length), (7, ptr b2), (8, ptr b3), (10, ptr b4), (55, .slice oa k.ms.length c), (56, I k.ms.length), (57, I (i : Int))] _ ((b4, blk (clSt (stAt (⟨w, withP k.s x, (dangerE w (withP k.s x)).1⟩ : Lg) k.ms i)) 112) :: (b3, blk (clLg (⟨h1, oa1, c1⟩ : LH) (⟨w, withP k.s x, (dangerE w (withP k.s x)).1⟩ : Lg)) 108) :: (BL ++ ((b2, blk (clSc h1 (withP k.s x)) 33) :: (BW ++ ((b1, blk (clLk x oax cx) 95) :: (b, blk (clKp h w k oa c) 155) :: (BM ++ H)))))) _
   refine vseq ?_
   refine vregion ?_
   refine vone rfl (vxq (vlss rfl rfl) rfl rfl ?_)
   refine vnil ?_
   refine vseq ?_
   refine vcondd rfl (fun h58 => ?_) (fun h58 => ?_)
   ·
    obtain ⟨m, hm⟩ := get_of_lt k.ms (i := i) (by omega)
    refine vskip ?_
    refine vseq ?_
    refine vblock ?_
    refine vseq ?_
    refine vregion ?_
    refine vone rfl (vxq (vmv rfl) rfl rfl ?_)
    refine vone rfl (vxq (visg (enc := encI) rfl rfl (by omega) hm) rfl rfl ?_)
    refine vone rfl (vxq (vldS1 (enc := encI) rfl hm rfl) rfl rfl ?_)
    refine vone rfl (vxq (vas rfl) rfl rfl ?_)
    refine vone rfl (vxq (vas rfl) rfl rfl ?_)
    refine vnil ?_
    refine vregion ?_
    refine vone rfl (vxq (vldn rfl rfl) rfl rfl ?_)
    refine vone rfl (vxq (vmv rfl) rfl rfl ?_)
    refine vone rfl (vxq (vldn rfl rfl) rfl rfl ?_)
    refine vone rfl (vxq (vmv rfl) rfl rfl ?_)
    refine vone rfl (vxq (vcq rfl rfl rfl (c_after (⟨h1, oa1, c1⟩ : LH) (⟨w, withP k.s x, (dangerE w (withP k.s x)).1⟩ : Lg) _ i (by simp only; rw [with_len]; omega) (stAt (⟨w, withP k.s x, (dangerE w (withP k.s x)).1⟩ : Lg) k.ms i) (stAt_ok hw _ _) m)) rfl rfl ?_)
    have hst : stAt (⟨w, withP k.s x, (dangerE w (withP k.s x)).1⟩ : Lg) k.ms (i + 1) = afterP (⟨w, withP k.s x, (dangerE w (withP k.s x)).1⟩ : Lg) i (stAt (⟨w, withP k.s x, (dangerE w (withP k.s x)).1⟩ : Lg) k.ms i) m := by show afterP _ _ _ (mdAt k.ms i) = _; rw [mdAt_of hm]
    refine vone rfl (vxs (vstn rfl rfl rfl rfl rfl) rfl ?_)
    refine vnil ?_
    refine vinblock ?_
    refine vregion ?_
    refine vone rfl (vxq (vadd rfl rfl (by unfold InR; omega)) rfl rfl ?_)
    refine vone rfl (vxq (vmv rfl) rfl rfl ?_)
    refine vnil ?_
    exact vback (IH (i + 1) (by omega) (by show _ - (i + 1) < _ - i; omega)) ⟨rfl, rfl, rfl, rfl, rfl, rfl, rfl, rfl, rfl, True.intro⟩ (by rw [hst]; repeat first | exact .refl _ | refine .cons_cons _ ?_ | refine .cons _ ?_ | exact sl0 _ | refine slM ?_ | refine slA ?_)
   ·
    refine vexit (k' := _) rfl ?_
    refine vseq ?_
    obtain rfl : i = k.ms.length := by omega
    have hmd := stAt_mdb (g := (⟨w, withP k.s x, (dangerE w (withP k.s x)).1⟩ : Lg)) (ms := k.ms) (B := w.soft + 1) (by omega) hK.rng k.ms.length
    refine vregion ?_
    refine vone rfl (vxq (vas rfl) rfl rfl ?_)
    refine vnil ?_
    refine vseq ?_
    refine vseq ?_
    refine vregion ?_
    refine vone rfl (vxq (vfa rfl) rfl rfl ?_)
    refine vone rfl (vxq (vld1 rfl rfl) rfl rfl ?_)
    refine vnil ?_
    refine vcond rfl (fun h69 => ?_) (fun h69 => ?_)
    ·
     refine vseq ?_
     refine vdraw0 [(.q, 0), (.q, 1), (.q, 2), (.q, 3), (.q, 4), (.q, 5), (.q, 6)] Tryd.mixed (by kernel_rfl) (by kernel_rfl) ?_
     refine vdq (mone rfl) (vldn rfl rfl) rfl rfl ?_
     refine vdq (mone rfl) (vcp rfl rfl rfl (c_full (⟨h1, oa1, c1⟩ : LH) (⟨w, withP k.s x, (dangerE w (withP k.s x)).1⟩ : Lg) hw)) rfl rfl ?_
     refine vdq (mone rfl) (vfa rfl) rfl rfl ?_
     refine vdq (mone rfl) (vld1 rfl rfl) rfl rfl ?_
     refine vdq (mone rfl) (vadd rfl rfl (by unfold InR; omega)) rfl rfl ?_
     refine vdq (mone rfl) (vbd rfl rfl) rfl rfl ?_
     refine vdq (mone rfl) (vmv rfl) rfl rfl ?_
     refine vdend rfl ?_
     refine vblock ?_
     refine vloop1 ?_
     refine vseq ?_
     refine vregion ?_
     refine vone rfl (vxq (vlss rfl rfl) rfl rfl ?_)
     refine vnil ?_
     refine vseq ?_
     refine vcondt rfl ?_
     refine vskip ?_
     refine vseq ?_
     refine vblock ?_
     refine vseq ?_
     refine vregion ?_
     refine vone rfl (vxq (vixa1 rfl rfl (by omega) rfl) rfl rfl ?_)
     refine vone rfl (vxq (vas rfl) rfl rfl ?_)
     refine vnil ?_
     refine vseq ?_
     refine vregion ?_
     refine vone rfl (vxq (vmv rfl) rfl rfl ?_)
     refine vone rfl (vxq (vldn rfl rfl) rfl rfl ?_)
     refine vone rfl (vxq (vcp rfl rfl rfl (c_full (⟨h1, oa1, c1⟩ : LH) (⟨w, withP k.s x, (dangerE w (withP k.s x)).1⟩ : Lg) hw)) rfl rfl ?_)
     refine vone rfl (vxq (vleq rfl rfl) rfl rfl ?_)
     refine vone rfl (vxq (vmv rfl) rfl rfl ?_)
     refine vknow (d := 83) (b' := true) rfl (decide_eq_true (Int.le_refl _)) ?_
     refine vyes rfl rfl rfl (vxq (vldn rfl rfl) rfl rfl ?_)
     refine vyes rfl rfl rfl (vxq (vmv rfl) rfl rfl ?_)
     refine vyes rfl rfl rfl (vxq (vldn rfl rfl) rfl rfl ?_)
     refine vyes rfl rfl rfl (vxq (vmv rfl) rfl rfl ?_)
     refine vyes rfl rfl rfl (vxq (vcq rfl rfl rfl (c_broken (⟨h1, oa1, c1⟩ : LH) (⟨w, withP k.s x, (dangerE w (withP k.s x)).1⟩ : Lg) _ k.s.ship.length (by simp only; rw [with_len]; omega) (stAt (⟨w, withP k.s x, (dangerE w (withP k.s x)).1⟩ : Lg) k.ms k.ms.length) _)) rfl rfl ?_)
     refine vyes rfl rfl rfl (vxq (veql rfl rfl) rfl rfl ?_)
     refine vone rfl (vxq (vpkt rfl rfl) rfl rfl ?_)
     refine vnil ?_
     refine vcondd rfl (fun h90 => ?_) (fun h90 => ?_)
     ·
      refine vseq ?_
      refine vregion ?_
      refine vone rfl (vxq (vmv rfl) rfl rfl ?_)
      refine vone rfl (vxq (vas rfl) rfl rfl ?_)
      refine vnil ?_
      refine vexit (k' := _) rfl ?_
      refine vseq ?_
      refine vregion ?_
      refine vone rfl (vxq (vmv rfl) rfl rfl ?_)
      refine vone rfl (vxq (vldn rfl rfl) rfl rfl ?_)
      refine vone rfl (vxq (vbd rfl rfl) rfl rfl ?_)
      refine vone rfl (vxq (vnc rfl) rfl rfl ?_)
      refine vone rfl (vxq (vfa rfl) rfl rfl ?_)
      refine vone rfl (vxs (vstn rfl rfl rfl rfl rfl) rfl ?_)
      refine vnil ?_
      refine vseq ?_
      refine vregion ?_
      refine vone rfl (vxq (vmv rfl) rfl rfl ?_)
      refine vone rfl (vxq (vmv rfl) rfl rfl ?_)
      refine vone rfl (vxq (vnc rfl) rfl rfl ?_)
      refine vone rfl (vxq (vfa rfl) rfl rfl ?_)
      refine vone rfl (vxq (vld1 rfl rfl) rfl rfl ?_)
      refine vone rfl (vxq (vmv rfl) rfl rfl ?_)
      refine vone rfl (vxg (vbs rfl rfl rfl rfl rfl rfl) rfl rfl ?_)
      rintro _ _ ⟨b5, rfl, rfl⟩
      refine vone rfl (vxg (vappF (a := ⟨b5, 0, Option.none⟩) (m := 1) (c := 1) (size := 1) (bytes := 8) (F := fun X => (b5, blk [I (w.soft + 1)] 3) :: (b4, blk (clSt (stAt (⟨w, withP k.s x, (dangerE w (withP k.s x)).1⟩ : Lg) k.ms k.ms.length)) 112) :: (b3, blk (clLg (⟨h1, oa1, c1⟩ : LH) (⟨w, withP k.s x, (dangerE w (withP k.s x)).1⟩ : Lg)) 108) :: (BL ++ ((b2, blk (clSc h1 (withP k.s x)) 33) :: (BW ++ ((b1, blk (clLk x oax cx) 95) :: (b, blk [.slice h1.a1 (withP k.s x).ship.length h1.c1, .slice h1.a2 (withP k.s x).src.length h1.c2, .slice h1.a3 (withP k.s x).eyes.length h1.c3, .slice h1.a4 (withP k.s x).ears.length h1.c4, .slice h1.a5 (withP k.s x).sg.length h1.c5, I w.zone, I w.speed, I w.hold, I w.pre, I w.delay, I w.soft, I w.pause, .slice oa k.ms.length c] 155) :: (X ++ H)))))) (H0 := [(b5, blk [I (w.soft + 1)] 3), (b4, blk (clSt (stAt (⟨w, withP k.s x, (dangerE w (withP k.s x)).1⟩ : Lg) k.ms k.ms.length)) 112), (b3, blk (clLg (⟨h1, oa1, c1⟩ : LH) (⟨w, withP k.s x, (dangerE w (withP k.s x)).1⟩ : Lg)) 108)] ++ (BL ++ ([(b2, blk (clSc h1 (withP k.s x)) 33)] ++ (BW ++ ([(b1, blk (clLk x oax cx) 95), (b, blk [.slice h1.a1 (withP k.s x).ship.length h1.c1, .slice h1.a2 (withP k.s x).src.length h1.c2, .slice h1.a3 (withP k.s x).eyes.length h1.c3, .slice h1.a4 (withP k.s x).ears.length h1.c4, .slice h1.a5 (withP k.s x).sg.length h1.c5, I w.zone, I w.speed, I w.hold, I w.pre, I w.delay, I w.soft, I w.pause, .slice oa k.ms.length c] 155)] ++ H))))) (B := BM) (xs := k.ms.flatMap encI) (news := [I (w.soft + 1)]) (fun X => pmM [(b5, blk [I (w.soft + 1)] 3), (b4, blk (clSt (stAt (⟨w, withP k.s x, (dangerE w (withP k.s x)).1⟩ : Lg) k.ms k.ms.length)) 112), (b3, blk (clLg (⟨h1, oa1, c1⟩ : LH) (⟨w, withP k.s x, (dangerE w (withP k.s x)).1⟩ : Lg)) 108)] BL [(b2, blk (clSc h1 (withP k.s x)) 33)] BW [(b1, blk (clLk x oax cx) 95), (b, blk [.slice h1.a1 (withP k.s x).ship.length h1.c1, .slice h1.a2 (withP k.s x).src.length h1.c2, .slice h1.a3 (withP k.s x).eyes.length h1.c3, .slice h1.a4 (withP k.s x).ears.length h1.c4, .slice h1.a5 (withP k.s x).sg.length h1.c5, I w.zone, I w.speed, I w.hold, I w.pre, I w.delay, I w.soft, I w.pause, .slice oa k.ms.length c] 155)] X H) rfl rfl hown rfl (news_blk (b := b5) (List.Mem.head _)) (fun u hu => by rw [List.mem_singleton.1 hu]; rfl) (by omega) (by simp only [maxLen]; omega) (by omega)) rfl rfl ?_)
      rintro _ _ ⟨BM2, hown2, _, rfl⟩
      obtain ⟨oa2, c2, rfl, hle2⟩ := hown2.shape
      refine vone rfl (vxq (vnc rfl) rfl rfl ?_)
      refine vone rfl (vxq (vfa rfl) rfl rfl ?_)
      refine vone rfl (vxs (vst1 rfl rfl rfl rfl) rfl ?_)
      refine vnil ?_
      refine vseq ?_
      refine VRun.perm (H' := ([(b, blk [.slice h1.a1 (withP k.s x).ship.length h1.c1, .slice h1.a2 (withP k.s x).src.length h1.c2, .slice h1.a3 (withP k.s x).eyes.length h1.c3, .slice h1.a4 (withP k.s x).ears.length h1.c4, .slice h1.a5 (withP k.s x).sg.length h1.c5, I w.zone, I w.speed, I w.hold, I w.pre, I w.delay, I w.soft, I w.pause, .slice oa2 (k.ms.length + 1) c2] 155)] ++ (BM2 ++ (BW ++ H))) ++ ([(b5, blk [I (w.soft + 1)] 3), (b4, blk (clSt (stAt (⟨w, withP k.s x, (dangerE w (withP k.s x)).1⟩ : Lg) k.ms k.ms.length)) 112), (b3, blk (clLg (⟨h1, oa1, c1⟩ : LH) (⟨w, withP k.s x, (dangerE w (withP k.s x)).1⟩ : Lg)) 108)] ++ (BL ++ ([(b2, blk (clSc h1 (withP k.s x)) 33)] ++ [(b1, blk (clLk x oax cx) 95)])))) (pmD [(b5, blk [I (w.soft + 1)] 3), (b4, blk (clSt (stAt (⟨w, withP k.s x, (dangerE w (withP k.s x)).1⟩ : Lg) k.ms k.ms.length)) 112), (b3, blk (clLg (⟨h1, oa1, c1⟩ : LH) (⟨w, withP k.s x, (dangerE w (withP k.s x)).1⟩ : Lg)) 108)] BL [(b2, blk (clSc h1 (withP k.s x)) 33)] BW [(b1, blk (clLk x oax cx) 95)] [(b, blk [.slice h1.a1 (withP k.s x).ship.length h1.c1, .slice h1.a2 (withP k.s x).src.length h1.c2, .slice h1.a3 (withP k.s x).eyes.length h1.c3, .slice h1.a4 (withP k.s x).ears.length h1.c4, .slice h1.a5 (withP k.s x).sg.length h1.c5, I w.zone, I w.speed, I w.hold, I w.pre, I w.delay, I w.soft, I w.pause, .slice oa2 (k.ms.length + 1) c2] 155)] BM2 H) ?_
      refine VRun.sub (List.sublist_append_left _ _) ?_
      refine vregion ?_
      refine vone rfl (vxq (vmv rfl) rfl rfl ?_)
      refine vone rfl (vxq (vas rfl) rfl rfl ?_)
      refine vone rfl (vxq (vas rfl) rfl rfl ?_)
      refine vnil ?_
      refine vret (vr2 (H' := (b, _) :: (BM2 ++ (BW ++ H))) Tryd.func44 rfl (.tmp rfl) (.tmp rfl) sb2 ?_)
      first | (rw [do_3 (by omega)]; exact ⟨h, oa, c, BM, [], rfl, rfl, hown, fun X hX => (show ScO X h k.s from hX)⟩) | (rw [do_e (by omega) h49]; exact ⟨h, oa, c, BM, [], rfl, rfl, hown, fun X hX => (show ScO X h k.s from hX)⟩) | (rw [do_y (by omega) h49, h69, pick_nF]; exact ⟨h1, oa2, c2, BM2, BW, rfl, (by simp only [clKp, List.length_append, List.length_singleton]), (by simpa using hown2), fun X _ => inferInstance⟩) | (rw [do_y (by omega) h49, h69, pick_f h90]; exact ⟨h1, oa2, c2, BM2, BW, rfl, (by simp only [clKp, List.length_append, List.length_singleton]), (by simpa using hown2), fun X _ => inferInstance⟩) | (rw [do_y (by omega) h49, h69, pick_m hb0 h83 h90]; exact ⟨h1, oa2, c2, BM2, BW, rfl, (by simp only [clKp, List.length_append, List.length_singleton]), (by simpa using hown2), fun X _ => inferInstance⟩) | (rw [do_y (by omega) h49, h69, pick_1 hb0 hb1 h90]; exact ⟨h1, oa2, c2, BM2, BW, rfl, (by simp only [clKp, List.length_append, List.length_singleton]), (by simpa using hown2), fun X _ => inferInstance⟩) | (rw [do_y (by omega) h49, h69, pick_0 hb0 hb1 hb2]; exact ⟨h1, oa2, c2, BM2, BW, rfl, (by simp only [clKp, List.length_append, List.length_singleton]), (by simpa using hown2), fun X _ => inferInstance⟩)
     ·
      refine vskip ?_
      refine vinblock ?_
      refine vregion ?_
      refine vone rfl (vxq (vadd rfl rfl (by unfold InR; omega)) rfl rfl ?_)
      refine vone rfl (vxq (vmv rfl) rfl rfl ?_)
      refine vnil ?_
      have hb0 := h90
      refine vinloop1 ?_
      refine vseq ?_
      refine vregion ?_
      refine vone rfl (vxq (vlss rfl rfl) rfl rfl ?_)
      refine vnil ?_
      refine vseq ?_
      refine vcondt rfl ?_
      refine vskip ?_
      refine vseq ?_
      refine vblock ?_
      refine vseq ?_
      refine vregion ?_
      refine vone rfl (vxq (vixa1 rfl rfl (by omega) rfl) rfl rfl ?_)
      refine vone rfl (vxq (vas rfl) rfl rfl ?_)
      refine vnil ?_
      refine vseq ?_
      refine vregion ?_
      refine vone rfl (vxq (vmv rfl) rfl rfl ?_)
      refine vone rfl (vxq (vldn rfl rfl) rfl rfl ?_)
      refine vone rfl (vxq (vcp rfl rfl rfl (c_full (⟨h1, oa1, c1⟩ : LH) (⟨w, withP k.s x, (dangerE w (withP k.s x)).1⟩ : Lg) hw)) rfl rfl ?_)
      refine vone rfl (vxq (vleq rfl rfl) rfl rfl ?_)
      refine vone rfl (vxq (vmv rfl) rfl rfl ?_)
      refine vsplitd (d := 83) rfl (fun h83 => ?_) (fun h83 => ?_)
      ·
       refine vyes rfl rfl rfl (vxq (vldn rfl rfl) rfl rfl ?_)
       refine vyes rfl rfl rfl (vxq (vmv rfl) rfl rfl ?_)
       refine vyes rfl rfl rfl (vxq (vldn rfl rfl) rfl rfl ?_)
       refine vyes rfl rfl rfl (vxq (vmv rfl) rfl rfl ?_)
       refine vyes rfl rfl rfl (vxq (vcq rfl rfl rfl (c_broken (⟨h1, oa1, c1⟩ : LH) (⟨w, withP k.s x, (dangerE w (withP k.s x)).1⟩ : Lg) _ k.s.ship.length (by simp only; rw [with_len]; omega) (stAt (⟨w, withP k.s x, (dangerE w (withP k.s x)).1⟩ : Lg) k.ms k.ms.length) _)) rfl rfl ?_)
       refine vyes rfl rfl rfl (vxq (veql rfl rfl) rfl rfl ?_)
       refine vone rfl (vxq (vpkt rfl rfl) rfl rfl ?_)
       refine vnil ?_
       refine vcondd rfl (fun h90 => ?_) (fun h90 => ?_)
       ·
        refine vseq ?_
        refine vregion ?_
        refine vone rfl (vxq (vmv rfl) rfl rfl ?_)
        refine vone rfl (vxq (vas rfl) rfl rfl ?_)
        refine vnil ?_
        refine vexit (k' := _) rfl ?_
        refine vseq ?_
        refine vregion ?_
        refine vone rfl (vxq (vmv rfl) rfl rfl ?_)
        refine vone rfl (vxq (vldn rfl rfl) rfl rfl ?_)
        refine vone rfl (vxq (vbd rfl rfl) rfl rfl ?_)
        refine vone rfl (vxq (vnc rfl) rfl rfl ?_)
        refine vone rfl (vxq (vfa rfl) rfl rfl ?_)
        refine vone rfl (vxs (vstn rfl rfl rfl rfl rfl) rfl ?_)
        refine vnil ?_
        refine vseq ?_
        refine vregion ?_
        refine vone rfl (vxq (vmv rfl) rfl rfl ?_)
        refine vone rfl (vxq (vmv rfl) rfl rfl ?_)
        refine vone rfl (vxq (vnc rfl) rfl rfl ?_)
        refine vone rfl (vxq (vfa rfl) rfl rfl ?_)
        refine vone rfl (vxq (vld1 rfl rfl) rfl rfl ?_)
        refine vone rfl (vxq (vmv rfl) rfl rfl ?_)
        refine vone rfl (vxg (vbs rfl rfl rfl rfl rfl rfl) rfl rfl ?_)
        rintro _ _ ⟨b5, rfl, rfl⟩
        refine vone rfl (vxg (vappF (a := ⟨b5, 0, Option.none⟩) (m := 1) (c := 1) (size := 1) (bytes := 8) (F := fun X => (b5, blk [I ((stAt (⟨w, withP k.s x, (dangerE w (withP k.s x)).1⟩ : Lg) k.ms k.ms.length).md + 1)] 3) :: (b4, blk (clSt (stAt (⟨w, withP k.s x, (dangerE w (withP k.s x)).1⟩ : Lg) k.ms k.ms.length)) 112) :: (b3, blk (clLg (⟨h1, oa1, c1⟩ : LH) (⟨w, withP k.s x, (dangerE w (withP k.s x)).1⟩ : Lg)) 108) :: (BL ++ ((b2, blk (clSc h1 (withP k.s x)) 33) :: (BW ++ ((b1, blk (clLk x oax cx) 95) :: (b, blk [.slice h1.a1 (withP k.s x).ship.length h1.c1, .slice h1.a2 (withP k.s x).src.length h1.c2, .slice h1.a3 (withP k.s x).eyes.length h1.c3, .slice h1.a4 (withP k.s x).ears.length h1.c4, .slice h1.a5 (withP k.s x).sg.length h1.c5, I w.zone, I w.speed, I w.hold, I w.pre, I w.delay, I w.soft, I w.pause, .slice oa k.ms.length c] 155) :: (X ++ H)))))) (H0 := [(b5, blk [I ((stAt (⟨w, withP k.s x, (dangerE w (withP k.s x)).1⟩ : Lg) k.ms k.ms.length).md + 1)] 3), (b4, blk (clSt (stAt (⟨w, withP k.s x, (dangerE w (withP k.s x)).1⟩ : Lg) k.ms k.ms.length)) 112), (b3, blk (clLg (⟨h1, oa1, c1⟩ : LH) (⟨w, withP k.s x, (dangerE w (withP k.s x)).1⟩ : Lg)) 108)] ++ (BL ++ ([(b2, blk (clSc h1 (withP k.s x)) 33)] ++ (BW ++ ([(b1, blk (clLk x oax cx) 95), (b, blk [.slice h1.a1 (withP k.s x).ship.length h1.c1, .slice h1.a2 (withP k.s x).src.length h1.c2, .slice h1.a3 (withP k.s x).eyes.length h1.c3, .slice h1.a4 (withP k.s x).ears.length h1.c4, .slice h1.a5 (withP k.s x).sg.length h1.c5, I w.zone, I w.speed, I w.hold, I w.pre, I w.delay, I w.soft, I w.pause, .slice oa k.ms.length c] 155)] ++ H))))) (B := BM) (xs := k.ms.flatMap encI) (news := [I ((stAt (⟨w, withP k.s x, (dangerE w (withP k.s x)).1⟩ : Lg) k.ms k.ms.length).md + 1)]) (fun X => pmM [(b5, blk [I ((stAt (⟨w, withP k.s x, (dangerE w (withP k.s x)).1⟩ : Lg) k.ms k.ms.length).md + 1)] 3), (b4, blk (clSt (stAt (⟨w, withP k.s x, (dangerE w (withP k.s x)).1⟩ : Lg) k.ms k.ms.length)) 112), (b3, blk (clLg (⟨h1, oa1, c1⟩ : LH) (⟨w, withP k.s x, (dangerE w (withP k.s x)).1⟩ : Lg)) 108)] BL [(b2, blk (clSc h1 (withP k.s x)) 33)] BW [(b1, blk (clLk x oax cx) 95), (b, blk [.slice h1.a1 (withP k.s x).ship.length h1.c1, .slice h1.a2 (withP k.s x).src.length h1.c2, .slice h1.a3 (withP k.s x).eyes.length h1.c3, .slice h1.a4 (withP k.s x).ears.length h1.c4, .slice h1.a5 (withP k.s x).sg.length h1.c5, I w.zone, I w.speed, I w.hold, I w.pre, I w.delay, I w.soft, I w.pause, .slice oa k.ms.length c] 155)] X H) rfl rfl hown rfl (news_blk (b := b5) (List.Mem.head _)) (fun u hu => by rw [List.mem_singleton.1 hu]; rfl) (by omega) (by simp only [maxLen]; omega) (by omega)) rfl rfl ?_)
        rintro _ _ ⟨BM2, hown2, _, rfl⟩
        obtain ⟨oa2, c2, rfl, hle2⟩ := hown2.shape
        refine vone rfl (vxq (vnc rfl) rfl rfl ?_)
        refine vone rfl (vxq (vfa rfl) rfl rfl ?_)
        refine vone rfl (vxs (vst1 rfl rfl rfl rfl) rfl ?_)
        refine vnil ?_
        refine vseq ?_
        refine VRun.perm (H' := ([(b, blk [.slice h1.a1 (withP k.s x).ship.length h1.c1, .slice h1.a2 (withP k.s x).src.length h1.c2, .slice h1.a3 (withP k.s x).eyes.length h1.c3, .slice h1.a4 (withP k.s x).ears.length h1.c4, .slice h1.a5 (withP k.s x).sg.length h1.c5, I w.zone, I w.speed, I w.hold, I w.pre, I w.delay, I w.soft, I w.pause, .slice oa2 (k.ms.length + 1) c2] 155)] ++ (BM2 ++ (BW ++ H))) ++ ([(b5, blk [I ((stAt (⟨w, withP k.s x, (dangerE w (withP k.s x)).1⟩ : Lg) k.ms k.ms.length).md + 1)] 3), (b4, blk (clSt (stAt (⟨w, withP k.s x, (dangerE w (withP k.s x)).1⟩ : Lg) k.ms k.ms.length)) 112), (b3, blk (clLg (⟨h1, oa1, c1⟩ : LH) (⟨w, withP k.s x, (dangerE w (withP k.s x)).1⟩ : Lg)) 108)] ++ (BL ++ ([(b2, blk (clSc h1 (withP k.s x)) 33)] ++ [(b1, blk (clLk x oax cx) 95)])))) (pmD [(b5, blk [I ((stAt (⟨w, withP k.s x, (dangerE w (withP k.s x)).1⟩ : Lg) k.ms k.ms.length).md + 1)] 3), (b4, blk (clSt (stAt (⟨w, withP k.s x, (dangerE w (withP k.s x)).1⟩ : Lg) k.ms k.ms.length)) 112), (b3, blk (clLg (⟨h1, oa1, c1⟩ : LH) (⟨w, withP k.s x, (dangerE w (withP k.s x)).1⟩ : Lg)) 108)] BL [(b2, blk (clSc h1 (withP k.s x)) 33)] BW [(b1, blk (clLk x oax cx) 95)] [(b, blk [.slice h1.a1 (withP k.s x).ship.length h1.c1, .slice h1.a2 (withP k.s x).src.length h1.c2, .slice h1.a3 (withP k.s x).eyes.length h1.c3, .slice h1.a4 (withP k.s x).ears.length h1.c4, .slice h1.a5 (withP k.s x).sg.length h1.c5, I w.zone, I w.speed, I w.hold, I w.pre, I w.delay, I w.soft, I w.pause, .slice oa2 (k.ms.length + 1) c2] 155)] BM2 H) ?_
        refine VRun.sub (List.sublist_append_left _ _) ?_
        refine vregion ?_
        refine vone rfl (vxq (vmv rfl) rfl rfl ?_)
        refine vone rfl (vxq (vas rfl) rfl rfl ?_)
        refine vone rfl (vxq (vas rfl) rfl rfl ?_)
        refine vnil ?_
        refine vret (vr2 (H' := (b, _) :: (BM2 ++ (BW ++ H))) Tryd.func44 rfl (.tmp rfl) (.tmp rfl) sb2 ?_)
        first | (rw [do_3 (by omega)]; exact ⟨h, oa, c, BM, [], rfl, rfl, hown, fun X hX => (show ScO X h k.s from hX)⟩) | (rw [do_e (by omega) h49]; exact ⟨h, oa, c, BM, [], rfl, rfl, hown, fun X hX => (show ScO X h k.s from hX)⟩) | (rw [do_y (by omega) h49, h69, pick_nF]; exact ⟨h1, oa2, c2, BM2, BW, rfl, (by simp only [clKp, List.length_append, List.length_singleton]), (by simpa using hown2), fun X _ => inferInstance⟩) | (rw [do_y (by omega) h49, h69, pick_f h90]; exact ⟨h1, oa2, c2, BM2, BW, rfl, (by simp only [clKp, List.length_append, List.length_singleton]), (by simpa using hown2), fun X _ => inferInstance⟩) | (rw [do_y (by omega) h49, h69, pick_m hb0 h83 h90]; exact ⟨h1, oa2, c2, BM2, BW, rfl, (by simp only [clKp, List.length_append, List.length_singleton]), (by simpa using hown2), fun X _ => inferInstance⟩) | (rw [do_y (by omega) h49, h69, pick_1 hb0 hb1 h90]; exact ⟨h1, oa2, c2, BM2, BW, rfl, (by simp only [clKp, List.length_append, List.length_singleton]), (by simpa using hown2), fun X _ => inferInstance⟩) | (rw [do_y (by omega) h49, h69, pick_0 hb0 hb1 hb2]; exact ⟨h1, oa2, c2, BM2, BW, rfl, (by simp only [clKp, List.length_append, List.length_singleton]), (by simpa using hown2), fun X _ => inferInstance⟩)
       ·
        refine vskip ?_
        refine vinblock ?_
        refine vregion ?_
        refine vone rfl (vxq (vadd rfl rfl (by unfold InR; omega)) rfl rfl ?_)
        refine vone rfl (vxq (vmv rfl) rfl rfl ?_)
        refine vnil ?_
        have hb1 : ¬ ((stAt (⟨w, withP k.s x, (dangerE w (withP k.s x)).1⟩ : Lg) k.ms k.ms.length).md + 1 ≤ w.soft + 1 ∧ brokenP (⟨w, withP k.s x, (dangerE w (withP k.s x)).1⟩ : Lg) k.s.ship.length (stAt (⟨w, withP k.s x, (dangerE w (withP k.s x)).1⟩ : Lg) k.ms k.ms.length) ((stAt (⟨w, withP k.s x, (dangerE w (withP k.s x)).1⟩ : Lg) k.ms k.ms.length).md + 1) = 0) := by first | exact fun e => h83 e.1 | exact fun e => h90 e.2
        refine vinloop1 ?_
        refine vseq ?_
        refine vregion ?_
        refine vone rfl (vxq (vlss rfl rfl) rfl rfl ?_)
        refine vnil ?_
        refine vseq ?_
        refine vcondt rfl ?_
        refine vskip ?_
        refine vseq ?_
        refine vblock ?_
        refine vseq ?_
        refine vregion ?_
        refine vone rfl (vxq (vixa1 rfl rfl (by omega) rfl) rfl rfl ?_)
        refine vone rfl (vxq (vas rfl) rfl rfl ?_)
        refine vnil ?_
        refine vseq ?_
        refine vregion ?_
        refine vone rfl (vxq (vmv rfl) rfl rfl ?_)
        refine vone rfl (vxq (vldn rfl rfl) rfl rfl ?_)
        refine vone rfl (vxq (vcp rfl rfl rfl (c_full (⟨h1, oa1, c1⟩ : LH) (⟨w, withP k.s x, (dangerE w (withP k.s x)).1⟩ : Lg) hw)) rfl rfl ?_)
        refine vone rfl (vxq (vleq rfl rfl) rfl rfl ?_)
        refine vone rfl (vxq (vmv rfl) rfl rfl ?_)
        refine vknow (d := 83) (b' := true) rfl (decide_eq_true (by (try simp only); omega)) ?_
        refine vyes rfl rfl rfl (vxq (vldn rfl rfl) rfl rfl ?_)
        refine vyes rfl rfl rfl (vxq (vmv rfl) rfl rfl ?_)
        refine vyes rfl rfl rfl (vxq (vldn rfl rfl) rfl rfl ?_)
        refine vyes rfl rfl rfl (vxq (vmv rfl) rfl rfl ?_)
        refine vyes rfl rfl rfl (vxq (vcq rfl rfl rfl (c_broken (⟨h1, oa1, c1⟩ : LH) (⟨w, withP k.s x, (dangerE w (withP k.s x)).1⟩ : Lg) _ k.s.ship.length (by simp only; rw [with_len]; omega) (stAt (⟨w, withP k.s x, (dangerE w (withP k.s x)).1⟩ : Lg) k.ms k.ms.length) _)) rfl rfl ?_)
        refine vyes rfl rfl rfl (vxq (veql rfl rfl) rfl rfl ?_)
        refine vone rfl (vxq (vpkt rfl rfl) rfl rfl ?_)
        refine vnil ?_
        refine vcondd rfl (fun h90 => ?_) (fun h90 => ?_)
        ·
         refine vseq ?_
         refine vregion ?_
         refine vone rfl (vxq (vmv rfl) rfl rfl ?_)
         refine vone rfl (vxq (vas rfl) rfl rfl ?_)
         refine vnil ?_
         refine vexit (k' := _) rfl ?_
         refine vseq ?_
         refine vregion ?_
         refine vone rfl (vxq (vmv rfl) rfl rfl ?_)
         refine vone rfl (vxq (vldn rfl rfl) rfl rfl ?_)
         refine vone rfl (vxq (vbd rfl rfl) rfl rfl ?_)
         refine vone rfl (vxq (vnc rfl) rfl rfl ?_)
         refine vone rfl (vxq (vfa rfl) rfl rfl ?_)
         refine vone rfl (vxs (vstn rfl rfl rfl rfl rfl) rfl ?_)
         refine vnil ?_
         refine vseq ?_
         refine vregion ?_
         refine vone rfl (vxq (vmv rfl) rfl rfl ?_)
         refine vone rfl (vxq (vmv rfl) rfl rfl ?_)
         refine vone rfl (vxq (vnc rfl) rfl rfl ?_)
         refine vone rfl (vxq (vfa rfl) rfl rfl ?_)
         refine vone rfl (vxq (vld1 rfl rfl) rfl rfl ?_)
         refine vone rfl (vxq (vmv rfl) rfl rfl ?_)
         refine vone rfl (vxg (vbs rfl rfl rfl rfl rfl rfl) rfl rfl ?_)
         rintro _ _ ⟨b5, rfl, rfl⟩
         refine vone rfl (vxg (vappF (a := ⟨b5, 0, Option.none⟩) (m := 1) (c := 1) (size := 1) (bytes := 8) (F := fun X => (b5, blk [I 1] 3) :: (b4, blk (clSt (stAt (⟨w, withP k.s x, (dangerE w (withP k.s x)).1⟩ : Lg) k.ms k.ms.length)) 112) :: (b3, blk (clLg (⟨h1, oa1, c1⟩ : LH) (⟨w, withP k.s x, (dangerE w (withP k.s x)).1⟩ : Lg)) 108) :: (BL ++ ((b2, blk (clSc h1 (withP k.s x)) 33) :: (BW ++ ((b1, blk (clLk x oax cx) 95) :: (b, blk [.slice h1.a1 (withP k.s x).ship.length h1.c1, .slice h1.a2 (withP k.s x).src.length h1.c2, .slice h1.a3 (withP k.s x).eyes.length h1.c3, .slice h1.a4 (withP k.s x).ears.length h1.c4, .slice h1.a5 (withP k.s x).sg.length h1.c5, I w.zone, I w.speed, I w.hold, I w.pre, I w.delay, I w.soft, I w.pause, .slice oa k.ms.length c] 155) :: (X ++ H)))))) (H0 := [(b5, blk [I 1] 3), (b4, blk (clSt (stAt (⟨w, withP k.s x, (dangerE w (withP k.s x)).1⟩ : Lg) k.ms k.ms.length)) 112), (b3, blk (clLg (⟨h1, oa1, c1⟩ : LH) (⟨w, withP k.s x, (dangerE w (withP k.s x)).1⟩ : Lg)) 108)] ++ (BL ++ ([(b2, blk (clSc h1 (withP k.s x)) 33)] ++ (BW ++ ([(b1, blk (clLk x oax cx) 95), (b, blk [.slice h1.a1 (withP k.s x).ship.length h1.c1, .slice h1.a2 (withP k.s x).src.length h1.c2, .slice h1.a3 (withP k.s x).eyes.length h1.c3, .slice h1.a4 (withP k.s x).ears.length h1.c4, .slice h1.a5 (withP k.s x).sg.length h1.c5, I w.zone, I w.speed, I w.hold, I w.pre, I w.delay, I w.soft, I w.pause, .slice oa k.ms.length c] 155)] ++ H))))) (B := BM) (xs := k.ms.flatMap encI) (news := [I 1]) (fun X => pmM [(b5, blk [I 1] 3), (b4, blk (clSt (stAt (⟨w, withP k.s x, (dangerE w (withP k.s x)).1⟩ : Lg) k.ms k.ms.length)) 112), (b3, blk (clLg (⟨h1, oa1, c1⟩ : LH) (⟨w, withP k.s x, (dangerE w (withP k.s x)).1⟩ : Lg)) 108)] BL [(b2, blk (clSc h1 (withP k.s x)) 33)] BW [(b1, blk (clLk x oax cx) 95), (b, blk [.slice h1.a1 (withP k.s x).ship.length h1.c1, .slice h1.a2 (withP k.s x).src.length h1.c2, .slice h1.a3 (withP k.s x).eyes.length h1.c3, .slice h1.a4 (withP k.s x).ears.length h1.c4, .slice h1.a5 (withP k.s x).sg.length h1.c5, I w.zone, I w.speed, I w.hold, I w.pre, I w.delay, I w.soft, I w.pause, .slice oa k.ms.length c] 155)] X H) rfl rfl hown rfl (news_blk (b := b5) (List.Mem.head _)) (fun u hu => by rw [List.mem_singleton.1 hu]; rfl) (by omega) (by simp only [maxLen]; omega) (by omega)) rfl rfl ?_)
         rintro _ _ ⟨BM2, hown2, _, rfl⟩
         obtain ⟨oa2, c2, rfl, hle2⟩ := hown2.shape
         refine vone rfl (vxq (vnc rfl) rfl rfl ?_)
         refine vone rfl (vxq (vfa rfl) rfl rfl ?_)
         refine vone rfl (vxs (vst1 rfl rfl rfl rfl) rfl ?_)
         refine vnil ?_
         refine vseq ?_
         refine VRun.perm (H' := ([(b, blk [.slice h1.a1 (withP k.s x).ship.length h1.c1, .slice h1.a2 (withP k.s x).src.length h1.c2, .slice h1.a3 (withP k.s x).eyes.length h1.c3, .slice h1.a4 (withP k.s x).ears.length h1.c4, .slice h1.a5 (withP k.s x).sg.length h1.c5, I w.zone, I w.speed, I w.hold, I w.pre, I w.delay, I w.soft, I w.pause, .slice oa2 (k.ms.length + 1) c2] 155)] ++ (BM2 ++ (BW ++ H))) ++ ([(b5, blk [I 1] 3), (b4, blk (clSt (stAt (⟨w, withP k.s x, (dangerE w (withP k.s x)).1⟩ : Lg) k.ms k.ms.length)) 112), (b3, blk (clLg (⟨h1, oa1, c1⟩ : LH) (⟨w, withP k.s x, (dangerE w (withP k.s x)).1⟩ : Lg)) 108)] ++ (BL ++ ([(b2, blk (clSc h1 (withP k.s x)) 33)] ++ [(b1, blk (clLk x oax cx) 95)])))) (pmD [(b5, blk [I 1] 3), (b4, blk (clSt (stAt (⟨w, withP k.s x, (dangerE w (withP k.s x)).1⟩ : Lg) k.ms k.ms.length)) 112), (b3, blk (clLg (⟨h1, oa1, c1⟩ : LH) (⟨w, withP k.s x, (dangerE w (withP k.s x)).1⟩ : Lg)) 108)] BL [(b2, blk (clSc h1 (withP k.s x)) 33)] BW [(b1, blk (clLk x oax cx) 95)] [(b, blk [.slice h1.a1 (withP k.s x).ship.length h1.c1, .slice h1.a2 (withP k.s x).src.length h1.c2, .slice h1.a3 (withP k.s x).eyes.length h1.c3, .slice h1.a4 (withP k.s x).ears.length h1.c4, .slice h1.a5 (withP k.s x).sg.length h1.c5, I w.zone, I w.speed, I w.hold, I w.pre, I w.delay, I w.soft, I w.pause, .slice oa2 (k.ms.length + 1) c2] 155)] BM2 H) ?_
         refine VRun.sub (List.sublist_append_left _ _) ?_
         refine vregion ?_
         refine vone rfl (vxq (vmv rfl) rfl rfl ?_)
         refine vone rfl (vxq (vas rfl) rfl rfl ?_)
         refine vone rfl (vxq (vas rfl) rfl rfl ?_)
         refine vnil ?_
         refine vret (vr2 (H' := (b, _) :: (BM2 ++ (BW ++ H))) Tryd.func44 rfl (.tmp rfl) (.tmp rfl) sb2 ?_)
         first | (rw [do_3 (by omega)]; exact ⟨h, oa, c, BM, [], rfl, rfl, hown, fun X hX => (show ScO X h k.s from hX)⟩) | (rw [do_e (by omega) h49]; exact ⟨h, oa, c, BM, [], rfl, rfl, hown, fun X hX => (show ScO X h k.s from hX)⟩) | (rw [do_y (by omega) h49, h69, pick_nF]; exact ⟨h1, oa2, c2, BM2, BW, rfl, (by simp only [clKp, List.length_append, List.length_singleton]), (by simpa using hown2), fun X _ => inferInstance⟩) | (rw [do_y (by omega) h49, h69, pick_f h90]; exact ⟨h1, oa2, c2, BM2, BW, rfl, (by simp only [clKp, List.length_append, List.length_singleton]), (by simpa using hown2), fun X _ => inferInstance⟩) | (rw [do_y (by omega) h49, h69, pick_m hb0 h83 h90]; exact ⟨h1, oa2, c2, BM2, BW, rfl, (by simp only [clKp, List.length_append, List.length_singleton]), (by simpa using hown2), fun X _ => inferInstance⟩) | (rw [do_y (by omega) h49, h69, pick_1 hb0 hb1 h90]; exact ⟨h1, oa2, c2, BM2, BW, rfl, (by simp only [clKp, List.length_append, List.length_singleton]), (by simpa using hown2), fun X _ => inferInstance⟩) | (rw [do_y (by omega) h49, h69, pick_0 hb0 hb1 hb2]; exact ⟨h1, oa2, c2, BM2, BW, rfl, (by simp only [clKp, List.length_append, List.length_singleton]), (by simpa using hown2), fun X _ => inferInstance⟩)
        ·
         refine vskip ?_
         refine vinblock ?_
         refine vregion ?_
         refine vone rfl (vxq (vadd rfl rfl (by unfold InR; omega)) rfl rfl ?_)
         refine vone rfl (vxq (vmv rfl) rfl rfl ?_)
         refine vnil ?_
         have hb2 := h90
         refine vinloop1 ?_
         refine vseq ?_
         refine vregion ?_
         refine vone rfl (vxq (vlss rfl rfl) rfl rfl ?_)
         refine vnil ?_
         refine vseq ?_
         refine vcondf rfl ?_
         refine vexit (k' := _) rfl ?_
         refine vseq ?_
         refine vregion ?_
         refine vone rfl (vxq (vmv rfl) rfl rfl ?_)
         refine vone rfl (vxq (vldn rfl rfl) rfl rfl ?_)
         refine vone rfl (vxq (vbd rfl rfl) rfl rfl ?_)
         refine vone rfl (vxq (vnc rfl) rfl rfl ?_)
         refine vone rfl (vxq (vfa rfl) rfl rfl ?_)
         refine vone rfl (vxs (vstn rfl rfl rfl rfl rfl) rfl ?_)
         refine vnil ?_
         refine vseq ?_
         refine vregion ?_
         refine vone rfl (vxq (vmv rfl) rfl rfl ?_)
         refine vone rfl (vxq (vmv rfl) rfl rfl ?_)
         refine vone rfl (vxq (vnc rfl) rfl rfl ?_)
         refine vone rfl (vxq (vfa rfl) rfl rfl ?_)
         refine vone rfl (vxq (vld1 rfl rfl) rfl rfl ?_)
         refine vone rfl (vxq (vmv rfl) rfl rfl ?_)
         refine vone rfl (vxg (vbs rfl rfl rfl rfl rfl rfl) rfl rfl ?_)
         rintro _ _ ⟨b5, rfl, rfl⟩
         refine vone rfl (vxg (vappF (a := ⟨b5, 0, Option.none⟩) (m := 1) (c := 1) (size := 1) (bytes := 8) (F := fun X => (b5, blk [I 0] 3) :: (b4, blk (clSt (stAt (⟨w, withP k.s x, (dangerE w (withP k.s x)).1⟩ : Lg) k.ms k.ms.length)) 112) :: (b3, blk (clLg (⟨h1, oa1, c1⟩ : LH) (⟨w, withP k.s x, (dangerE w (withP k.s x)).1⟩ : Lg)) 108) :: (BL ++ ((b2, blk (clSc h1 (withP k.s x)) 33) :: (BW ++ ((b1, blk (clLk x oax cx) 95) :: (b, blk [.slice h1.a1 (withP k.s x).ship.length h1.c1, .slice h1.a2 (withP k.s x).src.length h1.c2, .slice h1.a3 (withP k.s x).eyes.length h1.c3, .slice h1.a4 (withP k.s x).ears.length h1.c4, .slice h1.a5 (withP k.s x).sg.length h1.c5, I w.zone, I w.speed, I w.hold, I w.pre, I w.delay, I w.soft, I w.pause, .slice oa k.ms.length c] 155) :: (X ++ H)))))) (H0 := [(b5, blk [I 0] 3), (b4, blk (clSt (stAt (⟨w, withP k.s x, (dangerE w (withP k.s x)).1⟩ : Lg) k.ms k.ms.length)) 112), (b3, blk (clLg (⟨h1, oa1, c1⟩ : LH) (⟨w, withP k.s x, (dangerE w (withP k.s x)).1⟩ : Lg)) 108)] ++ (BL ++ ([(b2, blk (clSc h1 (withP k.s x)) 33)] ++ (BW ++ ([(b1, blk (clLk x oax cx) 95), (b, blk [.slice h1.a1 (withP k.s x).ship.length h1.c1, .slice h1.a2 (withP k.s x).src.length h1.c2, .slice h1.a3 (withP k.s x).eyes.length h1.c3, .slice h1.a4 (withP k.s x).ears.length h1.c4, .slice h1.a5 (withP k.s x).sg.length h1.c5, I w.zone, I w.speed, I w.hold, I w.pre, I w.delay, I w.soft, I w.pause, .slice oa k.ms.length c] 155)] ++ H))))) (B := BM) (xs := k.ms.flatMap encI) (news := [I 0]) (fun X => pmM [(b5, blk [I 0] 3), (b4, blk (clSt (stAt (⟨w, withP k.s x, (dangerE w (withP k.s x)).1⟩ : Lg) k.ms k.ms.length)) 112), (b3, blk (clLg (⟨h1, oa1, c1⟩ : LH) (⟨w, withP k.s x, (dangerE w (withP k.s x)).1⟩ : Lg)) 108)] BL [(b2, blk (clSc h1 (withP k.s x)) 33)] BW [(b1, blk (clLk x oax cx) 95), (b, blk [.slice h1.a1 (withP k.s x).ship.length h1.c1, .slice h1.a2 (withP k.s x).src.length h1.c2, .slice h1.a3 (withP k.s x).eyes.length h1.c3, .slice h1.a4 (withP k.s x).ears.length h1.c4, .slice h1.a5 (withP k.s x).sg.length h1.c5, I w.zone, I w.speed, I w.hold, I w.pre, I w.delay, I w.soft, I w.pause, .slice oa k.ms.length c] 155)] X H) rfl rfl hown rfl (news_blk (b := b5) (List.Mem.head _)) (fun u hu => by rw [List.mem_singleton.1 hu]; rfl) (by omega) (by simp only [maxLen]; omega) (by omega)) rfl rfl ?_)
         rintro _ _ ⟨BM2, hown2, _, rfl⟩
         obtain ⟨oa2, c2, rfl, hle2⟩ := hown2.shape
         refine vone rfl (vxq (vnc rfl) rfl rfl ?_)
         refine vone rfl (vxq (vfa rfl) rfl rfl ?_)
         refine vone rfl (vxs (vst1 rfl rfl rfl rfl) rfl ?_)
         refine vnil ?_
         refine vseq ?_
         refine VRun.perm (H' := ([(b, blk [.slice h1.a1 (withP k.s x).ship.length h1.c1, .slice h1.a2 (withP k.s x).src.length h1.c2, .slice h1.a3 (withP k.s x).eyes.length h1.c3, .slice h1.a4 (withP k.s x).ears.length h1.c4, .slice h1.a5 (withP k.s x).sg.length h1.c5, I w.zone, I w.speed, I w.hold, I w.pre, I w.delay, I w.soft, I w.pause, .slice oa2 (k.ms.length + 1) c2] 155)] ++ (BM2 ++ (BW ++ H))) ++ ([(b5, blk [I 0] 3), (b4, blk (clSt (stAt (⟨w, withP k.s x, (dangerE w (withP k.s x)).1⟩ : Lg) k.ms k.ms.length)) 112), (b3, blk (clLg (⟨h1, oa1, c1⟩ : LH) (⟨w, withP k.s x, (dangerE w (withP k.s x)).1⟩ : Lg)) 108)] ++ (BL ++ ([(b2, blk (clSc h1 (withP k.s x)) 33)] ++ [(b1, blk (clLk x oax cx) 95)])))) (pmD [(b5, blk [I 0] 3), (b4, blk (clSt (stAt (⟨w, withP k.s x, (dangerE w (withP k.s x)).1⟩ : Lg) k.ms k.ms.length)) 112), (b3, blk (clLg (⟨h1, oa1, c1⟩ : LH) (⟨w, withP k.s x, (dangerE w (withP k.s x)).1⟩ : Lg)) 108)] BL [(b2, blk (clSc h1 (withP k.s x)) 33)] BW [(b1, blk (clLk x oax cx) 95)] [(b, blk [.slice h1.a1 (withP k.s x).ship.length h1.c1, .slice h1.a2 (withP k.s x).src.length h1.c2, .slice h1.a3 (withP k.s x).eyes.length h1.c3, .slice h1.a4 (withP k.s x).ears.length h1.c4, .slice h1.a5 (withP k.s x).sg.length h1.c5, I w.zone, I w.speed, I w.hold, I w.pre, I w.delay, I w.soft, I w.pause, .slice oa2 (k.ms.length + 1) c2] 155)] BM2 H) ?_
         refine VRun.sub (List.sublist_append_left _ _) ?_
         refine vregion ?_
         refine vone rfl (vxq (vmv rfl) rfl rfl ?_)
         refine vone rfl (vxq (vas rfl) rfl rfl ?_)
         refine vone rfl (vxq (vas rfl) rfl rfl ?_)
         refine vnil ?_
         refine vret (vr2 (H' := (b, _) :: (BM2 ++ (BW ++ H))) Tryd.func44 rfl (.tmp rfl) (.tmp rfl) sb2 ?_)
         first | (rw [do_3 (by omega)]; exact ⟨h, oa, c, BM, [], rfl, rfl, hown, fun X hX => (show ScO X h k.s from hX)⟩) | (rw [do_e (by omega) h49]; exact ⟨h, oa, c, BM, [], rfl, rfl, hown, fun X hX => (show ScO X h k.s from hX)⟩) | (rw [do_y (by omega) h49, h69, pick_nF]; exact ⟨h1, oa2, c2, BM2, BW, rfl, (by simp only [clKp, List.length_append, List.length_singleton]), (by simpa using hown2), fun X _ => inferInstance⟩) | (rw [do_y (by omega) h49, h69, pick_f h90]; exact ⟨h1, oa2, c2, BM2, BW, rfl, (by simp only [clKp, List.length_append, List.length_singleton]), (by simpa using hown2), fun X _ => inferInstance⟩) | (rw [do_y (by omega) h49, h69, pick_m hb0 h83 h90]; exact ⟨h1, oa2, c2, BM2, BW, rfl, (by simp only [clKp, List.length_append, List.length_singleton]), (by simpa using hown2), fun X _ => inferInstance⟩) | (rw [do_y (by omega) h49, h69, pick_1 hb0 hb1 h90]; exact ⟨h1, oa2, c2, BM2, BW, rfl, (by simp only [clKp, List.length_append, List.length_singleton]), (by simpa using hown2), fun X _ => inferInstance⟩) | (rw [do_y (by omega) h49, h69, pick_0 hb0 hb1 hb2]; exact ⟨h1, oa2, c2, BM2, BW, rfl, (by simp only [clKp, List.length_append, List.length_singleton]), (by simpa using hown2), fun X _ => inferInstance⟩)
      ·
       refine vno rfl rfl rfl rfl rfl ?_
       refine vno rfl rfl rfl rfl rfl ?_
       refine vno rfl rfl rfl rfl rfl ?_
       refine vno rfl rfl rfl rfl rfl ?_
       refine vno rfl rfl rfl rfl rfl ?_
       refine vno rfl rfl rfl rfl rfl ?_
       refine vone rfl (vxq (vpkf rfl rfl) rfl rfl ?_)
       refine vnil ?_
       refine vcondf rfl ?_
       refine vskip ?_
       refine vinblock ?_
       refine vregion ?_
       refine vone rfl (vxq (vadd rfl rfl (by unfold InR; omega)) rfl rfl ?_)
       refine vone rfl (vxq (vmv rfl) rfl rfl ?_)
       refine vnil ?_
       have hb1 : ¬ ((stAt (⟨w, withP k.s x, (dangerE w (withP k.s x)).1⟩ : Lg) k.ms k.ms.length).md + 1 ≤ w.soft + 1 ∧ brokenP (⟨w, withP k.s x, (dangerE w (withP k.s x)).1⟩ : Lg) k.s.ship.length (stAt (⟨w, withP k.s x, (dangerE w (withP k.s x)).1⟩ : Lg) k.ms k.ms.length) ((stAt (⟨w, withP k.s x, (dangerE w (withP k.s x)).1⟩ : Lg) k.ms k.ms.length).md + 1) = 0) := by first | exact fun e => h83 e.1 | exact fun e => h90 e.2
       refine vinloop1 ?_
       refine vseq ?_
       refine vregion ?_
       refine vone rfl (vxq (vlss rfl rfl) rfl rfl ?_)
       refine vnil ?_
       refine vseq ?_
       refine vcondt rfl ?_
       refine vskip ?_
       refine vseq ?_
       refine vblock ?_
       refine vseq ?_
       refine vregion ?_
       refine vone rfl (vxq (vixa1 rfl rfl (by omega) rfl) rfl rfl ?_)
       refine vone rfl (vxq (vas rfl) rfl rfl ?_)
       refine vnil ?_
       refine vseq ?_
       refine vregion ?_
       refine vone rfl (vxq (vmv rfl) rfl rfl ?_)
       refine vone rfl (vxq (vldn rfl rfl) rfl rfl ?_)
       refine vone rfl (vxq (vcp rfl rfl rfl (c_full (⟨h1, oa1, c1⟩ : LH) (⟨w, withP k.s x, (dangerE w (withP k.s x)).1⟩ : Lg) hw)) rfl rfl ?_)
       refine vone rfl (vxq (vleq rfl rfl) rfl rfl ?_)
       refine vone rfl (vxq (vmv rfl) rfl rfl ?_)
       refine vknow (d := 83) (b' := true) rfl (decide_eq_true (by (try simp only); omega)) ?_
       refine vyes rfl rfl rfl (vxq (vldn rfl rfl) rfl rfl ?_)
       refine vyes rfl rfl rfl (vxq (vmv rfl) rfl rfl ?_)
       refine vyes rfl rfl rfl (vxq (vldn rfl rfl) rfl rfl ?_)
       refine vyes rfl rfl rfl (vxq (vmv rfl) rfl rfl ?_)
       refine vyes rfl rfl rfl (vxq (vcq rfl rfl rfl (c_broken (⟨h1, oa1, c1⟩ : LH) (⟨w, withP k.s x, (dangerE w (withP k.s x)).1⟩ : Lg) _ k.s.ship.length (by simp only; rw [with_len]; omega) (stAt (⟨w, withP k.s x, (dangerE w (withP k.s x)).1⟩ : Lg) k.ms k.ms.length) _)) rfl rfl ?_)
       refine vyes rfl rfl rfl (vxq (veql rfl rfl) rfl rfl ?_)
       refine vone rfl (vxq (vpkt rfl rfl) rfl rfl ?_)
       refine vnil ?_
       refine vcondd rfl (fun h90 => ?_) (fun h90 => ?_)
       ·
        refine vseq ?_
        refine vregion ?_
        refine vone rfl (vxq (vmv rfl) rfl rfl ?_)
        refine vone rfl (vxq (vas rfl) rfl rfl ?_)
        refine vnil ?_
        refine vexit (k' := _) rfl ?_
        refine vseq ?_
        refine vregion ?_
        refine vone rfl (vxq (vmv rfl) rfl rfl ?_)
        refine vone rfl (vxq (vldn rfl rfl) rfl rfl ?_)
        refine vone rfl (vxq (vbd rfl rfl) rfl rfl ?_)
        refine vone rfl (vxq (vnc rfl) rfl rfl ?_)
        refine vone rfl (vxq (vfa rfl) rfl rfl ?_)
        refine vone rfl (vxs (vstn rfl rfl rfl rfl rfl) rfl ?_)
        refine vnil ?_
        refine vseq ?_
        refine vregion ?_
        refine vone rfl (vxq (vmv rfl) rfl rfl ?_)
        refine vone rfl (vxq (vmv rfl) rfl rfl ?_)
        refine vone rfl (vxq (vnc rfl) rfl rfl ?_)
        refine vone rfl (vxq (vfa rfl) rfl rfl ?_)
        refine vone rfl (vxq (vld1 rfl rfl) rfl rfl ?_)
        refine vone rfl (vxq (vmv rfl) rfl rfl ?_)
        refine vone rfl (vxg (vbs rfl rfl rfl rfl rfl rfl) rfl rfl ?_)
        rintro _ _ ⟨b5, rfl, rfl⟩
        refine vone rfl (vxg (vappF (a := ⟨b5, 0, Option.none⟩) (m := 1) (c := 1) (size := 1) (bytes := 8) (F := fun X => (b5, blk [I 1] 3) :: (b4, blk (clSt (stAt (⟨w, withP k.s x, (dangerE w (withP k.s x)).1⟩ : Lg) k.ms k.ms.length)) 112) :: (b3, blk (clLg (⟨h1, oa1, c1⟩ : LH) (⟨w, withP k.s x, (dangerE w (withP k.s x)).1⟩ : Lg)) 108) :: (BL ++ ((b2, blk (clSc h1 (withP k.s x)) 33) :: (BW ++ ((b1, blk (clLk x oax cx) 95) :: (b, blk [.slice h1.a1 (withP k.s x).ship.length h1.c1, .slice h1.a2 (withP k.s x).src.length h1.c2, .slice h1.a3 (withP k.s x).eyes.length h1.c3, .slice h1.a4 (withP k.s x).ears.length h1.c4, .slice h1.a5 (withP k.s x).sg.length h1.c5, I w.zone, I w.speed, I w.hold, I w.pre, I w.delay, I w.soft, I w.pause, .slice oa k.ms.length c] 155) :: (X ++ H)))))) (H0 := [(b5, blk [I 1] 3), (b4, blk (clSt (stAt (⟨w, withP k.s x, (dangerE w (withP k.s x)).1⟩ : Lg) k.ms k.ms.length)) 112), (b3, blk (clLg (⟨h1, oa1, c1⟩ : LH) (⟨w, withP k.s x, (dangerE w (withP k.s x)).1⟩ : Lg)) 108)] ++ (BL ++ ([(b2, blk (clSc h1 (withP k.s x)) 33)] ++ (BW ++ ([(b1, blk (clLk x oax cx) 95), (b, blk [.slice h1.a1 (withP k.s x).ship.length h1.c1, .slice h1.a2 (withP k.s x).src.length h1.c2, .slice h1.a3 (withP k.s x).eyes.length h1.c3, .slice h1.a4 (withP k.s x).ears.length h1.c4, .slice h1.a5 (withP k.s x).sg.length h1.c5, I w.zone, I w.speed, I w.hold, I w.pre, I w.delay, I w.soft, I w.pause, .slice oa k.ms.length c] 155)] ++ H))))) (B := BM) (xs := k.ms.flatMap encI) (news := [I 1]) (fun X => pmM [(b5, blk [I 1] 3), (b4, blk (clSt (stAt (⟨w, withP k.s x, (dangerE w (withP k.s x)).1⟩ : Lg) k.ms k.ms.length)) 112), (b3, blk (clLg (⟨h1, oa1, c1⟩ : LH) (⟨w, withP k.s x, (dangerE w (withP k.s x)).1⟩ : Lg)) 108)] BL [(b2, blk (clSc h1 (withP k.s x)) 33)] BW [(b1, blk (clLk x oax cx) 95), (b, blk [.slice h1.a1 (withP k.s x).ship.length h1.c1, .slice h1.a2 (withP k.s x).src.length h1.c2, .slice h1.a3 (withP k.s x).eyes.length h1.c3, .slice h1.a4 (withP k.s x).ears.length h1.c4, .slice h1.a5 (withP k.s x).sg.length h1.c5, I w.zone, I w.speed, I w.hold, I w.pre, I w.delay, I w.soft, I w.pause, .slice oa k.ms.length c] 155)] X H) rfl rfl hown rfl (news_blk (b := b5) (List.Mem.head _)) (fun u hu => by rw [List.mem_singleton.1 hu]; rfl) (by omega) (by simp only [maxLen]; omega) (by omega)) rfl rfl ?_)
        rintro _ _ ⟨BM2, hown2, _, rfl⟩
        obtain ⟨oa2, c2, rfl, hle2⟩ := hown2.shape
        refine vone rfl (vxq (vnc rfl) rfl rfl ?_)
        refine vone rfl (vxq (vfa rfl) rfl rfl ?_)
        refine vone rfl (vxs (vst1 rfl rfl rfl rfl) rfl ?_)
        refine vnil ?_
        refine vseq ?_
        refine VRun.perm (H' := ([(b, blk [.slice h1.a1 (withP k.s x).ship.length h1.c1, .slice h1.a2 (withP k.s x).src.length h1.c2, .slice h1.a3 (withP k.s x).eyes.length h1.c3, .slice h1.a4 (withP k.s x).ears.length h1.c4, .slice h1.a5 (withP k.s x).sg.length h1.c5, I w.zone, I w.speed, I w.hold, I w.pre, I w.delay, I w.soft, I w.pause, .slice oa2 (k.ms.length + 1) c2] 155)] ++ (BM2 ++ (BW ++ H))) ++ ([(b5, blk [I 1] 3), (b4, blk (clSt (stAt (⟨w, withP k.s x, (dangerE w (withP k.s x)).1⟩ : Lg) k.ms k.ms.length)) 112), (b3, blk (clLg (⟨h1, oa1, c1⟩ : LH) (⟨w, withP k.s x, (dangerE w (withP k.s x)).1⟩ : Lg)) 108)] ++ (BL ++ ([(b2, blk (clSc h1 (withP k.s x)) 33)] ++ [(b1, blk (clLk x oax cx) 95)])))) (pmD [(b5, blk [I 1] 3), (b4, blk (clSt (stAt (⟨w, withP k.s x, (dangerE w (withP k.s x)).1⟩ : Lg) k.ms k.ms.length)) 112), (b3, blk (clLg (⟨h1, oa1, c1⟩ : LH) (⟨w, withP k.s x, (dangerE w (withP k.s x)).1⟩ : Lg)) 108)] BL [(b2, blk (clSc h1 (withP k.s x)) 33)] BW [(b1, blk (clLk x oax cx) 95)] [(b, blk [.slice h1.a1 (withP k.s x).ship.length h1.c1, .slice h1.a2 (withP k.s x).src.length h1.c2, .slice h1.a3 (withP k.s x).eyes.length h1.c3, .slice h1.a4 (withP k.s x).ears.length h1.c4, .slice h1.a5 (withP k.s x).sg.length h1.c5, I w.zone, I w.speed, I w.hold, I w.pre, I w.delay, I w.soft, I w.pause, .slice oa2 (k.ms.length + 1) c2] 155)] BM2 H) ?_
        refine VRun.sub (List.sublist_append_left _ _) ?_
        refine vregion ?_
        refine vone rfl (vxq (vmv rfl) rfl rfl ?_)
        refine vone rfl (vxq (vas rfl) rfl rfl ?_)
        refine vone rfl (vxq (vas rfl) rfl rfl ?_)
        refine vnil ?_
        refine vret (vr2 (H' := (b, _) :: (BM2 ++ (BW ++ H))) Tryd.func44 rfl (.tmp rfl) (.tmp rfl) sb2 ?_)
        first | (rw [do_3 (by omega)]; exact ⟨h, oa, c, BM, [], rfl, rfl, hown, fun X hX => (show ScO X h k.s from hX)⟩) | (rw [do_e (by omega) h49]; exact ⟨h, oa, c, BM, [], rfl, rfl, hown, fun X hX => (show ScO X h k.s from hX)⟩) | (rw [do_y (by omega) h49, h69, pick_nF]; exact ⟨h1, oa2, c2, BM2, BW, rfl, (by simp only [clKp, List.length_append, List.length_singleton]), (by simpa using hown2), fun X _ => inferInstance⟩) | (rw [do_y (by omega) h49, h69, pick_f h90]; exact ⟨h1, oa2, c2, BM2, BW, rfl, (by simp only [clKp, List.length_append, List.length_singleton]), (by simpa using hown2), fun X _ => inferInstance⟩) | (rw [do_y (by omega) h49, h69, pick_m hb0 h83 h90]; exact ⟨h1, oa2, c2, BM2, BW, rfl, (by simp only [clKp, List.length_append, List.length_singleton]), (by simpa using hown2), fun X _ => inferInstance⟩) | (rw [do_y (by omega) h49, h69, pick_1 hb0 hb1 h90]; exact ⟨h1, oa2, c2, BM2, BW, rfl, (by simp only [clKp, List.length_append, List.length_singleton]), (by simpa using hown2), fun X _ => inferInstance⟩) | (rw [do_y (by omega) h49, h69, pick_0 hb0 hb1 hb2]; exact ⟨h1, oa2, c2, BM2, BW, rfl, (by simp only [clKp, List.length_append, List.length_singleton]), (by simpa using hown2), fun X _ => inferInstance⟩)
       ·
        refine vskip ?_
        refine vinblock ?_
        refine vregion ?_
        refine vone rfl (vxq (vadd rfl rfl (by unfold InR; omega)) rfl rfl ?_)
        refine vone rfl (vxq (vmv rfl) rfl rfl ?_)
        refine vnil ?_
        have hb2 := h90
        refine vinloop1 ?_
        refine vseq ?_
        refine vregion ?_
        refine vone rfl (vxq (vlss rfl rfl) rfl rfl ?_)
        refine vnil ?_
        refine vseq ?_
        refine vcondf rfl ?_
        refine vexit (k' := _) rfl ?_
        refine vseq ?_
        refine vregion ?_
        refine vone rfl (vxq (vmv rfl) rfl rfl ?_)
        refine vone rfl (vxq (vldn rfl rfl) rfl rfl ?_)
        refine vone rfl (vxq (vbd rfl rfl) rfl rfl ?_)
        refine vone rfl (vxq (vnc rfl) rfl rfl ?_)
        refine vone rfl (vxq (vfa rfl) rfl rfl ?_)
        refine vone rfl (vxs (vstn rfl rfl rfl rfl rfl) rfl ?_)
        refine vnil ?_
        refine vseq ?_
        refine vregion ?_
        refine vone rfl (vxq (vmv rfl) rfl rfl ?_)
        refine vone rfl (vxq (vmv rfl) rfl rfl ?_)
        refine vone rfl (vxq (vnc rfl) rfl rfl ?_)
        refine vone rfl (vxq (vfa rfl) rfl rfl ?_)
        refine vone rfl (vxq (vld1 rfl rfl) rfl rfl ?_)
        refine vone rfl (vxq (vmv rfl) rfl rfl ?_)
        refine vone rfl (vxg (vbs rfl rfl rfl rfl rfl rfl) rfl rfl ?_)
        rintro _ _ ⟨b5, rfl, rfl⟩
        refine vone rfl (vxg (vappF (a := ⟨b5, 0, Option.none⟩) (m := 1) (c := 1) (size := 1) (bytes := 8) (F := fun X => (b5, blk [I 0] 3) :: (b4, blk (clSt (stAt (⟨w, withP k.s x, (dangerE w (withP k.s x)).1⟩ : Lg) k.ms k.ms.length)) 112) :: (b3, blk (clLg (⟨h1, oa1, c1⟩ : LH) (⟨w, withP k.s x, (dangerE w (withP k.s x)).1⟩ : Lg)) 108) :: (BL ++ ((b2, blk (clSc h1 (withP k.s x)) 33) :: (BW ++ ((b1, blk (clLk x oax cx) 95) :: (b, blk [.slice h1.a1 (withP k.s x).ship.length h1.c1, .slice h1.a2 (withP k.s x).src.length h1.c2, .slice h1.a3 (withP k.s x).eyes.length h1.c3, .slice h1.a4 (withP k.s x).ears.length h1.c4, .slice h1.a5 (withP k.s x).sg.length h1.c5, I w.zone, I w.speed, I w.hold, I w.pre, I w.delay, I w.soft, I w.pause, .slice oa k.ms.length c] 155) :: (X ++ H)))))) (H0 := [(b5, blk [I 0] 3), (b4, blk (clSt (stAt (⟨w, withP k.s x, (dangerE w (withP k.s x)).1⟩ : Lg) k.ms k.ms.length)) 112), (b3, blk (clLg (⟨h1, oa1, c1⟩ : LH) (⟨w, withP k.s x, (dangerE w (withP k.s x)).1⟩ : Lg)) 108)] ++ (BL ++ ([(b2, blk (clSc h1 (withP k.s x)) 33)] ++ (BW ++ ([(b1, blk (clLk x oax cx) 95), (b, blk [.slice h1.a1 (withP k.s x).ship.length h1.c1, .slice h1.a2 (withP k.s x).src.length h1.c2, .slice h1.a3 (withP k.s x).eyes.length h1.c3, .slice h1.a4 (withP k.s x).ears.length h1.c4, .slice h1.a5 (withP k.s x).sg.length h1.c5, I w.zone, I w.speed, I w.hold, I w.pre, I w.delay, I w.soft, I w.pause, .slice oa k.ms.length c] 155)] ++ H))))) (B := BM) (xs := k.ms.flatMap encI) (news := [I 0]) (fun X => pmM [(b5, blk [I 0] 3), (b4, blk (clSt (stAt (⟨w, withP k.s x, (dangerE w (withP k.s x)).1⟩ : Lg) k.ms k.ms.length)) 112), (b3, blk (clLg (⟨h1, oa1, c1⟩ : LH) (⟨w, withP k.s x, (dangerE w (withP k.s x)).1⟩ : Lg)) 108)] BL [(b2, blk (clSc h1 (withP k.s x)) 33)] BW [(b1, blk (clLk x oax cx) 95), (b, blk [.slice h1.a1 (withP k.s x).ship.length h1.c1, .slice h1.a2 (withP k.s x).src.length h1.c2, .slice h1.a3 (withP k.s x).eyes.length h1.c3, .slice h1.a4 (withP k.s x).ears.length h1.c4, .slice h1.a5 (withP k.s x).sg.length h1.c5, I w.zone, I w.speed, I w.hold, I w.pre, I w.delay, I w.soft, I w.pause, .slice oa k.ms.length c] 155)] X H) rfl rfl hown rfl (news_blk (b := b5) (List.Mem.head _)) (fun u hu => by rw [List.mem_singleton.1 hu]; rfl) (by omega) (by simp only [maxLen]; omega) (by omega)) rfl rfl ?_)
        rintro _ _ ⟨BM2, hown2, _, rfl⟩
        obtain ⟨oa2, c2, rfl, hle2⟩ := hown2.shape
        refine vone rfl (vxq (vnc rfl) rfl rfl ?_)
        refine vone rfl (vxq (vfa rfl) rfl rfl ?_)
        refine vone rfl (vxs (vst1 rfl rfl rfl rfl) rfl ?_)
        refine vnil ?_
        refine vseq ?_
        refine VRun.perm (H' := ([(b, blk [.slice h1.a1 (withP k.s x).ship.length h1.c1, .slice h1.a2 (withP k.s x).src.length h1.c2, .slice h1.a3 (withP k.s x).eyes.length h1.c3, .slice h1.a4 (withP k.s x).ears.length h1.c4, .slice h1.a5 (withP k.s x).sg.length h1.c5, I w.zone, I w.speed, I w.hold, I w.pre, I w.delay, I w.soft, I w.pause, .slice oa2 (k.ms.length + 1) c2] 155)] ++ (BM2 ++ (BW ++ H))) ++ ([(b5, blk [I 0] 3), (b4, blk (clSt (stAt (⟨w, withP k.s x, (dangerE w (withP k.s x)).1⟩ : Lg) k.ms k.ms.length)) 112), (b3, blk (clLg (⟨h1, oa1, c1⟩ : LH) (⟨w, withP k.s x, (dangerE w (withP k.s x)).1⟩ : Lg)) 108)] ++ (BL ++ ([(b2, blk (clSc h1 (withP k.s x)) 33)] ++ [(b1, blk (clLk x oax cx) 95)])))) (pmD [(b5, blk [I 0] 3), (b4, blk (clSt (stAt (⟨w, withP k.s x, (dangerE w (withP k.s x)).1⟩ : Lg) k.ms k.ms.length)) 112), (b3, blk (clLg (⟨h1, oa1, c1⟩ : LH) (⟨w, withP k.s x, (dangerE w (withP k.s x)).1⟩ : Lg)) 108)] BL [(b2, blk (clSc h1 (withP k.s x)) 33)] BW [(b1, blk (clLk x oax cx) 95)] [(b, blk [.slice h1.a1 (withP k.s x).ship.length h1.c1, .slice h1.a2 (withP k.s x).src.length h1.c2, .slice h1.a3 (withP k.s x).eyes.length h1.c3, .slice h1.a4 (withP k.s x).ears.length h1.c4, .slice h1.a5 (withP k.s x).sg.length h1.c5, I w.zone, I w.speed, I w.hold, I w.pre, I w.delay, I w.soft, I w.pause, .slice oa2 (k.ms.length + 1) c2] 155)] BM2 H) ?_
        refine VRun.sub (List.sublist_append_left _ _) ?_
        refine vregion ?_
        refine vone rfl (vxq (vmv rfl) rfl rfl ?_)
        refine vone rfl (vxq (vas rfl) rfl rfl ?_)
        refine vone rfl (vxq (vas rfl) rfl rfl ?_)
        refine vnil ?_
        refine vret (vr2 (H' := (b, _) :: (BM2 ++ (BW ++ H))) Tryd.func44 rfl (.tmp rfl) (.tmp rfl) sb2 ?_)
        first | (rw [do_3 (by omega)]; exact ⟨h, oa, c, BM, [], rfl, rfl, hown, fun X hX => (show ScO X h k.s from hX)⟩) | (rw [do_e (by omega) h49]; exact ⟨h, oa, c, BM, [], rfl, rfl, hown, fun X hX => (show ScO X h k.s from hX)⟩) | (rw [do_y (by omega) h49, h69, pick_nF]; exact ⟨h1, oa2, c2, BM2, BW, rfl, (by simp only [clKp, List.length_append, List.length_singleton]), (by simpa using hown2), fun X _ => inferInstance⟩) | (rw [do_y (by omega) h49, h69, pick_f h90]; exact ⟨h1, oa2, c2, BM2, BW, rfl, (by simp only [clKp, List.length_append, List.length_singleton]), (by simpa using hown2), fun X _ => inferInstance⟩) | (rw [do_y (by omega) h49, h69, pick_m hb0 h83 h90]; exact ⟨h1, oa2, c2, BM2, BW, rfl, (by simp only [clKp, List.length_append, List.length_singleton]), (by simpa using hown2), fun X _ => inferInstance⟩) | (rw [do_y (by omega) h49, h69, pick_1 hb0 hb1 h90]; exact ⟨h1, oa2, c2, BM2, BW, rfl, (by simp only [clKp, List.length_append, List.length_singleton]), (by simpa using hown2), fun X _ => inferInstance⟩) | (rw [do_y (by omega) h49, h69, pick_0 hb0 hb1 hb2]; exact ⟨h1, oa2, c2, BM2, BW, rfl, (by simp only [clKp, List.length_append, List.length_singleton]), (by simpa using hown2), fun X _ => inferInstance⟩)
    ·
     refine vskip ?_
     refine vseq ?_
     refine vregion ?_
     refine vone rfl (vxq (vmv rfl) rfl rfl ?_)
     refine vone rfl (vxq (vldn rfl rfl) rfl rfl ?_)
     refine vone rfl (vxq (vbd rfl rfl) rfl rfl ?_)
     refine vone rfl (vxq (vnc rfl) rfl rfl ?_)
     refine vone rfl (vxq (vfa rfl) rfl rfl ?_)
     refine vone rfl (vxs (vstn rfl rfl rfl rfl rfl) rfl ?_)
     refine vnil ?_
     refine vseq ?_
     refine vregion ?_
     refine vone rfl (vxq (vmv rfl) rfl rfl ?_)
     refine vone rfl (vxq (vmv rfl) rfl rfl ?_)
     refine vone rfl (vxq (vnc rfl) rfl rfl ?_)
     refine vone rfl (vxq (vfa rfl) rfl rfl ?_)
     refine vone rfl (vxq (vld1 rfl rfl) rfl rfl ?_)
     refine vone rfl (vxq (vmv rfl) rfl rfl ?_)
     refine vone rfl (vxg (vbs rfl rfl rfl rfl rfl rfl) rfl rfl ?_)
     rintro _ _ ⟨b5, rfl, rfl⟩
     refine vone rfl (vxg (vappF (a := ⟨b5, 0, Option.none⟩) (m := 1) (c := 1) (size := 1) (bytes := 8) (F := fun X => (b5, blk [I 0] 3) :: (b4, blk (clSt (stAt (⟨w, withP k.s x, (dangerE w (withP k.s x)).1⟩ : Lg) k.ms k.ms.length)) 112) :: (b3, blk (clLg (⟨h1, oa1, c1⟩ : LH) (⟨w, withP k.s x, (dangerE w (withP k.s x)).1⟩ : Lg)) 108) :: (BL ++ ((b2, blk (clSc h1 (withP k.s x)) 33) :: (BW ++ ((b1, blk (clLk x oax cx) 95) :: (b, blk [.slice h1.a1 (withP k.s x).ship.length h1.c1, .slice h1.a2 (withP k.s x).src.length h1.c2, .slice h1.a3 (withP k.s x).eyes.length h1.c3, .slice h1.a4 (withP k.s x).ears.length h1.c4, .slice h1.a5 (withP k.s x).sg.length h1.c5, I w.zone, I w.speed, I w.hold, I w.pre, I w.delay, I w.soft, I w.pause, .slice oa k.ms.length c] 155) :: (X ++ H)))))) (H0 := [(b5, blk [I 0] 3), (b4, blk (clSt (stAt (⟨w, withP k.s x, (dangerE w (withP k.s x)).1⟩ : Lg) k.ms k.ms.length)) 112), (b3, blk (clLg (⟨h1, oa1, c1⟩ : LH) (⟨w, withP k.s x, (dangerE w (withP k.s x)).1⟩ : Lg)) 108)] ++ (BL ++ ([(b2, blk (clSc h1 (withP k.s x)) 33)] ++ (BW ++ ([(b1, blk (clLk x oax cx) 95), (b, blk [.slice h1.a1 (withP k.s x).ship.length h1.c1, .slice h1.a2 (withP k.s x).src.length h1.c2, .slice h1.a3 (withP k.s x).eyes.length h1.c3, .slice h1.a4 (withP k.s x).ears.length h1.c4, .slice h1.a5 (withP k.s x).sg.length h1.c5, I w.zone, I w.speed, I w.hold, I w.pre, I w.delay, I w.soft, I w.pause, .slice oa k.ms.length c] 155)] ++ H))))) (B := BM) (xs := k.ms.flatMap encI) (news := [I 0]) (fun X => pmM [(b5, blk [I 0] 3), (b4, blk (clSt (stAt (⟨w, withP k.s x, (dangerE w (withP k.s x)).1⟩ : Lg) k.ms k.ms.length)) 112), (b3, blk (clLg (⟨h1, oa1, c1⟩ : LH) (⟨w, withP k.s x, (dangerE w (withP k.s x)).1⟩ : Lg)) 108)] BL [(b2, blk (clSc h1 (withP k.s x)) 33)] BW [(b1, blk (clLk x oax cx) 95), (b, blk [.slice h1.a1 (withP k.s x).ship.length h1.c1, .slice h1.a2 (withP k.s x).src.length h1.c2, .slice h1.a3 (withP k.s x).eyes.length h1.c3, .slice h1.a4 (withP k.s x).ears.length h1.c4, .slice h1.a5 (withP k.s x).sg.length h1.c5, I w.zone, I w.speed, I w.hold, I w.pre, I w.delay, I w.soft, I w.pause, .slice oa k.ms.length c] 155)] X H) rfl rfl hown rfl (news_blk (b := b5) (List.Mem.head _)) (fun u hu => by rw [List.mem_singleton.1 hu]; rfl) (by omega) (by simp only [maxLen]; omega) (by omega)) rfl rfl ?_)
     rintro _ _ ⟨BM2, hown2, _, rfl⟩
     obtain ⟨oa2, c2, rfl, hle2⟩ := hown2.shape
     refine vone rfl (vxq (vnc rfl) rfl rfl ?_)
     refine vone rfl (vxq (vfa rfl) rfl rfl ?_)
     refine vone rfl (vxs (vst1 rfl rfl rfl rfl) rfl ?_)
     refine vnil ?_
     refine vseq ?_
     refine VRun.perm (H' := ([(b, blk [.slice h1.a1 (withP k.s x).ship.length h1.c1, .slice h1.a2 (withP k.s x).src.length h1.c2, .slice h1.a3 (withP k.s x).eyes.length h1.c3, .slice h1.a4 (withP k.s x).ears.length h1.c4, .slice h1.a5 (withP k.s x).sg.length h1.c5, I w.zone, I w.speed, I w.hold, I w.pre, I w.delay, I w.soft, I w.pause, .slice oa2 (k.ms.length + 1) c2] 155)] ++ (BM2 ++ (BW ++ H))) ++ ([(b5, blk [I 0] 3), (b4, blk (clSt (stAt (⟨w, withP k.s x, (dangerE w (withP k.s x)).1⟩ : Lg) k.ms k.ms.length)) 112), (b3, blk (clLg (⟨h1, oa1, c1⟩ : LH) (⟨w, withP k.s x, (dangerE w (withP k.s x)).1⟩ : Lg)) 108)] ++ (BL ++ ([(b2, blk (clSc h1 (withP k.s x)) 33)] ++ [(b1, blk (clLk x oax cx) 95)])))) (pmD [(b5, blk [I 0] 3), (b4, blk (clSt (stAt (⟨w, withP k.s x, (dangerE w (withP k.s x)).1⟩ : Lg) k.ms k.ms.length)) 112), (b3, blk (clLg (⟨h1, oa1, c1⟩ : LH) (⟨w, withP k.s x, (dangerE w (withP k.s x)).1⟩ : Lg)) 108)] BL [(b2, blk (clSc h1 (withP k.s x)) 33)] BW [(b1, blk (clLk x oax cx) 95)] [(b, blk [.slice h1.a1 (withP k.s x).ship.length h1.c1, .slice h1.a2 (withP k.s x).src.length h1.c2, .slice h1.a3 (withP k.s x).eyes.length h1.c3, .slice h1.a4 (withP k.s x).ears.length h1.c4, .slice h1.a5 (withP k.s x).sg.length h1.c5, I w.zone, I w.speed, I w.hold, I w.pre, I w.delay, I w.soft, I w.pause, .slice oa2 (k.ms.length + 1) c2] 155)] BM2 H) ?_
     refine VRun.sub (List.sublist_append_left _ _) ?_
     refine vregion ?_
     refine vone rfl (vxq (vmv rfl) rfl rfl ?_)
     refine vone rfl (vxq (vas rfl) rfl rfl ?_)
     refine vone rfl (vxq (vas rfl) rfl rfl ?_)
     refine vnil ?_
     refine vret (vr2 (H' := (b, _) :: (BM2 ++ (BW ++ H))) Tryd.func44 rfl (.tmp rfl) (.tmp rfl) sb2 ?_)
     first | (rw [do_3 (by omega)]; exact ⟨h, oa, c, BM, [], rfl, rfl, hown, fun X hX => (show ScO X h k.s from hX)⟩) | (rw [do_e (by omega) h49]; exact ⟨h, oa, c, BM, [], rfl, rfl, hown, fun X hX => (show ScO X h k.s from hX)⟩) | (rw [do_y (by omega) h49, h69, pick_nF]; exact ⟨h1, oa2, c2, BM2, BW, rfl, (by simp only [clKp, List.length_append, List.length_singleton]), (by simpa using hown2), fun X _ => inferInstance⟩) | (rw [do_y (by omega) h49, h69, pick_f h90]; exact ⟨h1, oa2, c2, BM2, BW, rfl, (by simp only [clKp, List.length_append, List.length_singleton]), (by simpa using hown2), fun X _ => inferInstance⟩) | (rw [do_y (by omega) h49, h69, pick_m hb0 h83 h90]; exact ⟨h1, oa2, c2, BM2, BW, rfl, (by simp only [clKp, List.length_append, List.length_singleton]), (by simpa using hown2), fun X _ => inferInstance⟩) | (rw [do_y (by omega) h49, h69, pick_1 hb0 hb1 h90]; exact ⟨h1, oa2, c2, BM2, BW, rfl, (by simp only [clKp, List.length_append, List.length_singleton]), (by simpa using hown2), fun X _ => inferInstance⟩) | (rw [do_y (by omega) h49, h69, pick_0 hb0 hb1 hb2]; exact ⟨h1, oa2, c2, BM2, BW, rfl, (by simp only [clKp, List.length_append, List.length_singleton]), (by simpa using hown2), fun X _ => inferInstance⟩)
end Go.Proofs.YtaplkoimhecacaaDoor
namespace Go.Proofs.YtaplkoimhecacaaDoor
open Go
set_option maxRecDepth 100000

attribute [local irreducible] tightP hullP rootP farP rows endsOf
section
variable {N : Nat} {E : Env} {D : List Deferred} {H : Heap} {d : Nat} {x y : Operand} {ty T' : TypeId} {pos : String} {af : Array Edge} {g : Option (Nat × Bool)}
end

end Go.Proofs.YtaplkoimhecacaaDoor
namespace Go.Proofs.YtaplkoimhecacaaDoor
open Go
set_option maxRecDepth 100000

attribute [local irreducible] tightP hullP rootP farP rows endsOf
section
variable {P : Program} {f : FuncId} {ro : Option Nat} {N : Nat} {k k' : List Item} {E E' : Env} {D : List Deferred} {H H' : Heap} {Q : Out → Heap → Prop}
/-- Branches that meet again. -/
theorem vjoin {C : Prop} (h2 : (C → VRun P f ro N k' E' D H' Q) → VRun P f ro N k E D H Q) (h1 : C → VRun P f ro N k' E' D H' Q) : VRun P f ro N k E D H Q := h2 h1
end
/-- A step that is told, and where its sightings lie. -/
structure LkA where
  x : Lk
  oa : Option Addr
  c : Nat
abbrev encLk (a : LkA) : List Value := clLk a.x a.oa a.c
def okLk (H : Heap) (a : LkA) : Prop := SlO H a.oa 5 clSg a.x.sg ∧ a.x.sg.length * 48 ≤ 140737488351232 ∧ ∀ z ∈ a.x.sg, z.nm.size ≤ 9223372036854775807
def sh0 : SH := ⟨Option.none, 0, Option.none, 0, Option.none, 0, Option.none, 0, Option.none, 0⟩
theorem sc0 (H : Heap) : ScO H sh0 kp0.s := ⟨SlO.nil, SlO.nil, SlO.nil, SlO.nil, SlO.nil, ⟨Nat.le_refl _, Nat.le_refl _⟩, (fun x hx => by cases hx), by simp [kp0]⟩
theorem d_NewOk {w : Wn} (hw : okW w) (H : Heap) : VCall Tryd.prog 42 [vWn w].toArray H (fun o H' => ∃ b, o = .val (tup [ptr b, I 0]) ∧ H' = (b, blk (clKp sh0 w kp0 Option.none 0) 155) :: H) :=
  (d_NewKeeper w H).mono fun o H' h => by
    rcases h with ⟨_, b, h1, h2⟩ | ⟨h1, _⟩
    · exact ⟨b, h1, h2⟩
    · exact absurd hw h1
theorem q_NewBad {w : Wn} (hw : ¬ okW w) (H : Heap) : VHas Tryd.prog 42 [vWn w] (tup [.pointer Option.none, I 60]) H H :=
  (d_NewKeeper w H).mono fun o H' h => by
    rcases h with ⟨h1, _⟩ | ⟨_, h1, h2⟩
    · exact absurd h1 hw
    · exact ⟨h1, h2⟩
def DoR (w : Wn) (k k1 : Kp) (m e : Int) (h : SH) (b : Nat) (H : Heap) (v : Value) (H' : Heap) : Prop := ∃ h' oa' c' BM' BS, v = tup [I m, I e] ∧ H' = (b, blk (clKp h' w k1 oa' c') 155) :: (BM' ++ (BS ++ H)) ∧ OwnS 3 1 (.slice oa' k1.ms.length c') k1.ms.length (k1.ms.flatMap encI) BM' ∧ ∀ X, ScO X h k.s → ScO (BS ++ X) h' k1.s
theorem d_DoR {w : Wn} {k k1 : Kp} {m e : Int} {x : Lk} (hdo : doE w k x = (k1, m, e)) (h : SH) (oa : Option Addr) (c b : Nat) (BM : Heap) (oax : Option Addr) (cx : Nat) (H : Heap) [hgl : Glob H] [hsc : ScO H h k.s] (hsx : SlO H oax 5 clSg x.sg) (hw : okW w) (hK : KpI w k) (hown : OwnS 3 1 (.slice oa k.ms.length c) k.ms.length (k.ms.flatMap encI) BM) (hx : x.sg.length * 48 ≤ 140737488351232) (hxn : ∀ z ∈ x.sg, z.nm.size ≤ 9223372036854775807) :
    VCall Tryd.prog 44 [ptr b, .agg (clLk x oax cx).toArray].toArray ((b, blk (clKp h w k oa c) 155) :: (BM ++ H)) (fun o H' => ∃ v, o = .val v ∧ DoR w k k1 m e h b H v H') :=
  (d_Do h w k oa c b BM x oax cx H hw hK hown hx hxn).mono fun o H' ⟨h', oa', c', BM', BS, h1, h2, h3, h4⟩ => by
    rw [hdo] at h1 h2 h3 h4
    exact ⟨_, h1, h', oa', c', BM', BS, rfl, h2, h3, h4⟩
theorem do_no' {w : Wn} {k k1 : Kp} {m e : Int} {x : Lk} (hdo : doE w k x = (k1, m, e)) (he : e ≠ 0) : k1 = k ∧ m = 0 := by
  have := do_no (w := w) (k := k) (x := x) (by rw [hdo]; exact he)
  rw [hdo] at this; exact this
theorem do_is' {w : Wn} {k k1 : Kp} {m e : Int} {x : Lk} (hdo : doE w k x = (k1, m, e)) (he : ¬ e ≠ 0) : k1.s = withP k.s x ∧ k1.ms = k.ms ++ [m] ∧ (x.fire = false → m = 0) := by
  have := do_is (w := w) (k := k) (x := x) (by rw [hdo]; exact Classical.not_not.1 he)
  rw [hdo] at this; exact this
theorem KpI.step' {w : Wn} {k k1 : Kp} {m e : Int} {x : Lk} (h : KpI w k) (hdo : doE w k x = (k1, m, e)) : KpI w k1 := by
  have := h.step x
  rw [hdo] at this; exact this
section
end

end Go.Proofs.YtaplkoimhecacaaDoor
namespace Go.Proofs.YtaplkoimhecacaaDoor
open Go
set_option maxRecDepth 100000
open Go.ChangeShapes Go.WideShapes Go.ChangeAt Go.RowKit
section
variable {HH : Type} {enc : TypeId × Value → HH} {P : Program} {W : World}
theorem weightsAll_mem {e : TypeId} : ∀ {l : List (DataW HH)} {d : DataW HH}, d ∈ l → ∀ n ∈ d.weights P e, n ∈ DataW.weightsAll P e l
  | d' :: r, d, hd, n, hn => by
    simp only [DataW.weightsAll, List.mem_append]
    rcases List.mem_cons.1 hd with rfl | h
    · exact Or.inl hn
    · exact Or.inr (weightsAll_mem h n hn)
/-- A slice of things that decode, with what is said of its weight. -/
theorem slice_ofW {α : Type} {e t : TypeId} {ks : List CK} {n esz : Nat} {v : Value} {d : DataW HH} {ps : List MemPlace} {fuel : Nat} (ht : P.underlying t = some (.slice e)) (en : α → List Value) (Pr : α → Prop) (hk : flat P n e = some ks) (hs : P.cellsOf e = esz) (h0 : 0 < esz)
    (hw : ∀ m ∈ d.weights P t, m ≤ reachBytes)
    (dec : ∀ fuel row d ps, DataW.trod enc P W 0 (fun _ => true) true fuel e row = some (d, ps) → (∀ m ∈ d.weights P e, m ≤ reachBytes) → CellsAre enc P W ks row → row.length = esz → ∃ x, row = en x ∧ Pr x)
    (h : DataW.trod enc P W 0 (fun _ => true) true fuel t [v] = some (d, ps)) :
    ∃ (oa : Option Addr) (m c : Nat) (l : List α), v = .slice oa m c ∧ l.length = m ∧ m ≤ 9223372036854775807 ∧ m * P.bytesOf e ≤ reachBytes ∧ (∀ x ∈ l, Pr x) ∧ SlO (allH W) oa esz en l ∧ m ≤ c := by
  rcases DataW.trod_slice ht h with ⟨h1, _⟩ | ⟨a, len, cap, elems, rest, k, _, h1, h2, _, hlc, hcm, hel, hx, _⟩
  · have e : v = .slice Option.none 0 0 := by simpa using h1
    subst e
    exact ⟨Option.none, 0, 0, [], rfl, rfl, by omega, by omega, (fun x hx => by cases hx), SlO.nil, Nat.le_refl _⟩
  · have e : v = .slice (some a) len cap := by simpa using h1
    subst e
    simp only [Prod.mk.injEq] at h2
    obtain ⟨rfl, _⟩ := h2
    have hwl : len * P.bytesOf e ≤ reachBytes := by
      have := hw ((elems.length + rest.length) * P.bytesOf e) (by simp [DataW.weights, ht])
      rw [hel] at this
      exact Nat.le_trans (Nat.mul_le_mul_right _ (Nat.le_add_right _ _)) this
    obtain ⟨l, g1, g2⟩ := list_choose (Q := fun i x => Pr x ∧ (en x).length = esz ∧ ∀ j u, (en x)[j]? = some u → W.cell? (a.add (i * esz + j)) = some u) len fun i hi => by
      have hxi := hx i hi
      have hie : i < elems.length := by omega
      rw [List.getElem?_eq_getElem hie] at hxi
      cases hc : W.cells? 0 (a.add (i * P.cellsOf e)) (P.cellsOf e) with
      | none => rw [hc] at hxi; cases hxi
      | some row =>
        rw [hc] at hxi
        simp only [Option.bind_some] at hxi
        obtain ⟨k1, k2⟩ := cells?_get hc
        obtain ⟨x, rfl, hp⟩ := dec k row elems[i].1 elems[i].2 hxi (fun m hm => hw m (by
          simp only [DataW.weights, ht, List.mem_cons, List.mem_append]
          exact .inr (.inl (weightsAll_mem (List.mem_map.2 ⟨elems[i], List.getElem_mem hie, rfl⟩) m hm)))) (flat_cells n e ks k row _ _ hk hxi) (by rw [k1, hs])
        refine ⟨x, hp, by rw [k1, hs], fun j u hj => ?_⟩
        have := k2 j u hj
        rw [add_add, hs] at this; exact this
    refine ⟨some a, len, cap, l, rfl, g1, by unfold maxLen at hcm; omega, hwl, fun x hx => ?_, ⟨fun i x hi => ?_⟩, hlc⟩
    · obtain ⟨i, hi, e⟩ := List.mem_iff_getElem.1 hx
      exact (g2 i x (by rw [List.getElem?_eq_getElem hi, e])).1
    · obtain ⟨_, h3, h4⟩ := g2 i x hi
      refine ⟨h3, ?_⟩
      have hpos : 0 < (en x).length := by rw [h3]; exact h0
      obtain ⟨ob, hb, _⟩ := cell_block (h4 0 _ (List.getElem?_eq_getElem hpos))
      rw [add_block] at hb
      refine ⟨a, ob, rfl, allH_mem.2 hb, fun j u hj => ?_⟩
      have := h4 j u hj
      rw [← oCell_eq (w := W) (by rw [add_block]; exact hb)]; exact this
end


theorem fldLk : ∃ fs, Tryd.prog.underlying 95 = some (.struct fs) ∧ fs.size = 6 ∧ (fs[4]?).map (fun f => (f.type, f.offset)) = some (31, 18) ∧ fs.toList.map (·.type) = [55, 55, 4, 4, 31, 4] := ⟨_, Tryd.underlying95, by kernel_rfl, by kernel_rfl, by kernel_rfl⟩
section
variable {HH : Type} {enc : TypeId × Value → HH} {W : World}
theorem rd_looks {base : Nat} {v : Value} {d : DataW HH} {ps : List MemPlace} (h : DataW.Trod enc Tryd.prog W 0 (fun _ => true) true 88 v d ps) (hv : Value.okWide Tryd.prog W .any base 88 v) (hw : ∀ m ∈ d.weights Tryd.prog 88, m ≤ reachBytes) :
    ∃ (ol : Option Addr) (cl : Nat) (ls : List LkA), v = .slice ol ls.length cl ∧ ls.length ≤ 9223372036854775807 ∧ (∀ a ∈ ls, okLk (allH W) a) ∧ SlO (allH W) ol 20 encLk ls := by
  obtain ⟨a0, len, cap, rfl⟩ := okWide_slice Tryd.underlying88 hv
  obtain ⟨fuel, hf⟩ := h
  obtain ⟨ol, m, cl, ls, e, rfl, h2, _, h4, h5, _⟩ := slice_ofW (n := 9) (esz := 20) (ks := [.i, .i, .i, .i, .i, .i, .i, .i, .i, .i, .i, .i, .i, .i, .i, .i, .b, .b, .sl 49, .b]) Tryd.underlying88 encLk (okLk (allH W)) (by kernel_rfl) (by kernel_rfl) (by decide) hw (fun fuel row d ps hr hwr hc hl => by
    obtain ⟨x0, row, rfl, b0, hc⟩ := cells_i hc
    obtain ⟨x1, row, rfl, b1, hc⟩ := cells_i hc
    obtain ⟨x2, row, rfl, b2, hc⟩ := cells_i hc
    obtain ⟨x3, row, rfl, b3, hc⟩ := cells_i hc
    obtain ⟨x4, row, rfl, b4, hc⟩ := cells_i hc
    obtain ⟨x5, row, rfl, b5, hc⟩ := cells_i hc
    obtain ⟨x6, row, rfl, b6, hc⟩ := cells_i hc
    obtain ⟨x7, row, rfl, b7, hc⟩ := cells_i hc
    obtain ⟨x8, row, rfl, b8, hc⟩ := cells_i hc
    obtain ⟨x9, row, rfl, b9, hc⟩ := cells_i hc
    obtain ⟨x10, row, rfl, b10, hc⟩ := cells_i hc
    obtain ⟨x11, row, rfl, b11, hc⟩ := cells_i hc
    obtain ⟨x12, row, rfl, b12, hc⟩ := cells_i hc
    obtain ⟨x13, row, rfl, b13, hc⟩ := cells_i hc
    obtain ⟨x14, row, rfl, b14, hc⟩ := cells_i hc
    obtain ⟨x15, row, rfl, b15, hc⟩ := cells_i hc
    obtain ⟨y0, r1, e1, hc1⟩ := cells_bX hc
    subst e1
    obtain ⟨y1, r2, e2, hc2⟩ := cells_bX hc1
    subst e2
    obtain ⟨v18, r3, e3, _, hc3⟩ := cells_slX hc2
    subst e3
    obtain ⟨y2, r4, e4, hc4⟩ := cells_bX hc3
    subst e4
    have e5 := cells_nil hc4
    subst e5
    obtain ⟨fs, hu, hn6, hf4, hts⟩ := fldLk
    obtain ⟨xs, k, _, hx, _, hn, hfs⟩ := DataW.trod_struct hu hr
    simp only [Prod.mk.injEq] at hx
    obtain ⟨rfl, _⟩ := hx
    obtain ⟨f4, hf4, hf4'⟩ := Option.map_eq_some_iff.1 hf4
    simp only [Prod.mk.injEq] at hf4'
    obtain ⟨ht4, ho4⟩ := hf4'
    have g4 := hfs 4 f4 hf4
    rw [ht4, ho4, show Tryd.prog.cellsOf 31 = 1 by kernel_rfl] at g4
    have h4 : 4 < xs.length := by omega
    rw [List.getElem?_eq_getElem h4] at g4
    obtain ⟨oa, m, c, l, e, rfl, _, hwl, hpr, hsl, _⟩ := slice_ofW (n := 9) (esz := 5) (ks := [.i, .s, .i, .i, .i]) (v := v18) Tryd.underlying31 clSg okSgR (by kernel_rfl) (by kernel_rfl) (by decide) (fun m hm => hwr m (by
        simp only [DataW.weights, hu]
        rw [hts]
        exact DataW.weights_mem_each (j := 4) rfl (by rw [List.getElem?_map, List.getElem?_eq_getElem h4]; rfl) m hm)) (fun fuel row d ps _ _ hr hl => by
      obtain ⟨x0, row, rfl, b0, hr⟩ := cells_i hr
      obtain ⟨x1, row, rfl, b1, hr⟩ := cells_sX hr
      obtain ⟨x2, row, rfl, b2, hr⟩ := cells_i hr
      obtain ⟨x3, row, rfl, b3, hr⟩ := cells_i hr
      obtain ⟨x4, row, rfl, b4, hr⟩ := cells_i hr
      obtain rfl := cells_nil hr
      exact ⟨⟨x0, x1, x2, x3, x4⟩, rfl, b0, b1, b2, b3, b4⟩) g4
    subst e
    rw [show Tryd.prog.bytesOf 49 = 48 by kernel_rfl] at hwl
    exact ⟨⟨⟨⟨⟨x0, x1⟩, ⟨x2, x3⟩, ⟨x4, x5⟩, ⟨x6, x7⟩⟩, ⟨⟨x8, x9⟩, ⟨x10, x11⟩, ⟨x12, x13⟩, ⟨x14, x15⟩⟩, y0, y1, l, y2⟩, oa, c⟩, rfl, hsl, hwl, fun z hz => (hpr z hz).2.1⟩) hf
  exact ⟨ol, cl, ls, e, h2, h4, h5⟩
end

end Go.Proofs.YtaplkoimhecacaaDoor
namespace Go.Proofs.YtaplkoimhecacaaDoor
open Go
set_option maxRecDepth 100000

attribute [local irreducible] tightP hullP rootP farP rows endsOf
instance tFgLk5 : TFg Tryd.prog 95 5 19 := mkTFg (by kernel_rfl)
section
variable {P : Program} {N : Nat} {E : Env} {D : List Deferred} {H : Heap} {d : Nat} {x y : Operand} {T ty : TypeId} {pos : String} {af : Array Edge} {g : Option (Nat × Bool)}
theorem veqpNN {T' e : TypeId} (hT : P.underlying T = some (.pointer e)) (hx : ev E x = some (.pointer Option.none)) (hy : ev E y = some (.pointer Option.none)) :
    OQ P N E D H ⟨some d, .binOp .eql T x y T', ty, pos, af, g⟩ (.bool true) :=
  ov (by simp) (fun t w hA _ => by
    have h1 : ∀ n, (Op.equalIn (n + 1) T (.pointer Option.none) (.pointer Option.none)).run P w = .ok true w := fun n => by simp [Op.equalIn, run_underlying hT]
    have h2 : (Op.equal T (.pointer Option.none) (.pointer Option.none)).run P w = .ok true w := h1 9999
    simp [execOp, ev_eval hA hx, ev_eval hA hy, eqGuard, binOp, h2])
end
theorem q_JudgeV {w : Wn} {h : SH} {s : Sc} {ms : List Int} {oa : Option Addr} {c n : Nat} {H : Heap} [hsc : ScO H h s] [hgl : Glob H] [hms : SlO H oa 1 encI ms] {a b e : Int} (hj : judgeE w s ms = (a, b, e)) (hn : ms.length = n) (hm : n ≤ 100000) : VHas Tryd.prog 18 [vWn w, vSc h s, .slice oa n c] (tup [I a, I b, I e]) H H := by
  subst hn
  have := c_Judge w h s H ms oa c (by omega)
  rw [hj] at this; exact this
section
open Classical in
theorem pmH1 (N A B R : Heap) : (N ++ (A ++ (B ++ R))).Perm (A ++ (B ++ (N ++ R))) := perm_of fun a => by simp only [List.count_append]; omega
theorem pmH2 (N A B S1 W S R : Heap) : (N ++ (A ++ (B ++ (S1 ++ (W ++ (S ++ R)))))).Perm ((A ++ (B ++ ((S1 ++ S) ++ R))) ++ (N ++ W)) := perm_of fun a => by simp only [List.count_append]; omega
theorem pmH3 (X N A B S1 W S R : Heap) : ((X ++ []) ++ (N ++ (A ++ (B ++ (S1 ++ (W ++ (S ++ R))))))).Perm ((A ++ (B ++ ((S1 ++ S) ++ R))) ++ (X ++ (N ++ W))) := perm_of fun a => by simp only [List.count_append, List.count_nil]; omega
end

/-- paravane/paravaneref00.Own -/
theorem d_OwnI (l : List Int) (oa : Option Addr) (n c : Nat) (hn : l.length = n) (hmax : n ≤ 100000) (H : Heap) [hsl : SlO H oa 1 encI l] : VCall Tryd.prog 47 [sli oa n c].toArray H (fun o H' => ∃ v, o = .val v ∧ ∃ B, H' = B ++ H ∧ ∃ oa' c', v = .slice oa' n c' ∧ OwnS 3 1 (.slice oa' n c') n (l.flatMap encI) B) := by
 refine vcall_of_vrun Tryd.func47 rfl (N := 7) rfl rfl ?_
 refine vseq ?_
 refine vregion ?_
 refine vone rfl (vxq (vas rfl) rfl rfl ?_)
 refine vnil ?_
 refine vseq ?_
 refine vregion ?_
 refine vone rfl (vxq (vas rfl) rfl rfl ?_)
 refine vnil ?_
 refine vseq ?_
 refine vregion ?_
 refine vone rfl (vxq (vmv rfl) rfl rfl ?_)
 refine vone rfl (vxq (vmv rfl) rfl rfl ?_)
 refine vone rfl (vxg (vappL (F := fun C => C ++ H) (H0 := H) (B := []) (xs := []) (enc := encI) (l := l) (fun C => .refl _) rfl rfl OwnS.nil (by exact hsl) hn encI_len (by decide) (one1 (fun _ => rfl) l) (by simp only [maxLen]; omega) (by omega)) rfl rfl ?_)
 rintro _ _ ⟨B', hown, rfl⟩
 rw [Nat.zero_add, List.nil_append] at hown
 obtain ⟨oa', c', rfl, hle⟩ := hown.shape
 refine vone rfl (vxq (vas rfl) rfl rfl ?_)
 refine vnil ?_
 refine vret (vr1 (H' := B' ++ H) Tryd.func47 rfl (.tmp rfl) sb2 ?_)
 exact ⟨_, rfl, B', rfl, oa', c', rfl, hown⟩
set_option maxHeartbeats 4000000 in
/-- paravane/paravanelaw06.WatchHeld -/
theorem w_Held (w : Wn) (ol : Option Addr) (cl : Nat) (ls : List LkA) (H : Heap) [hgl : Glob H] [hsl : SlO H ol 20 encLk ls] (hll : ls.length ≤ 9223372036854775807) (hls : ∀ a ∈ ls, okLk H a) : VHas Tryd.prog 13 [vWn w, .slice ol ls.length cl] (.bool true) H H := by
 refine vcall_of_vrun Tryd.func13 rfl (N := 156) rfl rfl ?_
 refine vseq ?_
 refine vregion ?_
 refine vone rfl (vxa (vbox rfl rfl) rfl rfl (fun b1 => ?_))
 refine vone rfl (vxq (vas rfl) rfl rfl ?_)
 refine vnil ?_
 refine vseq ?_
 refine vregion ?_
 refine vone rfl (vxq (vldn rfl rfl) rfl rfl ?_)
 rcases Classical.em (okW w) with hw | hw
 ·
  have hww := hw
  unfold okW at hww
  refine vone rfl (vxg (vcg (R := fun v H' => ∃ b, v = tup [ptr b, I 0] ∧ H' = (b, blk (clKp sh0 w kp0 Option.none 0) 155) :: ((b1, blk (clWn w) 23) :: H)) rfl rfl rfl (d_NewOk hw _) (fun o H' ⟨b, h1, h2⟩ => ⟨_, h1, b, rfl, h2⟩)) rfl rfl ?_)
  rintro _ _ ⟨ba, rfl, rfl⟩
  refine vone rfl (vxq (vmv rfl) rfl rfl ?_)
  refine vone rfl (vxq (vex rfl rfl) rfl rfl ?_)
  refine vone rfl (vxq (vex rfl rfl) rfl rfl ?_)
  refine vone rfl (vxq (vas rfl) rfl rfl ?_)
  refine vone rfl (vxq (vas rfl) rfl rfl ?_)
  refine vnil ?_
  refine vseq ?_
  refine vseq ?_
  refine vregion ?_
  refine vone rfl (vxq (vmv rfl) rfl rfl ?_)
  refine vone rfl (vxq (vneq rfl rfl) rfl rfl ?_)
  refine vknow (d := 24) (b' := false) rfl (decide_eq_false (fun e => e rfl)) ?_
  refine vone rfl (vxq (vmv rfl) rfl rfl ?_)
  refine vyes rfl rfl rfl (vxq (vmv rfl) rfl rfl ?_)
  refine vyes rfl rfl rfl (vxq (veqpN (e := 155) (by kernel_rfl) rfl rfl) rfl rfl ?_)
  refine vknow (d := 27) (b' := false) rfl rfl ?_
  refine vone rfl (vxq (vpkf rfl rfl) rfl rfl ?_)
  refine vnil ?_
  refine vcondf rfl ?_
  refine vskip ?_
  refine vseq ?_
  refine vseq ?_
  refine vregion ?_
  refine vone rfl (vxq (vas rfl) rfl rfl ?_)
  refine vnil ?_
  refine vblock ?_
  refine vwhile (σ := Nat × Kp × SH × Option Addr × Nat × Heap × Heap) (fun ⟨i, k, h, oa, c, BA, S⟩ => ls.length - i) (fun ⟨i, k, h, oa, c, BA, S⟩ => [(1, .slice ol ls.length cl), (2, ptr b1), (5, ptr ba), (7, I (i : Int))]) (fun ⟨i, k, h, oa, c, BA, S⟩ => (ba, blk (clKp h w k oa c) 155) :: (BA ++ (S ++ ((b1, blk (clWn w) 23) :: H)))) (fun ⟨i, k, h, oa, c, BA, S⟩ => i ≤ ls.length ∧ KpI w k ∧ OwnS 3 1 (.slice oa k.ms.length c) k.ms.length (k.ms.flatMap encI) BA ∧ ScO S h k.s) (0, kp0, sh0, Option.none, 0, [], []) ⟨Nat.zero_le _, KpI.zero w, OwnS.nil, sc0 _⟩ ⟨rfl, rfl, rfl, rfl, True.intro⟩ sb2 ?_
  rintro ⟨i, k, h, oa, c, BA, S⟩ ⟨hil, hK, hoA, hsA⟩ IH
  change VRun _ _ _ _ _ [(1, .slice ol ls.length cl), (2, ptr b1), (5, ptr ba), (7, I (i : Int))] _ ((ba, blk (clKp h w k oa c) 155) :: (BA ++ (S ++ ((b1, blk (clWn w) 23) :: H)))) _
  have hKb := hK.bd
  have hKl := hK.len
  haveI hmA : SlO BA oa 1 encI k.ms := OwnS.slo (enc := encI) hoA encI_len (by decide) rfl rfl
  refine vseq ?_
  refine vseq ?_
  apply vjoin (C := True) (E' := [(5, ptr ba)]) (H' := (ba, blk (clKp h w k oa c) 155) :: (BA ++ (S ++ ((b1, blk (clWn w) 23) :: H))))
  ·
   intro hJ45
   refine vregion ?_
   refine vone rfl (vxq (vmv rfl) rfl rfl ?_)
   refine vone rfl (vxq (vmv rfl) rfl rfl ?_)
   refine vone rfl (vxq (vlen rfl) rfl rfl ?_)
   refine vone rfl (vxq (vlss rfl rfl) rfl rfl ?_)
   refine vone rfl (vxq (vmv rfl) rfl rfl ?_)
   refine vsplitd (d := 42) rfl (fun h42 => ?_) (fun h42 => ?_)
   ·
    refine vyes rfl rfl rfl (vxq (vmv rfl) rfl rfl ?_)
    refine vyes rfl rfl rfl (vxq (vlss rfl rfl) rfl rfl ?_)
    refine vone rfl (vxq (vpkt rfl rfl) rfl rfl ?_)
    refine vnil ?_
    refine vcondd rfl (fun h45 => ?_) (fun h45 => ?_)
    ·
     obtain ⟨a, hz⟩ := get_of_lt ls (i := i) (by omega)
     have hla := hls a (List.mem_of_getElem? hz)
     obtain ⟨k1, m, e, hdo⟩ : ∃ k1 m e, doE w k a.x = (k1, m, e) := ⟨_, _, _, rfl⟩
     refine vskip ?_
     refine vseq ?_
     refine vblock ?_
     refine vseq ?_
     refine vregion ?_
     refine vone rfl (vxq (vmv rfl) rfl rfl ?_)
     refine vone rfl (vxg (vcg rfl rfl rfl (d_Modes h w k oa c ba _ (by omega)) (fun o H' h => h)) rfl rfl ?_)
     rintro _ _ ⟨BW, rfl, ⟨ow, cw, rfl, hoW⟩⟩
     haveI hsW : SlO BW ow 1 encI k.ms := OwnS.slo (enc := encI) hoW encI_len (by decide) rfl rfl
     refine vone rfl (vxq (vas rfl) rfl rfl ?_)
     refine vnil ?_
     refine vseq ?_
     refine vregion ?_
     refine vone rfl (vxq (vmv rfl) rfl rfl ?_)
     refine vone rfl (vxq (vmv rfl) rfl rfl ?_)
     refine vone rfl (vxq (vmv rfl) rfl rfl ?_)
     refine vone rfl (vxq (visg (enc := encLk) rfl rfl (by omega) hz) rfl rfl ?_)
     refine vone rfl (vxq (vldS (enc := encLk) rfl hz) rfl rfl ?_)
     refine vone rfl (vxg (vcg (R := DoR w k k1 m e h ba (BW ++ (S ++ ((b1, blk (clWn w) 23) :: H)))) rfl rfl rfl (VCall.perm (pmH1 BW [(ba, blk (clKp h w k oa c) 155)] BA (S ++ ((b1, blk (clWn w) 23) :: H))) (d_DoR hdo h oa c ba BA a.oa a.c (BW ++ (S ++ ((b1, blk (clWn w) 23) :: H))) (hla.1.sub (fun y hy => by simp [hy])) hw hK hoA hla.2.1 hla.2.2)) (fun o H' ⟨v, h1, h2⟩ => ⟨v, h1, h2⟩)) rfl rfl ?_)
     rintro _ _ ⟨h1, oa1, c1, BA1, S1, rfl, rfl, hoA1, hsA1⟩
     haveI hmA1 : SlO BA1 oa1 1 encI k1.ms := OwnS.slo (enc := encI) hoA1 encI_len (by decide) rfl rfl
     have hK1 := hK.step' hdo
     have hK1b := hK1.bd
     have hK1l := hK1.len
     refine vone rfl (vxq (vmv rfl) rfl rfl ?_)
     refine vone rfl (vxq (vex rfl rfl) rfl rfl ?_)
     refine vone rfl (vxq (vex rfl rfl) rfl rfl ?_)
     refine vone rfl (vxq (vas rfl) rfl rfl ?_)
     refine vone rfl (vxq (vas rfl) rfl rfl ?_)
     refine vnil ?_
     refine vseq ?_
     refine vregion ?_
     refine vone rfl (vxq (vmv rfl) rfl rfl ?_)
     refine vone rfl (vxg (vcg rfl rfl rfl (d_Modes h1 w k1 oa1 c1 ba _ (by omega)) (fun o H' h => h)) rfl rfl ?_)
     rintro _ _ ⟨BN, rfl, ⟨on, cn, rfl, hoN⟩⟩
     haveI hsN : SlO BN on 1 encI k1.ms := OwnS.slo (enc := encI) hoN encI_len (by decide) rfl rfl
     refine vone rfl (vxq (vas rfl) rfl rfl ?_)
     refine vnil ?_
     refine vseq ?_
     refine vseq ?_
     refine vregion ?_
     refine vone rfl (vxq (vmv rfl) rfl rfl ?_)
     refine vone rfl (vxq (vneq rfl rfl) rfl rfl ?_)
     refine vnil ?_
     refine vcondd rfl (fun h62 => ?_) (fun h62 => ?_)
     ·
      obtain ⟨hk1, hm0⟩ := do_no' hdo h62
      subst k1
      subst m
      refine vseq ?_
      refine vseq ?_
      refine vregion ?_
      refine vone rfl (vxq (vmv rfl) rfl rfl ?_)
      refine vone rfl (vxq (vneq rfl rfl) rfl rfl ?_)
      refine vknow (d := 64) (b' := false) rfl (decide_eq_false (fun e => e rfl)) ?_
      refine vone rfl (vxq (vmv rfl) rfl rfl ?_)
      refine vyes rfl rfl rfl (vxq (vmv rfl) rfl rfl ?_)
      refine vyes rfl rfl rfl (vxq (vmv rfl) rfl rfl ?_)
      refine vyes rfl rfl rfl (vxq (vcq rfl rfl rfl (c_AlikeI k.ms k.ms _ _ _ _ _ _ rfl rfl (by omega) _)) rfl rfl ?_)
      refine vknow (d := 68) (b' := true) rfl (decide_eq_true rfl) ?_
      refine vyes rfl rfl rfl (vxq (vnot rfl) rfl rfl ?_)
      refine vone rfl (vxq (vpkf rfl rfl) rfl rfl ?_)
      refine vnil ?_
      refine vcondf rfl ?_
      refine vskip ?_
      refine vexit (k' := _) rfl ?_
      refine vregion ?_
      refine vone rfl (vxq (vmv rfl) rfl rfl ?_)
      refine vone rfl (vxq (vadd rfl rfl (by unfold InR; omega)) rfl rfl ?_)
      refine vone rfl (vxq (vas rfl) rfl rfl ?_)
      refine vnil ?_
      refine VRun.perm (H' := ((ba, blk (clKp h1 w k oa1 c1) 155) :: (BA1 ++ ((S1 ++ S) ++ ((b1, blk (clWn w) 23) :: H)))) ++ (BN ++ BW)) (pmH2 BN [(ba, blk (clKp h1 w k oa1 c1) 155)] BA1 S1 BW S ((b1, blk (clWn w) 23) :: H)) ?_
      refine VRun.sub (List.sublist_append_left _ _) ?_
      exact vback (IH (i + 1, k, h1, oa1, c1, BA1, S1 ++ S) ⟨by omega, hK, hoA1, hsA1 S hsA⟩ (by show _ - (i + 1) < _ - i; omega)) ⟨rfl, rfl, rfl, rfl, True.intro⟩ sb2
     ·
      obtain ⟨hk1s, hk1m, hmf⟩ := do_is' hdo h62
      have hlen : (k1.ms.length : Int) = k.ms.length + 1 := by rw [hk1m]; simp
      have hnl : k1.ms[k.ms.length]? = some m := by rw [hk1m]; simp
      have hjk := hK1.judge (by rw [hk1m]; simp)
      haveI hscT : ScO (S1 ++ (BW ++ (S ++ ((b1, blk (clWn w) 23) :: H)))) h1 k1.s := (hsA1 S hsA).sub (fun y hy => by simp only [List.mem_append] at hy ⊢; rcases hy with hy | hy <;> simp [hy])
      refine vskip ?_
      refine vseq ?_
      refine vseq ?_
      refine vregion ?_
      refine vone rfl (vxq (vmv rfl) rfl rfl ?_)
      refine vone rfl (vxq (vlen rfl) rfl rfl ?_)
      refine vone rfl (vxq (vmv rfl) rfl rfl ?_)
      refine vone rfl (vxq (vlen rfl) rfl rfl ?_)
      refine vone rfl (vxq (vadd rfl rfl (by unfold InR; omega)) rfl rfl ?_)
      refine vone rfl (vxq (vneq rfl rfl) rfl rfl ?_)
      refine vknow (d := 76) (b' := false) rfl (decide_eq_false (by omega)) ?_
      refine vone rfl (vxq (vmv rfl) rfl rfl ?_)
      refine vyes rfl rfl rfl (vxq (vmv rfl) rfl rfl ?_)
      refine vyes rfl rfl rfl (vxq (vmv rfl) rfl rfl ?_)
      refine vyes rfl rfl rfl (vxq (vlen rfl) rfl rfl ?_)
      refine vyes rfl rfl rfl (vxq (visg (enc := encI) rfl rfl (by omega) hnl) rfl rfl ?_)
      refine vyes rfl rfl rfl (vxq (vldS1 (enc := encI) rfl hnl rfl) rfl rfl ?_)
      refine vyes rfl rfl rfl (vxq (vmv rfl) rfl rfl ?_)
      refine vyes rfl rfl rfl (vxq (vneq rfl rfl) rfl rfl ?_)
      refine vknow (d := 84) (b' := false) rfl (decide_eq_false (fun e => e rfl)) ?_
      refine vone rfl (vxq (vpkf rfl rfl) rfl rfl ?_)
      refine vone rfl (vxq (vmv rfl) rfl rfl ?_)
      refine vyes rfl rfl rfl (vxq (vmv rfl) rfl rfl ?_)
      refine vyes rfl rfl rfl (vxq (vmv rfl) rfl rfl ?_)
      refine vyes rfl rfl rfl (vxq (visg (enc := encLk) rfl rfl (by omega) hz) rfl rfl ?_)
      refine vyes rfl rfl rfl (vxq (vfaS (enc := encLk) rfl hz) rfl rfl ?_)
      refine vyes rfl rfl rfl (vxq (vldSf (enc := encLk) rfl hz rfl) rfl rfl ?_)
      refine vyes rfl rfl rfl (vxq (vnot rfl) rfl rfl ?_)
      refine vyes rfl rfl rfl (vxq (vmv rfl) rfl rfl ?_)
      refine vsplit (d := 93) rfl (fun h93 => ?_) (fun h93 => ?_)
      ·
       refine vyes rfl rfl rfl (vxq (vmv rfl) rfl rfl ?_)
       refine vyes rfl rfl rfl (vxq (vneq rfl rfl) rfl rfl ?_)
       refine vknow (d := 95) (b' := false) rfl (decide_eq_false (fun e => e (hmf (nf h93)))) ?_
       refine vyes rfl rfl rfl (vxq (vpkt rfl rfl) rfl rfl ?_)
       refine vone rfl (vxq (vpkf rfl rfl) rfl rfl ?_)
       refine vnil ?_
       refine vcondf rfl ?_
       refine vskip ?_
       refine vseq ?_
       refine vdraw0 [(.q, 0), (.q, 1), (.q, 3), (.g, 2), (.n, 4), (.q, 5), (.q, 6), (.q, 7), (.q, 8), (.q, 9), (.q, 10), (.q, 11)] Tryd.mixed (by kernel_rfl) (by kernel_rfl) ?_
       refine vdq (mone rfl) (vldn rfl rfl) rfl rfl ?_
       refine vdq (mone rfl) (vmv rfl) rfl rfl ?_
       refine vdq (mone rfl) (vmv rfl) rfl rfl ?_
       refine vdgl rfl (mone rfl) (vcg rfl rfl rfl (d_Scene h1 w k1 oa1 c1 ba _ (by omega)) (fun o H' h => h)) rfl rfl ?_
       rintro _ BS1 ⟨hs1, rfl, hscS⟩
       refine vdn (appHO_of _ _) (mone rfl) (vcq rfl rfl rfl (q_JudgeV hjk rfl (by omega))) rfl rfl ?_
       refine vdq (mone rfl) (vmv rfl) rfl rfl ?_
       refine vdq (mone rfl) (vex rfl rfl) rfl rfl ?_
       refine vdq (mone rfl) (vex rfl rfl) rfl rfl ?_
       refine vdq (mone rfl) (vex rfl rfl) rfl rfl ?_
       refine vdq (mone rfl) (vas rfl) rfl rfl ?_
       refine vdq (mone rfl) (vas rfl) rfl rfl ?_
       refine vdq (mone rfl) (vas rfl) rfl rfl ?_
       refine vdend (appHO_of _ _) ?_
       refine vseq ?_
       refine vseq ?_
       refine vregion ?_
       refine vone rfl (vxq (vmv rfl) rfl rfl ?_)
       refine vone rfl (vxq (vneq rfl rfl) rfl rfl ?_)
       refine vknow (d := 108) (b' := false) rfl (decide_eq_false (fun e => e rfl)) ?_
       refine vone rfl (vxq (vmv rfl) rfl rfl ?_)
       refine vyes rfl rfl rfl (vxq (vmv rfl) rfl rfl ?_)
       refine vyes rfl rfl rfl (vxq (vneq rfl rfl) rfl rfl ?_)
       refine vknow (d := 111) (b' := false) rfl (decide_eq_false (fun e => e rfl)) ?_
       refine vone rfl (vxq (vpkf rfl rfl) rfl rfl ?_)
       refine vone rfl (vxq (vmv rfl) rfl rfl ?_)
       refine vyes rfl rfl rfl (vxq (vmv rfl) rfl rfl ?_)
       refine vyes rfl rfl rfl (vxq (vmv rfl) rfl rfl ?_)
       refine vyes rfl rfl rfl (vxq (vlen rfl) rfl rfl ?_)
       refine vyes rfl rfl rfl (vxq (vneq rfl rfl) rfl rfl ?_)
       refine vknow (d := 117) (b' := false) rfl (decide_eq_false (fun e => e rfl)) ?_
       refine vone rfl (vxq (vpkf rfl rfl) rfl rfl ?_)
       refine vnil ?_
       refine vcondf rfl ?_
       refine vskip ?_
       refine vseq ?_
       refine vseq ?_
       refine vregion ?_
       refine vone rfl (vxq (vmv rfl) rfl rfl ?_)
       refine vone rfl (vxq (vmv rfl) rfl rfl ?_)
       refine vone rfl (vxq (visg (enc := encLk) rfl rfl (by omega) hz) rfl rfl ?_)
       refine vone rfl (vxq (vfaS (enc := encLk) rfl hz) rfl rfl ?_)
       refine vone rfl (vxq (vldSf (enc := encLk) rfl hz rfl) rfl rfl ?_)
       refine vone rfl (vxq (vnot rfl) rfl rfl ?_)
       refine vknow (d := 124) (b' := true) rfl h93 ?_
       refine vone rfl (vxq (vmv rfl) rfl rfl ?_)
       refine vno rfl rfl rfl rfl rfl ?_
       refine vno rfl rfl rfl rfl rfl ?_
       refine vone rfl (vxq (vpkt rfl rfl) rfl rfl ?_)
       refine vnil ?_
       refine vcondt rfl ?_
       refine vexit (k' := _) rfl ?_
       refine vregion ?_
       refine vone rfl (vxq (vmv rfl) rfl rfl ?_)
       refine vone rfl (vxq (vadd rfl rfl (by unfold InR; omega)) rfl rfl ?_)
       refine vone rfl (vxq (vas rfl) rfl rfl ?_)
       refine vnil ?_
       refine VRun.perm (H' := ((ba, blk (clKp h1 w k1 oa1 c1) 155) :: (BA1 ++ ((S1 ++ S) ++ ((b1, blk (clWn w) 23) :: H)))) ++ (BS1 ++ (BN ++ BW))) (pmH3 BS1 BN [(ba, blk (clKp h1 w k1 oa1 c1) 155)] BA1 S1 BW S ((b1, blk (clWn w) 23) :: H)) ?_
       refine VRun.sub (List.sublist_append_left _ _) ?_
       exact vback (IH (i + 1, k1, h1, oa1, c1, BA1, S1 ++ S) ⟨by omega, hK1, hoA1, hsA1 S hsA⟩ (by show _ - (i + 1) < _ - i; omega)) ⟨rfl, rfl, rfl, rfl, True.intro⟩ sb2
      ·
       refine vno rfl rfl rfl rfl rfl ?_
       refine vno rfl rfl rfl rfl rfl ?_
       refine vyes rfl rfl rfl (vxq (vpkf rfl rfl) rfl rfl ?_)
       refine vone rfl (vxq (vpkf rfl rfl) rfl rfl ?_)
       refine vnil ?_
       refine vcondf rfl ?_
       refine vskip ?_
       refine vseq ?_
       refine vdraw0 [(.q, 0), (.q, 1), (.q, 3), (.g, 2), (.n, 4), (.q, 5), (.q, 6), (.q, 7), (.q, 8), (.q, 9), (.q, 10), (.q, 11)] Tryd.mixed (by kernel_rfl) (by kernel_rfl) ?_
       refine vdq (mone rfl) (vldn rfl rfl) rfl rfl ?_
       refine vdq (mone rfl) (vmv rfl) rfl rfl ?_
       refine vdq (mone rfl) (vmv rfl) rfl rfl ?_
       refine vdgl rfl (mone rfl) (vcg rfl rfl rfl (d_Scene h1 w k1 oa1 c1 ba _ (by omega)) (fun o H' h => h)) rfl rfl ?_
       rintro _ BS1 ⟨hs1, rfl, hscS⟩
       refine vdn (appHO_of _ _) (mone rfl) (vcq rfl rfl rfl (q_JudgeV hjk rfl (by omega))) rfl rfl ?_
       refine vdq (mone rfl) (vmv rfl) rfl rfl ?_
       refine vdq (mone rfl) (vex rfl rfl) rfl rfl ?_
       refine vdq (mone rfl) (vex rfl rfl) rfl rfl ?_
       refine vdq (mone rfl) (vex rfl rfl) rfl rfl ?_
       refine vdq (mone rfl) (vas rfl) rfl rfl ?_
       refine vdq (mone rfl) (vas rfl) rfl rfl ?_
       refine vdq (mone rfl) (vas rfl) rfl rfl ?_
       refine vdend (appHO_of _ _) ?_
       refine vseq ?_
       refine vseq ?_
       refine vregion ?_
       refine vone rfl (vxq (vmv rfl) rfl rfl ?_)
       refine vone rfl (vxq (vneq rfl rfl) rfl rfl ?_)
       refine vknow (d := 108) (b' := false) rfl (decide_eq_false (fun e => e rfl)) ?_
       refine vone rfl (vxq (vmv rfl) rfl rfl ?_)
       refine vyes rfl rfl rfl (vxq (vmv rfl) rfl rfl ?_)
       refine vyes rfl rfl rfl (vxq (vneq rfl rfl) rfl rfl ?_)
       refine vknow (d := 111) (b' := false) rfl (decide_eq_false (fun e => e rfl)) ?_
       refine vone rfl (vxq (vpkf rfl rfl) rfl rfl ?_)
       refine vone rfl (vxq (vmv rfl) rfl rfl ?_)
       refine vyes rfl rfl rfl (vxq (vmv rfl) rfl rfl ?_)
       refine vyes rfl rfl rfl (vxq (vmv rfl) rfl rfl ?_)
       refine vyes rfl rfl rfl (vxq (vlen rfl) rfl rfl ?_)
       refine vyes rfl rfl rfl (vxq (vneq rfl rfl) rfl rfl ?_)
       refine vknow (d := 117) (b' := false) rfl (decide_eq_false (fun e => e rfl)) ?_
       refine vone rfl (vxq (vpkf rfl rfl) rfl rfl ?_)
       refine vnil ?_
       refine vcondf rfl ?_
       refine vskip ?_
       refine vseq ?_
       refine vseq ?_
       refine vregion ?_
       refine vone rfl (vxq (vmv rfl) rfl rfl ?_)
       refine vone rfl (vxq (vmv rfl) rfl rfl ?_)
       refine vone rfl (vxq (visg (enc := encLk) rfl rfl (by omega) hz) rfl rfl ?_)
       refine vone rfl (vxq (vfaS (enc := encLk) rfl hz) rfl rfl ?_)
       refine vone rfl (vxq (vldSf (enc := encLk) rfl hz rfl) rfl rfl ?_)
       refine vone rfl (vxq (vnot rfl) rfl rfl ?_)
       refine vknow (d := 124) (b' := false) rfl h93 ?_
       refine vone rfl (vxq (vmv rfl) rfl rfl ?_)
       refine vyes rfl rfl rfl (vxq (vmv rfl) rfl rfl ?_)
       refine vyes rfl rfl rfl (vxq (vneq rfl rfl) rfl rfl ?_)
       refine vone rfl (vxq (vpkf rfl rfl) rfl rfl ?_)
       refine vnil ?_
       refine vcondd rfl (fun h128 => ?_) (fun h128 => ?_)
       ·
        refine vexit (k' := _) rfl ?_
        refine vregion ?_
        refine vone rfl (vxq (vmv rfl) rfl rfl ?_)
        refine vone rfl (vxq (vadd rfl rfl (by unfold InR; omega)) rfl rfl ?_)
        refine vone rfl (vxq (vas rfl) rfl rfl ?_)
        refine vnil ?_
        refine VRun.perm (H' := ((ba, blk (clKp h1 w k1 oa1 c1) 155) :: (BA1 ++ ((S1 ++ S) ++ ((b1, blk (clWn w) 23) :: H)))) ++ (BS1 ++ (BN ++ BW))) (pmH3 BS1 BN [(ba, blk (clKp h1 w k1 oa1 c1) 155)] BA1 S1 BW S ((b1, blk (clWn w) 23) :: H)) ?_
        refine VRun.sub (List.sublist_append_left _ _) ?_
        exact vback (IH (i + 1, k1, h1, oa1, c1, BA1, S1 ++ S) ⟨by omega, hK1, hoA1, hsA1 S hsA⟩ (by show _ - (i + 1) < _ - i; omega)) ⟨rfl, rfl, rfl, rfl, True.intro⟩ sb2
       ·
        refine vskip ?_
        refine vseq ?_
        refine vregion ?_
        refine vone rfl (vxq (vas rfl) rfl rfl ?_)
        refine vnil ?_
        refine vblock ?_
        refine vwhile (σ := Nat) (fun j => w.soft.toNat + 2 - j) (fun j => [(1, .slice ol ls.length cl), (2, ptr b1), (5, ptr ba), (7, I (i : Int)), (8, .slice ow k.ms.length cw), (14, I (j : Int))]) (fun j => (BS1 ++ []) ++ (BN ++ ((ba, blk (clKp h1 w k1 oa1 c1) 155) :: (BA1 ++ (S1 ++ (BW ++ (S ++ ((b1, blk (clWn w) 23) :: H)))))))) (fun j => 1 ≤ j ∧ (j : Int) ≤ w.soft + 2) 1 ⟨Nat.le_refl _, by omega⟩ ⟨rfl, rfl, rfl, rfl, rfl, rfl, True.intro⟩ sb2 ?_
        rintro j ⟨hj1, hj2⟩ IH1
        change VRun _ _ _ _ _ [(1, .slice ol ls.length cl), (2, ptr b1), (5, ptr ba), (7, I (i : Int)), (8, .slice ow k.ms.length cw), (14, I (j : Int))] _ ((BS1 ++ []) ++ (BN ++ ((ba, blk (clKp h1 w k1 oa1 c1) 155) :: (BA1 ++ (S1 ++ (BW ++ (S ++ ((b1, blk (clWn w) 23) :: H)))))))) _
        refine vseq ?_
        refine vseq ?_
        refine vregion ?_
        refine vone rfl (vxq (vmv rfl) rfl rfl ?_)
        refine vone rfl (vxq (vfa rfl) rfl rfl ?_)
        refine vone rfl (vxq (vld1 rfl rfl) rfl rfl ?_)
        refine vone rfl (vxq (vadd rfl rfl (by unfold InR; omega)) rfl rfl ?_)
        refine vone rfl (vxq (vleq rfl rfl) rfl rfl ?_)
        refine vnil ?_
        refine vcondd rfl (fun h133 => ?_) (fun h133 => ?_)
        ·
         obtain ⟨hd3, hde⟩ := do_ok (w := w) (k := k) (x := a.x) (by rw [hdo]; exact Classical.not_not.1 h62)
         obtain ⟨ja, jb, hjn, hjb⟩ := hK.none hd3 hde (nt h93) (by rw [hdo]; exact Classical.not_not.1 h128) (n := (j : Int)) (by omega) (by omega)
         rw [← hk1s] at hjn
         refine vskip ?_
         refine vseq ?_
         refine vblock ?_
         refine vseq ?_
         refine vdraw0 [(.q, 0), (.q, 1), (.q, 3), (.q, 5), (.g, 2), (.g, 4), (.m, 6), (.s, 7), (.n, 8), (.q, 9), (.q, 10), (.q, 11), (.q, 12), (.q, 13), (.q, 14), (.q, 15)] Tryd.mixed (by kernel_rfl) (by kernel_rfl) ?_
         refine vdq (mone rfl) (vldn rfl rfl) rfl rfl ?_
         refine vdq (mone rfl) (vmv rfl) rfl rfl ?_
         refine vdq (mone rfl) (vmv rfl) rfl rfl ?_
         refine vdq (mone rfl) (vmv rfl) rfl rfl ?_
         refine vdgl rfl (mone rfl) (vcg rfl rfl rfl (d_Scene h1 w k1 oa1 c1 ba _ (by omega)) (fun o H' h => h)) rfl rfl ?_
         rintro _ BS3 ⟨hs3, rfl, hscS3⟩
         refine vdgl (appHO_of _ _) (mone rfl) (vcg rfl rfl rfl (d_OwnI k.ms _ _ _ rfl (by omega) _) (fun o H' h => h)) rfl rfl ?_
         rintro _ BO ⟨oo, co, rfl, hoO⟩
         refine vdm (mone rfl) (vbsP rfl rfl rfl rfl rfl rfl) rfl rfl (fun b9 => ?_)
         refine vdsd (mone rfl) (vappF (a := ⟨b9, 0, Option.none⟩) (m := 1) (c := 1) (size := 1) (bytes := 8) (F := fun X => (b9, blk [I (j : Int)] 3) :: (X ++ (BS3 ++ []))) (H0 := [(b9, blk [I (j : Int)] 3)] ++ (BS3 ++ [])) (B := BO) (xs := k.ms.flatMap encI) (news := [I (j : Int)]) (fun X => perm_mid [(b9, blk [I (j : Int)] 3)] X (BS3 ++ [])) rfl rfl hoO rfl (news_blk (b := b9) (List.Mem.head _)) (fun u hu => by rw [List.mem_singleton.1 hu]; rfl) (by omega) (by simp only [maxLen]; omega) (by omega)) rfl rfl ?_
         rintro _ _ ⟨BP, hoP, _, rfl⟩
         obtain ⟨op, cp, rfl, _⟩ := hoP.shape
         haveI hsP : SlO BP op 1 encI (k.ms ++ [(j : Int)]) := OwnS.slo (enc := encI) (l := k.ms ++ [(j : Int)]) hoP encI_len (by decide) (by simp) (by simp)
         refine vdn (appHO_of _ _) (mone rfl) (vcq rfl rfl rfl (q_JudgeV (ms := k.ms ++ [(j : Int)]) hjn (by simp) (by omega))) rfl rfl ?_
         refine vdq (mone rfl) (vmv rfl) rfl rfl ?_
         refine vdq (mone rfl) (vex rfl rfl) rfl rfl ?_
         refine vdq (mone rfl) (vex rfl rfl) rfl rfl ?_
         refine vdq (mone rfl) (vex rfl rfl) rfl rfl ?_
         refine vdq (mone rfl) (vas rfl) rfl rfl ?_
         refine vdq (mone rfl) (vas rfl) rfl rfl ?_
         refine vdq (mone rfl) (vas rfl) rfl rfl ?_
         refine vdend (appHO_of _ _) ?_
         refine vseq ?_
         refine vregion ?_
         refine vone rfl (vxq (vmv rfl) rfl rfl ?_)
         refine vone rfl (vxq (vneq rfl rfl) rfl rfl ?_)
         refine vknow (d := 150) (b' := false) rfl (decide_eq_false (fun e => e rfl)) ?_
         refine vone rfl (vxq (vmv rfl) rfl rfl ?_)
         refine vyes rfl rfl rfl (vxq (vmv rfl) rfl rfl ?_)
         refine vyes rfl rfl rfl (vxq (veql rfl rfl) rfl rfl ?_)
         refine vknow (d := 153) (b' := false) rfl (decide_eq_false hjb) ?_
         refine vone rfl (vxq (vpkf rfl rfl) rfl rfl ?_)
         refine vnil ?_
         refine vcondf rfl ?_
         refine vskip ?_
         refine vinblock ?_
         refine vregion ?_
         refine vone rfl (vxq (vmv rfl) rfl rfl ?_)
         refine vone rfl (vxq (vadd rfl rfl (by unfold InR; omega)) rfl rfl ?_)
         refine vone rfl (vxq (vas rfl) rfl rfl ?_)
         refine vnil ?_
         exact vback (IH1 (j + 1) ⟨by omega, by omega⟩ (by show _ - (j + 1) < _ - j; omega)) ⟨rfl, rfl, rfl, rfl, rfl, rfl, True.intro⟩ sb2
        ·
         refine vexit (k' := _) rfl ?_
         refine vinblock ?_
         refine vregion ?_
         refine vone rfl (vxq (vmv rfl) rfl rfl ?_)
         refine vone rfl (vxq (vadd rfl rfl (by unfold InR; omega)) rfl rfl ?_)
         refine vone rfl (vxq (vas rfl) rfl rfl ?_)
         refine vnil ?_
         refine VRun.perm (H' := ((ba, blk (clKp h1 w k1 oa1 c1) 155) :: (BA1 ++ ((S1 ++ S) ++ ((b1, blk (clWn w) 23) :: H)))) ++ (BS1 ++ (BN ++ BW))) (pmH3 BS1 BN [(ba, blk (clKp h1 w k1 oa1 c1) 155)] BA1 S1 BW S ((b1, blk (clWn w) 23) :: H)) ?_
         refine VRun.sub (List.sublist_append_left _ _) ?_
         exact vback (IH (i + 1, k1, h1, oa1, c1, BA1, S1 ++ S) ⟨by omega, hK1, hoA1, hsA1 S hsA⟩ (by show _ - (i + 1) < _ - i; omega)) ⟨rfl, rfl, rfl, rfl, True.intro⟩ sb2
    ·
     exact vback (hJ45 True.intro) ⟨rfl, True.intro⟩ sb2
   ·
    refine vno rfl rfl rfl rfl rfl ?_
    refine vno rfl rfl rfl rfl rfl ?_
    refine vone rfl (vxq (vpkf rfl rfl) rfl rfl ?_)
    refine vnil ?_
    refine vcondf rfl ?_
    exact vback (hJ45 True.intro) ⟨rfl, True.intro⟩ sb2
  ·
   intro hC45
   refine vexit (k' := _) rfl ?_
   refine vseq ?_
   refine vregion ?_
   refine vone rfl (vxq (vcq rfl rfl rfl (c_works _)) rfl rfl ?_)
   refine vknow (d := 155) (b' := true) rfl rfl ?_
   refine vone rfl (vxq (vas rfl) rfl rfl ?_)
   refine vnil ?_
   refine vret (vr1 (H' := H) Tryd.func13 rfl (.tmp rfl) sb2 ?_)
   exact ⟨rfl, rfl⟩
 ·
  refine vone rfl (vxq (vcq rfl rfl rfl (q_NewBad hw _)) rfl rfl ?_)
  refine vone rfl (vxq (vmv rfl) rfl rfl ?_)
  refine vone rfl (vxq (vex rfl rfl) rfl rfl ?_)
  refine vone rfl (vxq (vex rfl rfl) rfl rfl ?_)
  refine vone rfl (vxq (vas rfl) rfl rfl ?_)
  refine vone rfl (vxq (vas rfl) rfl rfl ?_)
  refine vnil ?_
  refine vseq ?_
  refine vseq ?_
  refine vregion ?_
  refine vone rfl (vxq (vmv rfl) rfl rfl ?_)
  refine vone rfl (vxq (vneq rfl rfl) rfl rfl ?_)
  refine vknow (d := 24) (b' := true) rfl (decide_eq_true (by decide)) ?_
  refine vone rfl (vxq (vmv rfl) rfl rfl ?_)
  refine vno rfl rfl rfl rfl rfl ?_
  refine vno rfl rfl rfl rfl rfl ?_
  refine vone rfl (vxq (vpkt rfl rfl) rfl rfl ?_)
  refine vnil ?_
  refine vcondt rfl ?_
  refine vseq ?_
  refine vregion ?_
  refine vone rfl (vxq (vmv rfl) rfl rfl ?_)
  refine vone rfl (vxq (veqpNN (e := 155) (by kernel_rfl) rfl rfl) rfl rfl ?_)
  refine vknow (d := 30) (b' := true) rfl rfl ?_
  refine vone rfl (vxq (vmv rfl) rfl rfl ?_)
  refine vyes rfl rfl rfl (vxq (vmv rfl) rfl rfl ?_)
  refine vyes rfl rfl rfl (vxq (veql rfl rfl) rfl rfl ?_)
  refine vknow (d := 33) (b' := true) rfl (decide_eq_true rfl) ?_
  refine vone rfl (vxq (vpkt rfl rfl) rfl rfl ?_)
  refine vone rfl (vxq (vmv rfl) rfl rfl ?_)
  refine vyes rfl rfl rfl (vxq (vcq rfl rfl rfl (c_works _)) rfl rfl ?_)
  refine vknow (d := 36) (b' := true) rfl rfl ?_
  refine vone rfl (vxq (vpkt rfl rfl) rfl rfl ?_)
  refine vone rfl (vxq (vas rfl) rfl rfl ?_)
  refine vnil ?_
  refine vret (vr1 (H' := H) Tryd.func13 rfl (.tmp rfl) sb2 ?_)
  exact ⟨rfl, rfl⟩
end Go.Proofs.YtaplkoimhecacaaDoor
