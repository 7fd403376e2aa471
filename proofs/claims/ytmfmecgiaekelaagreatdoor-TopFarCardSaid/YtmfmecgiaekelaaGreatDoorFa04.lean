/-
  Parts of the proof: rules of the engine, walks of functions, plain Lean. No condition.
-/
import Derived.Test.YtmfmecgiaekelaaGreatDoorFa03
import Derived.Defers
namespace Go.Proofs.YtmfmecgiaekelaaGreatDoor
open Go
structure Ps where
  pt : Pt
  oc : Int
  deriving DecidableEq
structure Cz where
  lines : List (Pt × Pt)
  fields : List (List Pt)
  buoys : List Pt
  spread : Rg
  start : Ps
  speed : Int
  turn : Int
  opens : List (List Bd)
def okPs (p : Ps) : Prop := p.pt.ok ∧ 0 ≤ p.oc ∧ p.oc ≤ 7
instance (p : Ps) : Decidable (okPs p) := by unfold okPs; exact inferInstance
def winFrom : Int → List Bd → Bool
  | _, [] => true
  | h, b :: r => decide (0 ≤ b.lo ∧ h < b.lo ∧ b.lo ≤ b.hi ∧ b.hi ≤ 1048576) && winFrom b.hi r
def winB (l : List Bd) : Bool := decide (l.length ≤ 4) && winFrom (-1) l
def okCz (c : Cz) : Prop := (1 ≤ c.lines.length ∧ c.lines.length ≤ 5) ∧ c.fields.length ≤ 4 ∧ c.buoys.length ≤ 4 ∧ c.opens.length = c.lines.length ∧
  (∀ l ∈ c.lines, l.1.ok ∧ l.2.ok ∧ l.1 ≠ l.2) ∧ (∀ l ∈ c.opens, winB l = true) ∧ (∀ f ∈ c.fields, fieldB f = true) ∧ (∀ p ∈ c.buoys, p.ok) ∧ (tightE c.spread).2 = 0 ∧ c.spread.x.hi - c.spread.x.lo ≤ 256 ∧ c.spread.y.hi - c.spread.y.lo ≤ 256 ∧ okPs c.start ∧ (1 ≤ c.speed ∧ c.speed ≤ 1000) ∧ 0 ≤ c.turn ∧ c.turn ≤ 1000
def octV (v : Pt) : Int :=
  if ¬ ((-131072 ≤ v.x ∧ v.x ≤ 131072) ∧ -131072 ≤ v.y ∧ v.y ≤ 131072) then 0
  else if 0 ≤ v.y ∧ 0 ≤ v.x - v.y then 0 else if 0 ≤ v.x ∧ v.x - v.y ≤ 0 then 1 else if v.x ≤ 0 ∧ 0 ≤ v.x + v.y then 2 else if 0 ≤ v.y ∧ v.x + v.y ≤ 0 then 3
  else if v.y ≤ 0 ∧ v.x - v.y ≤ 0 then 4 else if v.x ≤ 0 ∧ 0 ≤ v.x - v.y then 5 else if 0 ≤ v.x ∧ v.x + v.y ≤ 0 then 6 else 7
theorem octV_bd (v : Pt) : 0 ≤ octV v ∧ octV v ≤ 7 := by
  unfold octV
  repeat' split
  all_goals omega
def turnE (a b : Int) : Int := min ((b - a + 8).tmod 8) (8 - (b - a + 8).tmod 8)
def subP (p q : Pt) : Pt := ⟨q.x - p.x, q.y - p.y⟩
def rootUp (q : Int) : Int := if (rootE q).1 * (rootE q).1 < q then (rootE q).1 + 1 else (rootE q).1
def stepsC (c : Cz) (a b : Pt) : Int := (rootUp (d2 a b) + c.speed - 1).tdiv c.speed
def clearB (c : Cz) (a b : Pt) : Bool := decide ((sweptE c.spread a b).2 = 0) && !c.fields.any fun f => decide ((hitE f (sweptE c.spread a b).1).2 = 0)
def costL (c : Cz) (to : Int) : Pt → List Pt → Int → Int → Option Int
  | _, [], o, n => some (n + c.turn * turnE o to)
  | p, q :: r, o, n => if p = q ∨ clearB c p q = false then none else costL c to q r (octV (subP p q)) (n + (stepsC c p q + c.turn * turnE o (octV (subP p q))))
def costP (c : Cz) (l : List Pt) (o to : Int) : Option Int := match l with
  | [] => some (0 + c.turn * turnE o to)
  | p :: r => costL c to p r o 0
def nextP (c : Cz) (b : Pt) : Nat → List Pt → Nat → List (List Pt)
  | 0, l, _ => [l ++ [b]]
  | k + 1, l, used => (l ++ [b]) :: (List.range c.buoys.length).flatMap fun i => if used.testBit i = true then [] else match c.buoys[i]? with | some p => nextP c b k (l ++ [p]) (used ||| 1 <<< i) | none => []
def triedP (c : Cz) (a b : Ps) : List (List Pt) := (if a.pt = b.pt then [[a.pt]] else []) ++ nextP c b.pt c.buoys.length [a.pt] 0
def passP (c : Cz) (a b : Ps) : List (List Pt × Int) := (triedP c a b).filterMap fun l => (costP c l a.oc b.oc).map fun n => (l, n)
def chain : Pt → List Pt → Prop
  | _, [] => True
  | p, q :: r => p ≠ q ∧ chain q r
theorem costL_chain {c : Cz} {to : Int} : ∀ {l : List Pt} {p : Pt} {o n m : Int}, costL c to p l o n = some m → chain p l
  | [], _, _, _, _, _ => True.intro
  | q :: r, p, o, n, m, h => by
    simp only [costL] at h
    split at h
    · cases h
    · rename_i hn
      exact ⟨fun e => hn (.inl e), costL_chain h⟩
theorem next_ok {c : Cz} {b : Pt} (hb : b.ok) (hu : ∀ p ∈ c.buoys, p.ok) : ∀ (k : Nat) (l : List Pt) (used : Nat), (∀ p ∈ l, p.ok) → ∀ m ∈ nextP c b k l used, ∀ p ∈ m, p.ok
  | 0, l, used, hl, m, hm, p, hp => by
    simp only [nextP, List.mem_singleton] at hm
    subst hm
    rcases List.mem_append.1 hp with h | h
    · exact hl p h
    · rw [List.mem_singleton.1 h]; exact hb
  | k + 1, l, used, hl, m, hm, p, hp => by
    simp only [nextP, List.mem_cons] at hm
    rcases hm with rfl | hm
    · rcases List.mem_append.1 hp with h | h
      · exact hl p h
      · rw [List.mem_singleton.1 h]; exact hb
    · obtain ⟨i, _, hi⟩ := List.mem_flatMap.1 hm
      split at hi
      · cases hi
      · split at hi
        · rename_i q hq
          refine next_ok hb hu k _ _ (fun z hz => ?_) m hi p hp
          rcases List.mem_append.1 hz with h | h
          · exact hl z h
          · rw [List.mem_singleton.1 h]; exact hu q (List.mem_of_getElem? hq)
        · cases hi
theorem pass_ok {c : Cz} {a b : Ps} (ha : a.pt.ok) (hb : b.pt.ok) (hu : ∀ p ∈ c.buoys, p.ok) {x : List Pt × Int} (hx : x ∈ passP c a b) : (∀ p ∈ x.1, p.ok) ∧ ∀ p r, x.1 = p :: r → chain p r := by
  obtain ⟨l, hl, hm⟩ := List.mem_filterMap.1 hx
  obtain ⟨n, hn, rfl⟩ := Option.map_eq_some_iff.1 hm
  refine ⟨fun p hp => ?_, fun p r hr => ?_⟩
  · rcases List.mem_append.1 hl with h | h
    · split at h
      · rw [List.mem_singleton.1 h] at hp; rw [List.mem_singleton.1 hp]; exact ha
      · cases h
    · exact next_ok hb hu _ _ _ (fun z hz => by rw [List.mem_singleton.1 hz]; exact ha) l h p hp
  · simp only at hr
    subst hr
    exact costL_chain hn
def beforeP (a b : Pt) : Int := if a.x ≠ b.x then a.x - b.x else a.y - b.y
def cmpP : List Pt → List Pt → Int
  | [], [] => 0
  | [], _ :: _ => -1
  | _ :: _, [] => 1
  | a :: r, b :: s => if beforeP a b ≠ 0 then beforeP a b else cmpP r s
def lessP (x y : List Pt × Int) : Bool := if x.2 ≠ y.2 then decide (x.2 < y.2) else if x.1.length ≠ y.1.length then decide (x.1.length < y.1.length) else decide (cmpP x.1 y.1 < 0)
def firstL {α : Type} (less : α → α → Bool) : Option α → List α → Option α
  | b, [] => b
  | none, x :: r => firstL less (some x) r
  | some b, x :: r => firstL less (some (if less x b = true then x else b)) r
def bestP (c : Cz) (a b : Ps) : Option (List Pt × Int) := firstL lessP none (passP c a b)
theorem firstL_mem {α : Type} {less : α → α → Bool} : ∀ {l : List α} {b : Option α} {x : α}, firstL less b l = some x → b = some x ∨ x ∈ l
  | [], b, x, h => .inl h
  | y :: r, none, x, h => by
    rcases firstL_mem (l := r) h with h | h
    · cases h; exact .inr (by simp)
    · exact .inr (by simp [h])
  | y :: r, some b, x, h => by
    rcases firstL_mem (l := r) h with h | h
    · by_cases hl : less y b = true
      · rw [if_pos hl] at h; cases h; exact .inr (by simp)
      · rw [if_neg hl] at h; exact .inl h
    · exact .inr (by simp [h])
theorem firstL_snoc {α : Type} {less : α → α → Bool} : ∀ (l : List α) (b : Option α) (x : α), firstL less b (l ++ [x]) = firstL less (firstL less b l) [x]
  | [], none, x => rfl
  | [], some b, x => rfl
  | y :: r, none, x => firstL_snoc r (some y) x
  | y :: r, some b, x => firstL_snoc r _ x
end Go.Proofs.YtmfmecgiaekelaaGreatDoor
namespace Go.Proofs.YtmfmecgiaekelaaGreatDoor
open Go
abbrev EnA := Ent ByteArray (Rg × Int)
def ageE (w : Wn) (s : Sc) (t : Int) (e : EnA) : Option EnA := (ageK w s t e.k (some e.v)).map fun v => ⟨e.k, v, e.b⟩
def stepE (w : Wn) (s : Sc) (t : Int) (seen : Array Nat) (e : EnA) : Option EnA := if seen.contains e.b = true then ageE w s t e else some e
def agedM (w : Wn) (s : Sc) (t : Int) (seen : Array Nat) (l : List EnA) : List EnA := l.filterMap (stepE w s t seen)
section
variable {w : Wn} {s : Sc} {t : Int} {seen : Array Nat}
theorem stepE_kb {e e' : EnA} (h : stepE w s t seen e = some e') : e'.k = e.k ∧ e'.b = e.b := by
  unfold stepE ageE at h
  split at h
  · obtain ⟨v, _, h2⟩ := Option.map_eq_some_iff.1 h
    subst h2; exact ⟨rfl, rfl⟩
  · cases h; exact ⟨rfl, rfl⟩
theorem agedM_cons (x : EnA) (l : List EnA) : agedM w s t seen (x :: l) = (match stepE w s t seen x with | some y => y :: agedM w s t seen l | none => agedM w s t seen l) := by
  unfold agedM; rw [List.filterMap_cons]; cases stepE w s t seen x <;> rfl
theorem agedM_nil (l : List EnA) : agedM w s t #[] l = l := by
  induction l with
  | nil => rfl
  | cons x l ih => rw [agedM_cons, ih]; simp [stepE]
theorem agedM_ks : ∀ (l : List EnA), ((agedM w s t seen l).map Ent.k).Sublist (l.map Ent.k) ∧ ((agedM w s t seen l).map Ent.b).Sublist (l.map Ent.b)
  | [] => ⟨.slnil, .slnil⟩
  | x :: l => by
    have ih := agedM_ks l
    rw [agedM_cons]
    cases h : stepE w s t seen x with
    | none => exact ⟨ih.1.cons _, ih.2.cons _⟩
    | some y =>
      obtain ⟨h1, h2⟩ := stepE_kb h
      simp only [List.map_cons, h1, h2]
      exact ⟨ih.1.cons_cons _, ih.2.cons_cons _⟩
theorem agedM_wf {l : List EnA} {c : Nat} (h : wfM l c) : wfM (agedM w s t seen l) c := by
  obtain ⟨h1, h2⟩ := agedM_ks (w := w) (s := s) (t := t) (seen := seen) l
  refine ⟨h.ks.sublist h1, h.bs.sublist h2, fun e he => ?_⟩
  have : e.b ∈ l.map Ent.b := h2.subset (List.mem_map.2 ⟨e, he, rfl⟩)
  obtain ⟨e', h3, h4⟩ := List.mem_map.1 this
  rw [← h4]; exact h.lt e' h3
theorem cont_push (a b : Nat) : (seen.push a).contains b = (seen.contains b || b == a) := Array.contains_push ..
theorem agedM_other {a : Nat} : ∀ {l : List EnA}, a ∉ l.map Ent.b → agedM w s t (seen.push a) l = agedM w s t seen l
  | [], _ => rfl
  | x :: l, h => by
    have hx : x.b ≠ a := fun e => h (by simp [e])
    rw [agedM_cons, agedM_cons, agedM_other (fun e => h (by simp [e]))]
    have : stepE w s t (seen.push a) x = stepE w s t seen x := by unfold stepE; rw [cont_push]; simp [hx]
    rw [this]
theorem agedM_mem {e : EnA} (h0 : seen.contains e.b = false) : ∀ {l : List EnA}, e ∈ agedM w s t seen l → e ∈ l
  | [], h => by cases h
  | x :: l, h => by
    rw [agedM_cons] at h
    cases hs : stepE w s t seen x with
    | none => rw [hs] at h; exact List.mem_cons_of_mem _ (agedM_mem h0 h)
    | some y =>
      rw [hs] at h
      rcases List.mem_cons.1 h with rfl | h
      · obtain ⟨_, h2⟩ := stepE_kb hs
        unfold stepE at hs
        rw [← h2, h0] at hs
        simp at hs
        simp [hs]
      · exact List.mem_cons_of_mem _ (agedM_mem h0 h)
theorem mem_agedM {e : EnA} (h0 : seen.contains e.b = false) {l : List EnA} (h : e ∈ l) : e ∈ agedM w s t seen l := by
  unfold agedM
  refine List.mem_filterMap.2 ⟨e, h, ?_⟩
  unfold stepE
  rw [h0]; simp
theorem agedM_push {e : EnA} (h0 : seen.contains e.b = false) (c : Nat) : ∀ {l : List EnA}, (l.map Ent.k).Nodup → (l.map Ent.b).Nodup → e ∈ l →
    agedM w s t (seen.push e.b) l = match ageK w s t e.k (some e.v) with | some v => mput e.k v c (agedM w s t seen l) | none => mdel e.k (agedM w s t seen l)
  | [], _, _, h => by cases h
  | x :: l, hk, hb, h => by
    simp only [List.map_cons, List.nodup_cons] at hk hb
    have hse : ∀ a, stepE w s t (seen.push a) e = stepE w s t (seen.push a) e := fun _ => rfl
    rw [agedM_cons, agedM_cons]
    rcases List.mem_cons.1 h with rfl | h
    · rw [agedM_other hb.1]
      have h1 : stepE w s t (seen.push e.b) e = ageE w s t e := by unfold stepE; rw [cont_push]; simp
      have h2 : stepE w s t seen e = some e := by unfold stepE; rw [h0]; simp
      rw [h1, h2]
      unfold ageE
      cases ageK w s t e.k (some e.v) with
      | none => simp [mdel]
      | some v => simp [mput]
    · have hxb : x.b ≠ e.b := fun he => hb.1 (he ▸ List.mem_map.2 ⟨e, h, rfl⟩)
      have hxk : x.k ≠ e.k := fun he => hk.1 (he ▸ List.mem_map.2 ⟨e, h, rfl⟩)
      have h1 : stepE w s t (seen.push e.b) x = stepE w s t seen x := by unfold stepE; rw [cont_push]; simp [hxb]
      rw [h1, agedM_push h0 c hk.2 hb.2 h]
      cases hs : stepE w s t seen x with
      | none => rfl
      | some y =>
        obtain ⟨hy, _⟩ := stepE_kb hs
        have hyk : ¬ e.k = y.k := fun he => hxk (by rw [← hy]; exact he.symm)
        cases ageK w s t e.k (some e.v) with
        | none => simp [mdel, hyk]
        | some v => simp [mput, hyk]
theorem filterMap_same {α β : Type} {f g : α → Option β} : ∀ {l : List α}, (∀ x ∈ l, f x = g x) → l.filterMap f = l.filterMap g
  | [], _ => rfl
  | x :: l, h => by rw [List.filterMap_cons, List.filterMap_cons, h x (by simp), filterMap_same (fun y hy => h y (by simp [hy]))]
theorem agedM_all {l : List EnA} (h : ∀ e ∈ agedM w s t seen l, seen.contains e.b = true) : agedM w s t seen l = l.filterMap (ageE w s t) := by
  unfold agedM
  refine filterMap_same fun e he => ?_
  unfold stepE
  cases hc : seen.contains e.b with
  | true => simp
  | false => have := h e (mem_agedM hc he); rw [hc] at this; cases this
theorem mget_aged (nm : ByteArray) : ∀ {l : List EnA}, (l.map Ent.k).Nodup → mget nm (l.filterMap (ageE w s t)) = ageK w s t nm (mget nm l)
  | [], _ => rfl
  | x :: l, hk => by
    simp only [List.map_cons, List.nodup_cons] at hk
    have ih := mget_aged nm hk.2
    rw [List.filterMap_cons, mget_cons]
    by_cases h : nm = x.k
    · rw [if_pos h]
      subst h
      have hno : mget x.k l = none := mget_none.2 hk.1
      cases ha : ageK w s t x.k (some x.v) with
      | none =>
        have hx : ageE w s t x = none := by unfold ageE; rw [ha]; rfl
        rw [hx]; simp only; rw [ih, hno]; rfl
      | some v =>
        have hx : ageE w s t x = some ⟨x.k, v, x.b⟩ := by unfold ageE; rw [ha]; rfl
        rw [hx]; simp only; rw [mget_cons, if_pos rfl]
    · rw [if_neg h]
      cases ha : ageE w s t x with
      | none => exact ih
      | some y =>
        have hy : y.k = x.k := by
          unfold ageE at ha
          obtain ⟨v, _, h2⟩ := Option.map_eq_some_iff.1 ha
          rw [← h2]
        simp only
        rw [mget_cons, if_neg (by rw [hy]; exact h)]
        exact ih
end
theorem unseen_lt {l : List EnA} {seen : Array Nat} {e : EnA} (he : e ∈ l) (h0 : seen.contains e.b = false) : (l.filter fun x => !(seen.push e.b).contains x.b).length < (l.filter fun x => !seen.contains x.b).length :=
  filter_lt (fun x : EnA => !seen.contains x.b) (fun x => !(seen.push e.b).contains x.b) (fun x hx => by
    rw [cont_push] at hx
    cases hc : seen.contains x.b with
    | false => rfl
    | true => rw [hc, Bool.true_or] at hx; exact absurd hx (by decide)) e (by rw [h0]; rfl) (by rw [cont_push, beq_self_eq_true, Bool.or_true]; rfl) l he
def flwF (w : Wn) (s : Sc) : Nat → Nat → List (Nat × Bool)
  | 0, _ => []
  | k + 1, t => match Kst w s (t + 1) with
    | some _ => (t, true) :: flwF w s k (t + 1)
    | none => [(t, false)]
def preL (t : Nat) : List (Nat × Bool) := (List.range t).map fun j => (j, true)
theorem preL_succ (t : Nat) : preL (t + 1) = preL t ++ [(t, true)] := by unfold preL; rw [List.range_succ]; simp
theorem Kst_le {w : Wn} {s : Sc} {n : Nat} {K : Kf} (h : Kst w s (n + 1) = some K) : ∃ K0, Kst w s n = some K0 := by
  simp only [Kst] at h
  cases hk : Kst w s n with
  | none => rw [hk] at h; cases h
  | some K0 => exact ⟨K0, rfl⟩
theorem flw_split {w : Wn} {s : Sc} {n : Nat} : ∀ {t : Nat} {K : Kf}, Kst w s t = some K → t ≤ n → flwF w s n 0 = preL t ++ flwF w s (n - t) t
  | 0, _, _, _ => by simp [preL]
  | t + 1, K, h, ht => by
    obtain ⟨K0, h0⟩ := Kst_le h
    rw [flw_split h0 (by omega), preL_succ, show n - t = (n - (t + 1)) + 1 by omega]
    simp only [flwF, h, List.append_assoc, List.singleton_append]
theorem flw_end {w : Wn} {s : Sc} {n : Nat} {K : Kf} (h : Kst w s n = some K) : flwF w s n 0 = preL n := by
  rw [flw_split h (Nat.le_refl n), Nat.sub_self]; simp [flwF]
theorem flw_at {w : Wn} {s : Sc} {n t : Nat} {K : Kf} (h : Kst w s t = some K) (ht : t < n) : ∃ post, flwF w s n 0 = preL t ++ (t, (Kst w s (t + 1)).isSome) :: post ∧ ((Kst w s (t + 1)).isSome = false → post = []) := by
  rw [flw_split h (by omega), show n - t = (n - (t + 1)) + 1 by omega]
  simp only [flwF]
  cases hk : Kst w s (t + 1) with
  | none => exact ⟨[], rfl, fun _ => rfl⟩
  | some K1 => exact ⟨_, rfl, fun e => by cases e⟩
theorem seeF_snoc {s : Sc} {t : Int} : ∀ (L : List Sg) (K : Kf) (x : Sg), seeF s t K (L ++ [x]) = match seeF s t K L with | none => none | some K' => seeF s t K' [x]
  | [], K, x => rfl
  | y :: r, K, x => by
    simp only [List.cons_append, seeF]
    split
    · exact seeF_snoc r K x
    · cases seeP s (K y.nm) y with
      | none => rfl
      | some k => exact seeF_snoc r _ x
theorem seeF_one {s : Sc} {t : Int} {K : Kf} {x : Sg} : seeF s t K [x] = if x.st ≠ t then some K else match seeP s (K x.nm) x with | none => none | some k => some (fun n => if n = x.nm then k else K n) := by
  simp only [seeF] <;> (split <;> first | rfl | (cases seeP s (K x.nm) x <;> rfl))
theorem seeF_known {s : Sc} {t : Int} {K K' : Kf} {L : List Sg} (h : seeF s t K L = some K') {x : Sg} (hx : x ∈ L) (ht : x.st = t) : ∃ a, K' x.nm = some a := by
  have h1 := seeF_some h x.nm
  have hne : inL L x.nm t ≠ [] := List.ne_nil_of_mem (mem_inL.2 ⟨hx, ht, rfl⟩)
  obtain ⟨r, hr⟩ := seesP_last hne (fun y hy => (mem_inL.1 hy).2.1) h1
  exact ⟨_, hr⟩
end Go.Proofs.YtmfmecgiaekelaaGreatDoor
namespace Go.Proofs.YtmfmecgiaekelaaGreatDoor
open Go
theorem sq_sum {x y u v n m : Int} (hn : 0 ≤ n) (hm : 0 ≤ m) (h1 : x * x + y * y ≤ n * n) (h2 : u * u + v * v ≤ m * m) : (x + u) * (x + u) + (y + v) * (y + v) ≤ (n + m) * (n + m) := by
  have e : (x * u + y * v) * (x * u + y * v) + (x * v - y * u) * (x * v - y * u) = (x * x + y * y) * (u * u + v * v) := by grind
  have p2 : 0 ≤ u * u + v * v := Int.add_nonneg (sq_nn u) (sq_nn v)
  have p3 : (x * x + y * y) * (u * u + v * v) ≤ (n * n) * (m * m) := Int.mul_le_mul h1 h2 p2 (sq_nn n)
  have p4 : (n * n) * (m * m) = (n * m) * (n * m) := by grind
  have p5 := sq_nn (x * v - y * u)
  have p6 := (abs_of_sq (Int.mul_nonneg hn hm) (show (x * u + y * v) * (x * u + y * v) ≤ (n * m) * (n * m) by omega)).2
  have e1 : (x + u) * (x + u) + (y + v) * (y + v) = x * x + y * y + (u * u + v * v) + 2 * (x * u + y * v) := by grind
  have e2 : (n + m) * (n + m) = n * n + m * m + 2 * (n * m) := by grind
  rw [e1, e2]
  omega
theorem sq_flip (a b : Int) : (a - b) * (a - b) = (b - a) * (b - a) := by grind
theorem far_step {p q p' q' : Pt} {a b m : Int} (ha : 0 ≤ a) (hb : 0 ≤ b) (hm : 0 ≤ m - a - b) (h : m * m < d2 p q) (h1 : d2 p p' ≤ a * a) (h2 : d2 q q' ≤ b * b) : (m - a - b) * (m - a - b) < d2 p' q' := by
  rcases Int.lt_or_le ((m - a - b) * (m - a - b)) (d2 p' q') with g | g
  · exact g
  · exfalso
    unfold d2 at *
    have s1 := sq_sum ha hm h1 g
    rw [show p'.x - p.x + (q'.x - p'.x) = q'.x - p.x by omega, show p'.y - p.y + (q'.y - p'.y) = q'.y - p.y by omega] at s1
    rw [sq_flip q'.x, sq_flip q'.y] at h2
    have s2 := sq_sum (by omega) hb s1 h2
    rw [show q'.x - p.x + (q.x - q'.x) = q.x - p.x by omega, show q'.y - p.y + (q.y - q'.y) = q.y - p.y by omega, show a + (m - a - b) + b = m by omega] at s2
    omega
theorem guardN_spec (w : Wn) (far ship : Int) : ∀ (n : Nat) (k : Int), k ≤ guardN w far ship n k ∧ guardN w far ship n k ≤ k + n ∧ ∀ t, k < t → t ≤ guardN w far ship n k → w.zone < far - t * (w.speed + ship)
  | 0, k => ⟨by simp [guardN], by simp [guardN], fun t h1 h2 => by simp only [guardN] at h2; omega⟩
  | n + 1, k => by
    obtain ⟨h1, h2, h3⟩ := guardN_spec w far ship n (k + 1)
    simp only [guardN]
    split
    · rename_i hc
      refine ⟨by omega, by omega, fun t ht ht2 => ?_⟩
      by_cases e : t = k + 1
      · subst e; exact hc
      · exact h3 t (by omega) ht2
    · exact ⟨by omega, by omega, fun t ht ht2 => by omega⟩
def gInv (far S t : Int) (p q : Pt) : Prop := 0 ≤ far - t * S ∧ (far - t * S) * (far - t * S) < d2 p q
theorem gInv_step {w : Wn} {far ship t : Int} {p q p' q' : Pt} (hz : 0 ≤ w.zone) (ha : 0 ≤ w.speed) (hb : 0 ≤ ship) (h : gInv far (w.speed + ship) t p q) (hg : w.zone < far - (t + 1) * (w.speed + ship))
    (h1 : d2 p p' ≤ w.speed * w.speed) (h2 : d2 q q' ≤ ship * ship) : gInv far (w.speed + ship) (t + 1) p' q' ∧ w.zone * w.zone < d2 p' q' := by
  have e : far - (t + 1) * (w.speed + ship) = far - t * (w.speed + ship) - w.speed - ship := by rw [Int.add_mul]; omega
  unfold gInv at *
  rw [e] at hg ⊢
  have hs := far_step ha hb (by omega) h.2 h1 h2
  have := Int.mul_le_mul (Int.le_of_lt hg) (Int.le_of_lt hg) hz (by omega)
  exact ⟨⟨by omega, hs⟩, by omega⟩
def pickP (l : List Int) (i : Int) : Int := (l[(restP i l.length).toNat]?).getD 0
def swumX (speed : Int) (bits : List Int) (a : Int) : Int := restP (pickP bits a) (2 * speed + 1) - speed
def swumH (speed x : Int) : Int := (rootE (speed * speed - x * x)).1
def swumY (h : Int) (bits : List Int) (a : Int) : Int := restP (pickP bits (a + 1)) (2 * h + 1) - h
def swumP (p : Pt) (speed : Int) (bits : List Int) (a : Int) : Pt := ⟨p.x + swumX speed bits a, p.y + swumY (swumH speed (swumX speed bits a)) bits a⟩
theorem swumX_bd {speed : Int} (h : 0 ≤ speed) (bits : List Int) (a : Int) : -speed ≤ swumX speed bits a ∧ swumX speed bits a ≤ speed := by
  have := rest_bd (n := pickP bits a) (m := 2 * speed + 1) (by omega)
  unfold swumX; omega
theorem sq_abs {y h : Int} (h1 : -h ≤ y ∧ y ≤ h) : y * y ≤ h * h := by
  rcases Int.le_total 0 y with g | g
  · exact Int.mul_le_mul h1.2 h1.2 g (by omega)
  · have := Int.mul_le_mul (show -y ≤ h by omega) (show -y ≤ h by omega) (show 0 ≤ -y by omega) (by omega)
    rwa [Int.neg_mul_neg] at this
theorem swumH_bd {speed x : Int} (hs : 0 ≤ speed ∧ speed ≤ 1048576) (hx : -speed ≤ x ∧ x ≤ speed) : 0 ≤ swumH speed x ∧ swumH speed x ≤ speed ∧ x * x + swumH speed x * swumH speed x ≤ speed * speed := by
  have h1 := sq_abs hx
  have h2 := (mul_bd hs hs).2
  have h3 := sq_nn x
  have hr := rootP_is (n := speed * speed - x * x) (by omega)
  have e : swumH speed x = rootP (speed * speed - x * x) := by unfold swumH rootE; rw [if_pos (by omega)]
  rw [e]
  unfold IsRt at hr
  obtain ⟨r1, r2, r3⟩ := hr
  refine ⟨r1, ?_, by omega⟩
  exact (abs_of_sq hs.1 (by omega)).2
theorem swumY_bd {h : Int} (hh : 0 ≤ h) (bits : List Int) (a : Int) : -h ≤ swumY h bits a ∧ swumY h bits a ≤ h := by
  have := rest_bd (n := pickP bits (a + 1)) (m := 2 * h + 1) (by omega)
  unfold swumY; omega
theorem swum_bd {p : Pt} {speed : Int} {bits : List Int} {a : Int} (hs : 0 ≤ speed ∧ speed ≤ 1048576) : d2 p (swumP p speed bits a) ≤ speed * speed ∧ (p.x - speed ≤ (swumP p speed bits a).x ∧ (swumP p speed bits a).x ≤ p.x + speed) ∧ p.y - speed ≤ (swumP p speed bits a).y ∧ (swumP p speed bits a).y ≤ p.y + speed := by
  have h1 := swumX_bd hs.1 bits a
  obtain ⟨h2, h3, h4⟩ := swumH_bd hs h1
  have h5 := swumY_bd h2 bits a
  have h6 := sq_abs h5
  unfold swumP d2
  simp only
  rw [show p.x + swumX speed bits a - p.x = swumX speed bits a by omega, show p.y + swumY (swumH speed (swumX speed bits a)) bits a - p.y = swumY (swumH speed (swumX speed bits a)) bits a by omega]
  refine ⟨by omega, by omega, by omega⟩
end Go.Proofs.YtmfmecgiaekelaaGreatDoor
namespace Go.Proofs.YtmfmecgiaekelaaGreatDoor
open Go
theorem rootUp_spec {q : Int} (h0 : 0 ≤ q) (h1 : q ≤ 1099511627776) : 0 ≤ rootUp q ∧ q ≤ rootUp q * rootUp q ∧ (0 < q → 0 < rootUp q) ∧ rootUp q ≤ 1048577 := by
  have e0 : rootE q = (rootP q, 0) := by unfold rootE; rw [if_pos ⟨h0, h1⟩]
  unfold rootUp
  rw [e0]
  simp only
  have hr := rootP_is h0
  unfold IsRt at hr
  obtain ⟨h2, h3, h4⟩ := hr
  have hb : rootP q ≤ 1048576 := by
    rcases Int.lt_or_le 1048576 (rootP q) with h | h
    · have := Int.mul_le_mul (show (1048577 : Int) ≤ rootP q by omega) (show (1048577 : Int) ≤ rootP q by omega) (by omega) (by omega)
      omega
    · exact h
  split
  · refine ⟨by omega, ?_, fun _ => by omega, by omega⟩
    have : (rootP q + 1) * (rootP q + 1) = rootP q * rootP q + 2 * rootP q + 1 := by grind
    have : (rootP q + 1) * (rootP q + 1) > q := h4
    omega
  · refine ⟨h2, by omega, fun hq => ?_, by omega⟩
    rcases Int.lt_or_le 0 (rootP q) with h | h
    · exact h
    · have e : rootP q = 0 := by omega
      have e2 : rootP q * rootP q = 0 := by rw [e]; rfl
      omega
theorem steps_spec {c : Cz} {a b : Pt} (hs : 1 ≤ c.speed) (h1 : d2 a b ≤ 1099511627776) (h0 : 0 ≤ d2 a b) : rootUp (d2 a b) ≤ stepsC c a b * c.speed ∧ 0 ≤ stepsC c a b ∧ (0 < d2 a b → 1 ≤ stepsC c a b) := by
  obtain ⟨g1, g2, g3, _⟩ := rootUp_spec h0 h1
  unfold stepsC
  have e : (rootUp (d2 a b) + c.speed - 1).tdiv c.speed = (rootUp (d2 a b) + c.speed - 1) / c.speed := Int.tdiv_eq_ediv_of_nonneg (by omega)
  rw [e]
  have hm := Int.mul_ediv_add_emod (rootUp (d2 a b) + c.speed - 1) c.speed
  have hl := Int.emod_lt_of_pos (rootUp (d2 a b) + c.speed - 1) (show 0 < c.speed by omega)
  have hn : 0 ≤ (rootUp (d2 a b) + c.speed - 1) / c.speed := Int.ediv_nonneg (by omega) (by omega)
  refine ⟨?_, hn, fun h => ?_⟩
  · rw [Int.mul_comm]; omega
  · have := g3 h
    exact (Int.le_ediv_iff_mul_le (by omega)).2 (by omega)
theorem sq_abs' {y h : Int} (h1 : -h ≤ y ∧ y ≤ h) : y * y ≤ h * h := sq_abs h1
theorem abs_sq {y h : Int} (h0 : 0 ≤ h) (hy : y * y ≤ h * h) : -h ≤ y ∧ y ≤ h := by
  constructor
  · rcases Int.lt_or_le y (-h) with g | g
    · have := Int.mul_lt_mul (show h < -y by omega) (show h ≤ -y by omega)
      by_cases e : h = 0
      · subst e
        have := Int.mul_pos (show 0 < -y by omega) (show 0 < -y by omega)
        have e2 : -y * -y = y * y := Int.neg_mul_neg y y
        omega
      · have := this (by omega) (by omega)
        have e2 : -y * -y = y * y := Int.neg_mul_neg y y
        omega
    · exact g
  · rcases Int.lt_or_le h y with g | g
    · by_cases e : h = 0
      · subst e
        have := Int.mul_pos (show 0 < y by omega) (show 0 < y by omega)
        omega
      · have := Int.mul_lt_mul (show h < y by omega) (show h ≤ y by omega) (by omega) (by omega)
        omega
    · exact g
theorem step_axis {u n t : Int} (hn : 1 ≤ n) : u - n < n * ((u * (t + 1)) / n - (u * t) / n) ∧ n * ((u * (t + 1)) / n - (u * t) / n) < u + n := by
  have a1 := Int.mul_ediv_add_emod (u * (t + 1)) n
  have a2 := Int.mul_ediv_add_emod (u * t) n
  have b1 := Int.emod_lt_of_pos (u * (t + 1)) (show 0 < n by omega)
  have b2 := Int.emod_lt_of_pos (u * t) (show 0 < n by omega)
  have c1 := Int.emod_nonneg (u * (t + 1)) (show n ≠ 0 by omega)
  have c2 := Int.emod_nonneg (u * t) (show n ≠ 0 by omega)
  rw [Int.mul_sub]
  have e : u * (t + 1) = u * t + u := by rw [Int.mul_add, Int.mul_one]
  omega
theorem axis_sq {A u n s : Int} (hn : 1 ≤ n) (hs : 0 ≤ s) (hu : -(n * s) ≤ u ∧ u ≤ n * s) (h : u - n < A ∧ A < u + n) : A * A ≤ u * u + 2 * (n * (n * s)) + n * n := by
  have hU : ∃ U, 0 ≤ U ∧ U * U = u * u ∧ -U ≤ u ∧ u ≤ U ∧ U ≤ n * s := by
    rcases Int.le_total 0 u with h0 | h0
    · exact ⟨u, h0, rfl, by omega, Int.le_refl _, hu.2⟩
    · exact ⟨-u, by omega, Int.neg_mul_neg u u, by omega, by omega, by omega⟩
  obtain ⟨U, g0, g1, g2, g3, g4⟩ := hU
  have k1 := sq_abs' (y := A) (h := U + n) (by omega)
  have k2 : (U + n) * (U + n) = U * U + 2 * (n * U) + n * n := by grind
  have k3 : n * U ≤ n * (n * s) := Int.mul_le_mul_of_nonneg_left g4 (by omega)
  omega
def qAt (a b : Pt) (n t : Int) : Pt := ⟨a.x + ((b.x - a.x) * t) / n, a.y + ((b.y - a.y) * t) / n⟩
theorem q_step {a b : Pt} {n s : Int} (hn : 1 ≤ n) (hs : 0 ≤ s) (hd : d2 a b ≤ (n * s) * (n * s)) (t : Int) : d2 (qAt a b n t) (qAt a b n (t + 1)) ≤ (s + 2) * (s + 2) := by
  have hns : 0 ≤ n * s := Int.mul_nonneg (by omega) hs
  have hxx : 0 ≤ (b.x - a.x) * (b.x - a.x) := sq_nn _
  have hyy : 0 ≤ (b.y - a.y) * (b.y - a.y) := sq_nn _
  unfold d2 at hd
  have hu := abs_sq (y := b.x - a.x) hns (by omega)
  have hv := abs_sq (y := b.y - a.y) hns (by omega)
  have sx := step_axis (u := b.x - a.x) (t := t) hn
  have sy := step_axis (u := b.y - a.y) (t := t) hn
  have qx := axis_sq hn hs hu sx
  have qy := axis_sq hn hs hv sy
  show (a.x + ((b.x - a.x) * (t + 1)) / n - (a.x + ((b.x - a.x) * t) / n)) * (a.x + ((b.x - a.x) * (t + 1)) / n - (a.x + ((b.x - a.x) * t) / n)) + (a.y + ((b.y - a.y) * (t + 1)) / n - (a.y + ((b.y - a.y) * t) / n)) * (a.y + ((b.y - a.y) * (t + 1)) / n - (a.y + ((b.y - a.y) * t) / n)) ≤ _
  rw [show a.x + ((b.x - a.x) * (t + 1)) / n - (a.x + ((b.x - a.x) * t) / n) = ((b.x - a.x) * (t + 1)) / n - ((b.x - a.x) * t) / n by omega, show a.y + ((b.y - a.y) * (t + 1)) / n - (a.y + ((b.y - a.y) * t) / n) = ((b.y - a.y) * (t + 1)) / n - ((b.y - a.y) * t) / n by omega]
  generalize ((b.x - a.x) * (t + 1)) / n - ((b.x - a.x) * t) / n = X at *
  generalize ((b.y - a.y) * (t + 1)) / n - ((b.y - a.y) * t) / n = Y at *
  have e1 : (n * X) * (n * X) + (n * Y) * (n * Y) = (n * n) * (X * X + Y * Y) := by grind
  have e2 : (n * n) * ((s + 2) * (s + 2)) = (n * s) * (n * s) + 4 * (n * (n * s)) + 4 * (n * n) := by grind
  have hnn : 0 < n * n := Int.mul_pos (by omega) (by omega)
  refine Int.le_of_mul_le_mul_left ?_ hnn
  rw [← e1, e2]
  omega
end Go.Proofs.YtmfmecgiaekelaaGreatDoor
namespace Go.Proofs.YtmfmecgiaekelaaGreatDoor
open Go
section
variable {P : Program} {f : FuncId} {ro : Option Nat} {N : Nat} {k : List Item} {E : Env} {D : List Deferred} {H : Heap} {Q : Out → Heap → Prop}
def VItK {α : Type} (P : Program) (kf : FuncId) (caps : List Value) (X : α → List Value → Heap → Prop) (xs : List α) (Hi : Heap) (R : Heap → Prop) : Prop :=
  ∀ (yf : Fn) (ya yc : Array Value) (J : List α → Heap → Prop) (Jx : Heap → Prop) (Hc : Heap), J [] Hc →
    (∀ pre x post, xs = pre ++ x :: post → ∀ vs Hx H1, X x vs Hx → J pre H1 → VY P (.func yf ya yc) vs (Hx ++ H1) (fun b H2 => if b = true then J (pre ++ [x]) H2 else Jx H2)) →
    VCall P kf (Value.func yf ya yc :: caps).toArray (Hi ++ Hc) (fun o H' => o = .val (.tuple #[]) ∧ ∃ Hi' Hc', H' = Hi' ++ Hc' ∧ R Hi' ∧ (J xs Hc' ∨ Jx Hc'))
theorem vrangeK {α : Type} {X : α → List Value → Heap → Prop} {xs : List α} {kf : FuncId} {caps : List Value} {Hi Hc : Heap} {R : Heap → Prop} {gop : Operand} {ps : List Nat} {as bd : Code} [TFn P kf] (I : List α → Heap → Prop) (Ix : Code → Heap → Prop)
    (hg : ev E gop = some (.func (.func kf) #[] caps.toArray)) (hit : VItK P kf caps X xs Hi R) (hp : H.Perm (Hi ++ Hc)) (h0 : I [] Hc) (hsz : ∀ x vs Hx, X x vs Hx → ps.length = vs.length) (hps : (ps.all fun p => Nat.blt p N) = true)
    (body : ∀ lp rec pre x post vs Hx H1, rec.state = .ready → xs = pre ++ x :: post → X x vs Hx → I pre H1 →
      VRun P f (some lp) N [.code as, .beginRound, .code bd] (parE ps vs E) [] ((lp, .loop rec) :: (Hx ++ H1)) (RQ lp rec (I (pre ++ [x])) Ix))
    (done : ∀ r Hi' H1, R Hi' → I xs H1 → VRun P f Option.none N k E (mark r :: D) ((r, .deferred (some [])) :: (Hi' ++ H1)) Q)
    (stop : ∀ r c Hi' H1, R Hi' → Ix c H1 → VRun P f Option.none N (.code c :: k) E (mark r :: D) ((r, .deferred (some [])) :: (Hi' ++ H1)) Q) :
    VRun P f Option.none N (.code (.rangeFunc gop ps.toArray as bd) :: k) E D H Q := by
  intro t w cs hA hE
  let rc : Loop := { state := .ready, pending := Option.none, fn := f, tmps := t, params := ps.toArray, assign := as, body := bd, defers := w.heap.size }
  let w1 : World := { w with heap := w.heap.push (.deferred (some [])) }
  let w2 : World := { w1 with heap := w1.heap.push (.loop rc) }
  have hF1 : Fr H w ((w.heap.size, .deferred (some [])) :: H) w1 := Fr.new hE _
  have hF2 : Fr ((w.heap.size, .deferred (some [])) :: H) w1 ((w.heap.size + 1, .loop rc) :: (w.heap.size, .deferred (some [])) :: H) w2 := by
    have h := Fr.new hF1.emb (.loop rc)
    rw [show w1.heap.size = w.heap.size + 1 from Array.size_push _] at h
    exact h
  have henter : (Instr.enterLoop f t ps.toArray as bd Option.none).run P w = .ok (w.heap.size + 1, [mark w.heap.size]) w2 := by
    simp only [w2, w1, rc, mark]
    rw [show w.heap.size + 1 = (w.heap.push (Obj.deferred (some []))).size from (Array.size_push _).symm]
    rfl
  have hst := range_steps (P := P) (D := D) (k := k) (cs := cs) (ro := Option.none) hA hg henter
  have hcall := hit (.yield (w.heap.size + 1)) #[] #[] (fun pre Hx => ∃ H1, Hx = (w.heap.size + 1, .loop rc) :: H1 ∧ I pre H1)
    (fun Hx => ∃ c H1, Hx = (w.heap.size + 1, .loop { rc with state := .done, pending := some c }) :: H1 ∧ Ix c H1) ((w.heap.size + 1, .loop rc) :: Hc) ⟨Hc, rfl, h0⟩
    (by
      rintro pre x post hx vs Hx H1' hX ⟨H1, rfl, hI⟩
      have h1 := round_VY (lp := w.heap.size + 1) (f := f) (t := t) (rec := rc) ⟨rfl, rfl, rfl, rfl, rfl, rfl, rfl⟩ hA (hsz x vs Hx hX) hps (body _ rc pre x post vs Hx H1 rfl hx hX hI)
      exact h1.perm List.perm_middle.symm)
  have hperm : ((w.heap.size + 1, Obj.loop rc) :: (w.heap.size, Obj.deferred (some [])) :: H).Perm ((Hi ++ (w.heap.size + 1, .loop rc) :: Hc) ++ [(w.heap.size, .deferred (some []))]) := by
    refine List.Perm.trans ?_ List.perm_append_comm
    refine List.Perm.trans (List.Perm.swap _ _ _) ?_
    refine List.Perm.cons _ ?_
    refine List.Perm.trans (List.Perm.cons _ hp) ?_
    exact List.perm_middle.symm
  obtain ⟨o, w3, m3, H3, hR, hF3, hs3, hfin⟩ := (hcall.frame (B := [(w.heap.size, .deferred (some []))])).perm hperm w2 ((bas f Option.none).atR ⟨t, [mark w.heap.size] ++ D⟩ (.inRangeFunc (w.heap.size + 1) :: k) :: cs) (hF1.trans hF2).emb
  obtain ⟨A', rfl, rfl, Hi', Hc', rfl, hRi, hJ⟩ := hR
  obtain ⟨_, fr', rfl, _, hleave⟩ := hfin
  have hback : Steps P (lone ((bas f Option.none).atR ⟨t, D⟩ (.code (.rangeFunc gop ps.toArray as bd) :: k)) cs w) (lone ((bas f Option.none).atR ⟨t, [mark w.heap.size] ++ D⟩ (.endRangeFunc (w.heap.size + 1) :: k)) cs w3) := by
    refine .head hst (hs3.trans (.one ?_))
    rw [← finish_atR_inRangeFunc (b := bas f Option.none) (a := ⟨t, [mark w.heap.size] ++ D⟩) (k := k) (w.heap.size + 1) (.tuple #[])]
    exact step_leave_returned hleave
  have hFall := (hF1.trans hF2).trans hF3
  have fin : ∀ (rc' : Loop) (H1 : Heap), Hc' = (w.heap.size + 1, .loop rc') :: H1 → rc'.state ≠ .busy → ∃ w4, (Instr.endLoop (w.heap.size + 1)).run P w3 = .ok rc'.pending w4 ∧ Fr H w ((w.heap.size, .deferred (some [])) :: (Hi' ++ H1)) w4 := by
    intro rc' H1 hH hb
    subst hH
    have hg : w3.heap[w.heap.size + 1]? = some (.loop rc') := hF3.emb.at_ (w.heap.size + 1, .loop rc') (by simp)
    have hpm : ((Hi' ++ (w.heap.size + 1, Obj.loop rc') :: H1) ++ [(w.heap.size, Obj.deferred (some []))]).Perm ((w.heap.size + 1, .loop rc') :: ((w.heap.size, .deferred (some [])) :: (Hi' ++ H1))) := by
      refine List.Perm.trans List.perm_append_comm ?_
      refine List.Perm.trans (List.Perm.cons _ List.perm_middle) ?_
      exact List.Perm.swap _ _ _
    have hE3 := hF3.emb.perm hpm
    have hset := (HOb.head (H := (w.heap.size, .deferred (some [])) :: (Hi' ++ H1)) (b := w.heap.size + 1) (o := .loop rc')).set hE3 (.loop { rc' with state := .exhausted })
    refine ⟨_, ?_, (hFall.perm (.refl _) hpm).trans (hset.sub (List.sublist_cons_self _ _))⟩
    simp [Instr.endLoop, Instr.getLoop, getObj, setObj, Sem.run, hg, Result.andThen, hb]
  rcases hJ with ⟨H1, hH, hI⟩ | ⟨c, H1, hH, hI⟩
  · obtain ⟨w4, hr, hF4⟩ := fin rc H1 hH (by simp [rc])
    obtain ⟨o, w5, m5, H5, hq, hF5, hs5, hfin5⟩ := done w.heap.size Hi' H1 hRi hI t w4 cs hA hF4.emb
    refine ⟨o, w5, m5, H5, hq, hF4.trans hF5, hback.trans (.head (stepR_endRangeFunc (b := bas f Option.none) hr) ?_), hfin5⟩
    simpa [rc] using hs5
  · obtain ⟨w4, hr, hF4⟩ := fin _ H1 hH (by simp)
    obtain ⟨o, w5, m5, H5, hq, hF5, hs5, hfin5⟩ := stop w.heap.size c Hi' H1 hRi hI t w4 cs hA hF4.emb
    refine ⟨o, w5, m5, H5, hq, hF4.trans hF5, hback.trans (.head (stepR_endRangeFunc (b := bas f Option.none) hr) ?_), hfin5⟩
    simpa using hs5
end
end Go.Proofs.YtmfmecgiaekelaaGreatDoor
namespace Go.Proofs.YtmfmecgiaekelaaGreatDoor
open Go
section
variable {P : Program} {f : FuncId} {ro : Option Nat} {N : Nat} {k : List Item} {E : Env} {D : List Deferred} {H : Heap} {Q : Out → Heap → Prop}
variable {ops : Array Oper} {l : List Oper}
variable {d : Nat} {x y : Operand} {T ty : TypeId} {pos : String} {af : Array Edge} {g : Option (Nat × Bool)}
theorem vxdef {gf : FuncId} {cl : Operand} {ats : Array TypeId} {caps : List Value} (hx : ev E cl = some (.func (.func gf) #[] caps.toArray))
    (hL : VL P f Option.none N ops l k E (⟨.fn (.func gf) caps.toArray, #[]⟩ :: D) H Q) :
    VX P f Option.none N ops ⟨Option.none, .defer ⟨.value cl, #[], ats⟩, ty, pos, af, g⟩ l k E D H Q := by
  intro i is hi his hw
  refine .stp fun t w cs hA hE => ⟨t, w, .inRegion ops is :: k, E, ⟨.fn (.func gf) caps.toArray, #[]⟩ :: D, H, .one (step_lone_go ?_), hA, Fr.refl hE, hL is his⟩
  rw [stepGR_op (P := P) (b := bas f Option.none) (a := ⟨t, D⟩) (k := k) (cs := cs) (w := w) (rest := is) hi (hw t hA)]
  have h1 := ev_eval (D := D) hA hx
  have h2 : (execOp (Act.eval ⟨t, D⟩) ⟨Option.none, .defer ⟨.value cl, #[], ats⟩, ty, pos, af, g⟩).run P w = .ok (.defer ⟨.fn (.func gf) caps.toArray, #[]⟩) w := by
    simp [execOp, resolve, Deferred.ofValue, h1]
  have h3 : (Oper.semAt (bas f Option.none).roundOf (Act.eval ⟨t, D⟩) ⟨Option.none, .defer ⟨.value cl, #[], ats⟩, ty, pos, af, g⟩) = execOp (Act.eval ⟨t, D⟩) ⟨Option.none, .defer ⟨.value cl, #[], ats⟩, ty, pos, af, g⟩ := rfl
  rw [h3]
  simp [stepG.apply, h2, Frame.atR, Frame.finish, hi, bas]
def VCallD (P : Program) (g : FuncId) (args : Array Value) (H : Heap) (R : Heap → Prop) : Prop :=
  ∀ (w : World) (c : Frame) (cs : List Frame), Emb H w → c.mode = .returning →
    ∃ w' H', R H' ∧ Fr H w H' w' ∧ Steps P (lone (Frame.enter P g args .deferred) (c :: cs) w) (lone c cs w')
theorem vret_def {gf : FuncId} {caps : List Value} {R : Heap → Prop} [hf : TFn P gf] (hc : VCallD P gf caps.toArray H R) (h : ∀ H', R H' → VRet P f N E D H' Q) :
    VRet P f N E (⟨.fn (.func gf) caps.toArray, #[]⟩ :: D) H Q := by
  intro t w cs k hA hE
  obtain ⟨w1, H1, hR, hF, hs⟩ := hc w { (bas f Option.none).atR ⟨t, D⟩ k with mode := .returning } cs hE rfl
  obtain ⟨o, w', m', H', hq, hF2, hs2, hfin⟩ := h H1 hR t w1 cs k hA hF.emb
  refine ⟨o, w', m', H', hq, hF.trans hF2, .head ?_ (hs.trans hs2), hfin⟩
  have hi : (invoke (.fn (.func gf) caps.toArray) #[]).run P w = .ok (.enter gf caps.toArray) w := by
    have e : (#[] : Array Value) ++ caps.toArray = caps.toArray := by simp
    simp only [invoke, e]
    exact run_callFunc _ w
  exact step_defer (P := P) (fr := { (bas f Option.none).atR ⟨t, ⟨.fn (.func gf) caps.toArray, #[]⟩ :: D⟩ k with mode := .returning }) (d := ⟨.fn (.func gf) caps.toArray, #[]⟩) (ds := D) (by simp) rfl rfl hi
theorem vinv {recv : Operand} {name : String} {al : List Operand} {ats : Array TypeId} {gf : FuncId} {T' : TypeId} {u u' : Value} {vs : List Value} {R : Value → Heap → Prop} {R0 : Out → Heap → Prop} [hf : TFn P gf]
    (hx : ev E recv = some (.iface T' u)) (hm : ∀ w, (method (P.types.size + Made.depth) T' u name).run P w = .ok (gf, u') w) (ha : evL E al = some vs)
    (hc : VCall P gf (u' :: vs).toArray H R0) (hv : ∀ o H', R0 o H' → ∃ v, o = .val v ∧ R v H') :
    OG P N E D H ⟨some d, .call ⟨.invoke recv name, al.toArray, ats⟩, ty, pos, af, g⟩ R := by
  refine ⟨by simp, fun t w hA hE => ⟨.enter gf (u' :: vs).toArray, w, ?_, fun c cs => ?_⟩⟩
  · have h1 := evL_map (D := D) hA al vs ha
    have h2 : (callMethod (.iface T' u) name vs.toArray).run P w = .ok (.enter gf (u' :: vs).toArray) w := by
      simp [callMethod, program, Sem.run, Sem.run_bind, hm, Result.andThen, run_callFunc]
    have h3 : al.toArray.map (Act.eval ⟨t, D⟩) = vs.toArray := by rw [← h1]; simp
    simp only [execOp, resolve, ev_eval hA hx, h3, Sem.run_bind, Sem.run_pure, Result.andThen, invoke]
    have e1 : (#[Value.iface T' u] ++ vs.toArray)[0]? = some (.iface T' u) := by simp
    have e2 : (#[Value.iface T' u] ++ vs.toArray).extract 1 (#[Value.iface T' u] ++ vs.toArray).size = vs.toArray := by
      apply Array.ext'; simp
    simp only [e1, e2]
    exact h2
  · obtain ⟨o, w', m', H', hR, hF, hs, hfin⟩ := hc w (c :: cs) hE
    obtain ⟨v, rfl, hv'⟩ := hv o H' hR
    obtain ⟨_, fr', rfl, _, hleave⟩ := hfin
    exact ⟨v, w', ⟨H', hF, hv'⟩, hs.trans (.one (step_leave_returned hleave))⟩
def notIfB (P : Program) (T : TypeId) : Bool := match P.underlying T with | some (.interface _) => false | some _ => true | Option.none => false
theorem vmki {v : Value} (hT : notIfB P T = true) (hx : ev E x = some v) : OQ P N E D H ⟨some d, .makeInterface T x, ty, pos, af, g⟩ (.iface T v) :=
  ov (by simp) (fun t w hA _ => by
    unfold notIfB at hT
    split at hT
    · cases hT
    · rename_i u hne hu
      simp only [execOp, ev_eval hA hx, Instr.makeInterface, Sem.run_bind, run_underlying hu, Result.andThen]
      cases u <;> first | rfl | exact absurd hT (by simp_all) | (exfalso; exact hne _ hu)
    · cases hT)
theorem vtay {v : Value} {T' : TypeId} (hT : notIfB P T = true) (hx : ev E x = some (.iface T v)) : OQ P N E D H ⟨some d, .typeAssert x T' T true, ty, pos, af, g⟩ (.tuple [v, .bool true].toArray) :=
  ov (by simp) (fun t w hA _ => by
    unfold notIfB at hT
    split at hT
    · cases hT
    · rename_i u hne hu
      simp only [execOp, ev_eval hA hx, Instr.typeAssert, Sem.run_bind, run_underlying hu, Result.andThen]
      cases u <;> first | simp [Sem.run_pure] | (exfalso; exact hne _ hu)
    · cases hT)
end
end Go.Proofs.YtmfmecgiaekelaaGreatDoor
