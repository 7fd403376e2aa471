/-
  Parts of the proof: rules of the engine, walks of functions, plain Lean. No condition.
-/
import Derived.Test.YtoebpndlbldfcaaGreatDoorTd08
namespace Go.Proofs.YtoebpndlbldfcaaGreatDoor
open Go
set_option maxRecDepth 100000
attribute [local irreducible] tightP hullP rootP farP rows endsOf
section
variable {P : Program} {N : Nat} {E : Env} {D : List Deferred} {H : Heap}
variable {d : Nat} {x y : Operand} {T ty T' : TypeId} {pos : String} {af : Array Edge} {g : Option (Nat × Bool)}
def bitI (u i : Nat) : Int := if u.testBit i = true then ((1 <<< i : Nat) : Int) else 0
theorem bit_all : ((List.range 16).all fun u => (List.range 4).all fun i => decide (IntKind.i64.wrap ((BitVec.ofInt 64 (u : Int) &&& BitVec.ofInt 64 ((1 <<< i : Nat) : Int)).toNat : Int) = bitI u i) && (decide (IntKind.i64.wrap ((BitVec.ofInt 64 (u : Int) ||| BitVec.ofInt 64 ((1 <<< i : Nat) : Int)).toNat : Int) = ((u ||| 1 <<< i : Nat) : Int)) && (decide (IntKind.i64.wrap (1 * 2 ^ (min i 64)) = ((1 <<< i : Nat) : Int)) && decide (u ||| 1 <<< i < 16)))) = true := by decide
theorem bit_facts {u i : Nat} (hu : u < 16) (hi : i < 4) : IntKind.i64.wrap ((BitVec.ofInt 64 (u : Int) &&& BitVec.ofInt 64 ((1 <<< i : Nat) : Int)).toNat : Int) = bitI u i ∧ IntKind.i64.wrap ((BitVec.ofInt 64 (u : Int) ||| BitVec.ofInt 64 ((1 <<< i : Nat) : Int)).toNat : Int) = ((u ||| 1 <<< i : Nat) : Int) ∧ IntKind.i64.wrap (1 * 2 ^ (min i 64)) = ((1 <<< i : Nat) : Int) ∧ u ||| 1 <<< i < 16 := by
  have h := List.all_eq_true.1 (List.all_eq_true.1 bit_all u (List.mem_range.2 hu)) i (List.mem_range.2 hi)
  simp only [Bool.and_eq_true, decide_eq_true_eq] at h
  exact h
theorem vshl1 {i : Nat} (hi : i < 4) (hx : ev E x = some (I 1)) (hy : ev E y = some (I (i : Int))) : OQ P N E D H ⟨some d, .binOp .shl T x y T', ty, pos, af, g⟩ (I ((1 <<< i : Nat) : Int)) :=
  ov (by simp) (fun t w hA _ => by
    have h := (bit_facts (u := 0) (by omega) hi).2.2.1
    have h0 : ¬ ((i : Int) < 0) := by omega
    have e : IntKind.i64.bits = 64 := rfl
    rw [Nat.min_eq_left (by omega)] at h
    have hm : min i 64 = i := Nat.min_eq_left (by omega)
    simp [execOp, ev_eval hA hx, ev_eval hA hy, binOp, eqGuard, Op.shift, h0, e, hm]
    simpa using h)
theorem vandb {u i : Nat} (hu : u < 16) (hi : i < 4) (hx : ev E x = some (I (u : Int))) (hy : ev E y = some (I ((1 <<< i : Nat) : Int))) : OQ P N E D H ⟨some d, .binOp .and T x y T', ty, pos, af, g⟩ (I (bitI u i)) :=
  ov (by simp) (fun t w hA _ => by
    have h := (bit_facts hu hi).1
    simp only [execOp, ev_eval hA hx, ev_eval hA hy, binOp, eqGuard, Op.intBits]
    rw [← h]; rfl)
theorem vorb {u i : Nat} (hu : u < 16) (hi : i < 4) (hx : ev E x = some (I (u : Int))) (hy : ev E y = some (I ((1 <<< i : Nat) : Int))) : OQ P N E D H ⟨some d, .binOp .or T x y T', ty, pos, af, g⟩ (I ((u ||| 1 <<< i : Nat) : Int)) :=
  ov (by simp) (fun t w hA _ => by
    have h := (bit_facts hu hi).2.1
    simp only [execOp, ev_eval hA hx, ev_eval hA hy, binOp, eqGuard, Op.intBits]
    rw [← h]; rfl)
theorem bitI_f {u i : Nat} (h : u.testBit i = false) : decide (bitI u i = 0) = true := by unfold bitI; rw [h]; rfl
theorem bitI_t {u i : Nat} (h : u.testBit i = true) : decide (bitI u i = 0) = false := by
  unfold bitI; rw [if_pos h]
  have : (1 <<< i : Nat) ≠ 0 := by rw [Nat.shiftLeft_eq]; have := Nat.two_pow_pos i; omega
  exact decide_eq_false (by omega)
end
def freeN (n u : Nat) : Nat := ((List.range n).filter fun i => !u.testBit i).length
theorem free_all : ((List.range 5).all fun n => (List.range 16).all fun u => (List.range n).all fun i => u.testBit i || decide (freeN n (u ||| 1 <<< i) + 1 ≤ freeN n u)) = true := by decide
theorem free_or {n u i : Nat} (hn : n ≤ 4) (hu : u < 16) (hi : i < n) (h : u.testBit i = false) : freeN n (u ||| 1 <<< i) + 1 ≤ freeN n u := by
  have h1 := List.all_eq_true.1 (List.all_eq_true.1 (List.all_eq_true.1 free_all n (List.mem_range.2 (by omega))) u (List.mem_range.2 hu)) i (List.mem_range.2 hi)
  rw [h, Bool.false_or, decide_eq_true_eq] at h1
  exact h1
theorem free_0 {n u i : Nat} (h : freeN n u = 0) (hi : i < n) : u.testBit i = true := by
  unfold freeN at h
  have h1 := List.eq_nil_of_length_eq_zero h
  cases hb : u.testBit i with
  | true => rfl
  | false =>
    have : i ∈ (List.range n).filter fun i => !u.testBit i := List.mem_filter.2 ⟨List.mem_range.2 hi, by rw [hb]; rfl⟩
    rw [h1] at this; cases this
def nxf (c : Cz) (b : Pt) (k : Nat) (l : List Pt) (u i : Nat) : List (List Pt) := if u.testBit i = true then [] else match c.buoys[i]? with | some p => nextP c b k (l ++ [p]) (u ||| 1 <<< i) | none => []
def doneL (c : Cz) (b : Pt) (k : Nat) (l : List Pt) (u i : Nat) : List (List Pt) := (l ++ [b]) :: (List.range i).flatMap (nxf c b (k - 1) l u)
theorem nextP_eq {c : Cz} {b : Pt} {k : Nat} {l : List Pt} {u : Nat} (h : freeN c.buoys.length u ≤ k) : nextP c b k l u = doneL c b k l u c.buoys.length := by
  cases k with
  | succ k => rfl
  | zero =>
    have : (List.range c.buoys.length).flatMap (nxf c b (0 - 1) l u) = [] := by
      rw [List.flatMap_eq_nil_iff]
      intro i hi
      unfold nxf; rw [if_pos (free_0 (by omega) (List.mem_range.1 hi))]
    unfold doneL; rw [this]; rfl
theorem done_succ {c : Cz} {b : Pt} {k : Nat} {l : List Pt} {u i : Nat} : doneL c b k l u (i + 1) = doneL c b k l u i ++ nxf c b (k - 1) l u i := by
  unfold doneL; rw [List.range_succ, List.flatMap_append]; simp
theorem nxf_t {c : Cz} {b : Pt} {k : Nat} {l : List Pt} {u i : Nat} (h : u.testBit i = true) : nxf c b k l u i = [] := by unfold nxf; rw [if_pos h]
theorem nxf_f {c : Cz} {b : Pt} {k : Nat} {l : List Pt} {u i : Nat} {p : Pt} (h : u.testBit i = false) (hz : c.buoys[i]? = some p) : nxf c b k l u i = nextP c b k (l ++ [p]) (u ||| 1 <<< i) := by unfold nxf; rw [if_neg (by rw [h]; simp), hz]
theorem done_le {c : Cz} {b : Pt} {k : Nat} {l : List Pt} {u i n : Nat} (h : i ≤ n) : ∃ R, doneL c b k l u n = doneL c b k l u i ++ R := by
  induction n with
  | zero => exact ⟨[], by rw [show i = 0 by omega, List.append_nil]⟩
  | succ n ih =>
    by_cases e : i = n + 1
    · subst e; exact ⟨[], (List.append_nil _).symm⟩
    · obtain ⟨R, hR⟩ := ih (by omega)
      exact ⟨R ++ nxf c b (k - 1) l u n, by rw [done_succ, hR, List.append_assoc]⟩
theorem done_0 {α : Type} {c : Cz} {b : Pt} {k : Nat} {l : List Pt} {u : Nat} {f : List Pt → Option α} : (doneL c b k l u 0).filterMap f = (f (l ++ [b])).toList := by
  unfold doneL
  simp only [List.range_zero, List.flatMap_nil, List.filterMap_cons, List.filterMap_nil]
  cases f (l ++ [b]) <;> rfl
theorem first_split {α : Type} {c : Cz} {b : Pt} {k : Nat} {l : List Pt} {u : Nat} {f : List Pt → Option α} {xs pre post : List α} (h : freeN c.buoys.length u ≤ k) (hxs : xs = pre ++ ((nextP c b k l u).filterMap f ++ post)) : ∃ post', xs = pre ++ ((f (l ++ [b])).toList ++ post') := by
  obtain ⟨R, hR⟩ := done_le (c := c) (b := b) (k := k) (l := l) (u := u) (Nat.zero_le c.buoys.length)
  exact ⟨R.filterMap f ++ post, by rw [hxs, nextP_eq h, hR, List.filterMap_append, done_0, List.append_assoc]⟩
theorem step_split {α : Type} {c : Cz} {b : Pt} {k : Nat} {l : List Pt} {u i : Nat} {p : Pt} {f : List Pt → Option α} {xs pre post : List α} (h : freeN c.buoys.length u ≤ k) (hi : i < c.buoys.length) (hb : u.testBit i = false) (hz : c.buoys[i]? = some p) (hxs : xs = pre ++ ((nextP c b k l u).filterMap f ++ post)) :
    ∃ post', xs = (pre ++ (doneL c b k l u i).filterMap f) ++ ((nextP c b (k - 1) (l ++ [p]) (u ||| 1 <<< i)).filterMap f ++ post') := by
  obtain ⟨R, hR⟩ := done_le (c := c) (b := b) (k := k) (l := l) (u := u) (show i + 1 ≤ c.buoys.length from hi)
  exact ⟨R.filterMap f ++ post, by rw [hxs, nextP_eq h, hR, done_succ, nxf_f hb hz, List.filterMap_append, List.filterMap_append]; simp only [List.append_assoc]⟩
section
open Classical in
theorem pmD (x C : Heap) : (x ++ (C ++ [])).Perm (C ++ x) := perm_of fun a => by simp only [List.count_append, List.count_nil]; omega
open Classical in
theorem pmE (x B m G C : Heap) : ((x ++ (B ++ [])) ++ (m ++ (G ++ C))).Perm (m ++ (((x ++ B) ++ G) ++ C)) := perm_of fun a => by simp only [List.count_append, List.count_nil]; omega
open Classical in
theorem pmF (x B y m G C : Heap) : ((x ++ (B ++ [])) ++ (y ++ (m ++ (G ++ C)))).Perm (m ++ (((x ++ (B ++ y)) ++ G) ++ C)) := perm_of fun a => by simp only [List.count_append, List.count_nil]; omega
end
theorem subX (X G C : Heap) : (G ++ C).Sublist ((X ++ G) ++ C) := (List.sublist_append_right X G).append_right C
def NextOK (h : CH) (c : Cz) (a b : Ps) (bm bc kc ka kb ky ko kn : Nat) (Y : Value) (xs : List (List Pt × Int)) (J : List (List Pt × Int) → Heap → Prop) (Jx : Heap → Prop) (k : Nat) : Prop := ∀ (G : Heap) [hcz : CzO G h c] [hat0 : HAt G bc (clCh h c bm) 173] [hat1 : HAt G kc [ptr bc] 165] [hat2 : HAt G ka (clPs a) 181] [hat3 : HAt G kb (clPs b) 181] [hat4 : HAt G ky [Y] 269] [hat5 : HAt G ko [.func (.func 184) #[] #[ptr kc, ptr ka, ptr kb, ptr ky]] 314] [hat6 : HAt G kn [.func (.func 187) #[] #[ptr ko, ptr kb, ptr kc, ptr kn]] 315] (l : List Pt) (oa : Option Addr) (nn cp u : Nat) [hsl : SlO G oa 2 encP l] (hl : ∀ p ∈ l, p.ok) (hnn : l.length = nn) (hfr : freeN c.buoys.length u ≤ k) (hu : u < 16) (hlen : 0 < l.length ∧ l.length + k ≤ 5) (ml : List EnS) (n : Nat) (hk : KnS c ml) (Hc : Heap) (pre post : List (List Pt × Int)) (hxs : xs = pre ++ ((nextP c b.pt k l u).filterMap (passF c a b) ++ post)) (hJ : J pre Hc), VCall Tryz.prog 187 [.slice oa nn cp, I (u : Int), ptr ko, ptr kb, ptr kc, ptr kn].toArray ((bm, mSt ml n) :: (G ++ Hc)) (fun o H' => ∃ ok ml' n' Hc', H' = (bm, mSt ml' n') :: (G ++ Hc') ∧ KnS c ml' ∧ o = .val (.bool ok) ∧ if ok = true then J (pre ++ (nextP c b.pt k l u).filterMap (passF c a b)) Hc' else Jx Hc')
theorem d_next0 (h : CH) (c : Cz) (a b : Ps) (bm bc kc ka kb ky ko kn : Nat) (Y : Value) {xs : List (List Pt × Int)} {J : List (List Pt × Int) → Heap → Prop} {Jx : Heap → Prop} (hy : Yld Tryz.prog Y XPass xs J Jx) (hok : okCz c) (hpa : okPs a) (hpb : okPs b) (k : Nat) (IH : ∀ k', k' < k → NextOK h c a b bm bc kc ka kb ky ko kn Y xs J Jx k') (G : Heap) [hcz : CzO G h c] [hat0 : HAt G bc (clCh h c bm) 173] [hat1 : HAt G kc [ptr bc] 165] [hat2 : HAt G ka (clPs a) 181] [hat3 : HAt G kb (clPs b) 181] [hat4 : HAt G ky [Y] 269] [hat5 : HAt G ko [.func (.func 184) #[] #[ptr kc, ptr ka, ptr kb, ptr ky]] 314] [hat6 : HAt G kn [.func (.func 187) #[] #[ptr ko, ptr kb, ptr kc, ptr kn]] 315] (l : List Pt) (oa : Option Addr) (nn cp u : Nat) [hsl : SlO G oa 2 encP l] (hl : ∀ p ∈ l, p.ok) (hnn : l.length = nn) (hfr : freeN c.buoys.length u ≤ k) (hu : u < 16) (hlen : 0 < l.length ∧ l.length + k ≤ 5) (ml : List EnS) (n : Nat) (hk : KnS c ml) (Hc : Heap) (pre post : List (List Pt × Int)) (hxs : xs = pre ++ ((nextP c b.pt k l u).filterMap (passF c a b) ++ post)) (hJ : J pre Hc) : VCall Tryz.prog 187 [.slice oa nn cp, I (u : Int), ptr ko, ptr kb, ptr kc, ptr kn].toArray ((bm, mSt ml n) :: (G ++ Hc)) (fun o H' => ∃ ok ml' n' Hc', H' = (bm, mSt ml' n') :: (G ++ Hc') ∧ KnS c ml' ∧ o = .val (.bool ok) ∧ if ok = true then J (pre ++ (nextP c b.pt k l u).filterMap (passF c a b)) Hc' else Jx Hc') := by
 have hnb := hok.2.2.1
 obtain ⟨post1, hpost1⟩ := first_split hfr hxs
 refine CV 51 Tryz.func187 ?_
 refine KK2 (QA (vnil (vseq (vseq ?_))))
 refine DR [(.q, 0), (.q, 1), (.q, 3), (.q, 4), (.g, 2), (.m, 5), (.s, 6), (.w, 7), (.q, 8)] Tryz.mixed ?_
 refine DL ?_
 refine DM ?_
 refine DF ?_
 refine DN ?_
 refine vdgl rfl (mone rfl) (vcg rfl rfl rfl (d_CloneP l oa _ cp hnn (by omega) _) (fun o H' h => h)) rfl rfl ?_
 rintro _ B ⟨oa1, c1, rfl, hown⟩
 refine vdm (mone rfl) (vbsP rfl rfl rfl rfl rfl rfl) rfl rfl (fun b1 => ?_)
 refine vdsd (mone rfl) (vappF (a := ⟨b1, 0, Option.none⟩) (m := 1) (c := 1) (size := 2) (bytes := 16) (F := fun C => (b1, blk (encP b.pt) 44) :: (C ++ [])) (H0 := [(b1, blk (encP b.pt) 44)]) (B := B) (xs := l.flatMap encP) (news := encP b.pt) (fun C => pmD [(b1, blk (encP b.pt) 44)] C) rfl rfl hown rfl (news_blk (b := b1) (List.Mem.head _)) (one1 (fun _ => rfl) [b.pt] _ (by simp)) (by omega) (by simp only [maxLen]; omega) (by omega)) rfl rfl ?_
 rintro _ _ ⟨B2, hown2, _, rfl⟩
 obtain ⟨oa2, cp2, rfl, hle2⟩ := hown2.shape
 refine vdw (appHO_of _ _) (mone rfl) (vcg (R := fun v H' => ∃ ok ml' n' Hc', v = .bool ok ∧ H' = (bm, mSt ml' n') :: ((((b1, blk (encP b.pt) 44) :: B2) ++ G) ++ Hc') ∧ KnS c ml' ∧ if ok = true then J (pre ++ (passF c a b (l ++ [b.pt])).toList) Hc' else Jx Hc') rfl rfl rfl (VCall.perm (pmE [(b1, blk (encP b.pt) 44)] B2 [(bm, mSt ml n)] G Hc) (haveI := (hown2.slo (l := l ++ [b.pt]) (fun _ => rfl) (by omega) (by rw [List.flatMap_append]; rfl) (by simp; omega)); d_offer h c a b bm bc kc ka kb ky Y hy hok hpa hpb (((b1, blk (encP b.pt) 44) :: B2) ++ G) (l ++ [b.pt]) oa2 cp2 (fun p hp => (List.mem_append.1 hp).elim (hl p) (fun e => by rw [List.mem_singleton.1 e]; exact hpb.1)) (nn + 1) (by simp; omega) (by simp; omega) ml n hk Hc pre post1 hpost1 hJ)) (fun o H' ⟨ok, ml', n', Hc', h1, h2, h3, h4⟩ => ⟨_, h3, ok, ml', n', Hc', rfl, h1, h2, h4⟩)) rfl rfl ?_
 rintro _ _ ⟨ok1, ml1, n1, Hc1, rfl, rfl, hk1, hJ1⟩
 refine DD (vnot rfl) rfl (vdend rfl ?_)
 refine vcond rfl (fun h19 => ?_) (fun h19 => ?_)
 ·
  obtain rfl : ok1 = false := nf h19
  refine VRun.sub (H' := (bm, mSt ml1 n1) :: (G ++ Hc1)) ((subX _ _ _).cons_cons _) ?_
  refine KK2 (QA (vnil ?_))
  refine vret (V1 ((bm, mSt ml1 n1) :: (G ++ Hc1)) Tryz.func187 ?_)
  exact ⟨false, ml1, n1, Hc1, rfl, hk1, rfl, by simpa using hJ1⟩
 ·
  obtain rfl : ok1 = true := nt h19
  rw [if_pos rfl, ← done_0 (k := k) (u := u)] at hJ1
  refine VRun.sub (H' := (bm, mSt ml1 n1) :: (G ++ Hc1)) ((subX _ _ _).cons_cons _) ?_
  refine vskip (vseq (KK2 (QL ?_)))
  refine QC ?_
  refine QF ?_
  refine QF ?_
  refine QL ?_
  refine QQ (vlen rfl) rfl ?_
  refine QM (vnil (vblock ?_))
  refine vwhile (σ := Nat × List EnS × Nat × Heap) (fun ⟨i, ml2, n2, Hc2⟩ => c.buoys.length - i) (fun ⟨i, ml2, n2, Hc2⟩ => [(0, .slice oa nn cp), (1, I (u : Int)), (2, ptr ko), (3, ptr kb), (4, ptr kc), (5, ptr kn), (24, .slice h.a3 c.buoys.length h.c3), (25, I c.buoys.length), (26, I (i : Int))]) (fun ⟨i, ml2, n2, Hc2⟩ => (bm, mSt ml2 n2) :: (G ++ Hc2)) (fun ⟨i, ml2, n2, Hc2⟩ => i ≤ c.buoys.length ∧ KnS c ml2 ∧ J (pre ++ (doneL c b.pt k l u i).filterMap (passF c a b)) Hc2) (0, ml1, n1, Hc1) ⟨Nat.zero_le _, hk1, hJ1⟩ ⟨rfl, rfl, rfl, rfl, rfl, rfl, rfl, rfl, rfl, True.intro⟩ sb ?_
  rintro ⟨i, ml2, n2, Hc2⟩ ⟨hil, hk2, hJ2⟩ IHl
  change VRun _ _ _ _ _ [(0, .slice oa nn cp), (1, I (u : Int)), (2, ptr ko), (3, ptr kb), (4, ptr kc), (5, ptr kn), (24, .slice h.a3 c.buoys.length h.c3), (25, I c.buoys.length), (26, I (i : Int))] _ ((bm, mSt ml2 n2) :: (G ++ Hc2)) _
  refine KK2 (QS (vnil (vseq ?_)))
  refine vcondd rfl (fun h27 => ?_) (fun h27 => ?_)
  ·
   obtain ⟨p, hz⟩ := get_of_lt c.buoys (i := i) (by omega)
   have hpk := hok.2.2.2.2.2.2.2.1 p (List.mem_of_getElem? hz)
   refine vskip (vseq (vblock (KK2 (QM ?_))))
   refine QQ (visg (enc := encP) rfl rfl (by omega) hz) rfl ?_
   refine QQ (vldS (enc := encP) rfl hz) rfl ?_
   refine AL fun b2 => ?_
   refine QA ?_
   cases hbit : u.testBit i
   ·
    have hfo := free_or hnb hu (by omega) hbit
    obtain ⟨post2, hpost2⟩ := step_split hfr (by omega) hbit hz hxs
    refine SN (vnil (vseq ?_))
    refine DR [(.q, 0), (.q, 1), (.q, 2), (.q, 3), (.q, 4), (.q, 5), (.q, 6), (.q, 7), (.q, 9), (.q, 12), (.q, 13), (.q, 14), (.q, 15), (.g, 8), (.m, 10), (.s, 11), (.w, 16), (.q, 17), (.q, 18)] Tryz.mixed ?_
    refine DM ?_
    refine DM ?_
    refine DD (vshl1 (i := i) (by omega) rfl rfl) rfl ?_
    refine DD (vandb hu (by omega) rfl rfl) rfl ?_
    refine DE ?_
    refine DM ?_
    refine vdknow (d := 36) (b' := true) rfl (bitI_f hbit) ?_
    refine WL ?_
    refine WM ?_
    refine WN ?_
    refine WM ?_
    refine WM ?_
    refine WW (vshl1 (i := i) (by omega) rfl rfl) rfl ?_
    refine WW (vorb hu (by omega) rfl rfl) rfl ?_
    refine vdgl rfl (myes rfl rfl rfl) (vcg rfl rfl rfl (d_CloneP l oa _ cp hnn (by omega) _) (fun o H' h => h)) rfl rfl ?_
    rintro _ B3 ⟨oa3, c3, rfl, hown3⟩
    refine vdm (myes rfl rfl rfl) (vbsP rfl rfl rfl rfl rfl rfl) rfl rfl (fun b3 => ?_)
    refine vdsd (myes rfl rfl rfl) (vappF (a := ⟨b3, 0, Option.none⟩) (m := 1) (c := 1) (size := 2) (bytes := 16) (F := fun C => (b3, blk (encP p) 44) :: (C ++ [])) (H0 := [(b3, blk (encP p) 44)]) (B := B3) (xs := l.flatMap encP) (news := encP p) (fun C => pmD [(b3, blk (encP p) 44)] C) rfl rfl hown3 rfl (news_blk (b := b3) (List.Mem.head _)) (one1 (fun _ => rfl) [p] _ (by simp)) (by omega) (by simp only [maxLen]; omega) (by omega)) rfl rfl ?_
    rintro _ _ ⟨B4, hown4, _, rfl⟩
    obtain ⟨oa4, cp4, rfl, hle4⟩ := hown4.shape
    refine vdw (appHO_of _ _) (myes rfl rfl rfl) (vcg (R := fun v H' => ∃ ok ml' n' Hc', v = .bool ok ∧ H' = (bm, mSt ml' n') :: ((((b3, blk (encP p) 44) :: (B4 ++ [(b2, blk (encP p) 44)])) ++ G) ++ Hc') ∧ KnS c ml' ∧ if ok = true then J ((pre ++ (doneL c b.pt k l u i).filterMap (passF c a b)) ++ (nextP c b.pt (k - 1) (l ++ [p]) (u ||| 1 <<< i)).filterMap (passF c a b)) Hc' else Jx Hc') rfl rfl rfl (VCall.perm (pmF [(b3, blk (encP p) 44)] B4 [(b2, blk (encP p) 44)] [(bm, mSt ml2 n2)] G Hc2) (haveI := (hown4.slo (l := l ++ [p]) (fun _ => rfl) (by omega) (by rw [List.flatMap_append]; rfl) (by simp; omega)); IH (k - 1) (by omega) (((b3, blk (encP p) 44) :: (B4 ++ [(b2, blk (encP p) 44)])) ++ G) (l ++ [p]) oa4 (nn + 1) cp4 (u ||| 1 <<< i) (fun q hq => (List.mem_append.1 hq).elim (hl q) (fun e => by rw [List.mem_singleton.1 e]; exact hpk)) (by simp; omega) (by omega) (bit_facts hu (by omega)).2.2.2 (by simp; omega) ml2 n2 hk2 Hc2 _ post2 hpost2 hJ2)) (fun o H' ⟨ok, ml', n', Hc', h1, h2, h3, h4⟩ => ⟨_, h3, ok, ml', n', Hc', rfl, h1, h2, h4⟩)) rfl rfl ?_
    rintro _ _ ⟨ok3, ml3, n3, Hc3, rfl, rfl, hk3, hJ3⟩
    refine WW (vnot rfl) rfl ?_
    refine DT (vdend rfl ?_)
    refine vcond rfl (fun h49 => ?_) (fun h49 => ?_)
    ·
     obtain rfl : ok3 = false := nf h49
     refine VRun.sub (H' := (bm, mSt ml3 n3) :: (G ++ Hc3)) ((subX _ _ _).cons_cons _) ?_
     refine KK2 (QA (vnil ?_))
     refine vret (V1 ((bm, mSt ml3 n3) :: (G ++ Hc3)) Tryz.func187 ?_)
     exact ⟨false, ml3, n3, Hc3, rfl, hk3, rfl, by simpa using hJ3⟩
    ·
     obtain rfl : ok3 = true := nt h49
     rw [if_pos rfl] at hJ3
     refine VRun.sub (H' := (bm, mSt ml3 n3) :: (G ++ Hc3)) ((subX _ _ _).cons_cons _) ?_
     refine vskip (vinblock (vregion (QQ (vadd rfl rfl (by unfold InR; omega)) rfl ?_)))
     refine QM (vnil ?_)
     exact vback (IHl (i + 1, ml3, n3, Hc3) ⟨by omega, hk3, by rw [done_succ, nxf_f hbit hz, List.filterMap_append, ← List.append_assoc]; exact hJ3⟩ (by show _ - (i + 1) < _ - i; omega)) ⟨rfl, rfl, rfl, rfl, rfl, rfl, rfl, rfl, rfl, True.intro⟩ sb2
   ·
    refine SN (vnil (vseq ?_))
    refine DR [(.q, 0), (.q, 1), (.q, 2), (.q, 3), (.q, 4), (.q, 5), (.q, 6), (.q, 7), (.q, 8), (.q, 9), (.q, 10), (.q, 11), (.q, 12), (.q, 13), (.q, 14), (.q, 15), (.q, 16), (.q, 17), (.q, 18)] Tryz.mixed ?_
    refine DM ?_
    refine DM ?_
    refine DD (vshl1 (i := i) (by omega) rfl rfl) rfl ?_
    refine DD (vandb hu (by omega) rfl rfl) rfl ?_
    refine DE ?_
    refine DM ?_
    refine vdknow (d := 36) (b' := false) rfl (bitI_t hbit) ?_
    refine NP4 ?_
    refine NP4 ?_
    refine NP4 ?_
    refine DU (vdend rfl ?_)
    refine vcondf rfl (vskip (vinblock (vregion (QQ (vadd rfl rfl (by unfold InR; omega)) rfl ?_))))
    refine QM (vnil ?_)
    exact vback (IHl (i + 1, ml2, n2, Hc2) ⟨by omega, hk2, by rw [done_succ, nxf_t hbit, List.append_nil]; exact hJ2⟩ (by show _ - (i + 1) < _ - i; omega)) ⟨rfl, rfl, rfl, rfl, rfl, rfl, rfl, rfl, rfl, True.intro⟩ sb2
  ·
   refine vexit (k' := _) rfl ?_
   refine KK2 (QA (vnil ?_))
   refine vret (V1 ((bm, mSt ml2 n2) :: (G ++ Hc2)) Tryz.func187 ?_)
   exact ⟨true, ml2, n2, Hc2, rfl, hk2, rfl, by rw [if_pos rfl, nextP_eq hfr]; obtain rfl : i = c.buoys.length := (by omega); exact hJ2⟩
end Go.Proofs.YtoebpndlbldfcaaGreatDoor
namespace Go.Proofs.YtoebpndlbldfcaaGreatDoor
open Go
set_option maxRecDepth 100000
attribute [local irreducible] tightP hullP rootP farP rows endsOf
theorem d_next (h : CH) (c : Cz) (a b : Ps) (bm bc kc ka kb ky ko kn : Nat) (Y : Value) {xs : List (List Pt × Int)} {J : List (List Pt × Int) → Heap → Prop} {Jx : Heap → Prop} (hy : Yld Tryz.prog Y XPass xs J Jx) (hok : okCz c) (hpa : okPs a) (hpb : okPs b) : ∀ (m k : Nat), k ≤ m → NextOK h c a b bm bc kc ka kb ky ko kn Y xs J Jx k
  | 0, k, hkm => by
    obtain rfl : k = 0 := by omega
    exact d_next0 h c a b bm bc kc ka kb ky ko kn Y hy hok hpa hpb 0 (fun k' hk' => by omega)
  | m + 1, k, hkm => d_next0 h c a b bm bc kc ka kb ky ko kn Y hy hok hpa hpb k (fun k' hk' => d_next h c a b bm bc kc ka kb ky ko kn Y hy hok hpa hpb m k' (by omega))
theorem slo_one {b : Nat} {p : Pt} {T : TypeId} {H : Heap} : SlO ((b, blk (encP p) T) :: H) (some ⟨b, 0, Option.none⟩) 2 encP [p] := by
  have h : SlO [(b, blk (encP p) T)] (some ⟨b, 0, Option.none⟩) 2 encP [p] := SlO.blk (T := T) (cs := encP p) fun i x hx => by
    cases i with
    | zero =>
      simp only [List.getElem?_cons_zero, Option.some.injEq] at hx
      subst hx
      exact ⟨rfl, fun j v hj => by simpa using hj⟩
    | succ i => simp at hx
  exact h.sub (fun e he => by rw [List.mem_singleton.1 he]; exact List.Mem.head _)
theorem pass_tried {c : Cz} {a b : Ps} : passP c a b = (triedP c a b).filterMap (passF c a b) := rfl
theorem tried_eq {c : Cz} {a b : Ps} (h : a.pt = b.pt) : passP c a b = (passF c a b [a.pt]).toList ++ ((nextP c b.pt c.buoys.length [a.pt] 0).filterMap (passF c a b) ++ []) := by
  have e : [[a.pt]].filterMap (passF c a b) = (passF c a b [a.pt]).toList := by
    simp only [List.filterMap_cons, List.filterMap_nil]
    cases passF c a b [a.pt] <;> rfl
  rw [pass_tried, List.append_nil, ← e, ← List.filterMap_append]; unfold triedP; rw [if_pos h]
theorem tried_ne {c : Cz} {a b : Ps} (h : ¬ a.pt = b.pt) : passP c a b = [] ++ ((nextP c b.pt c.buoys.length [a.pt] 0).filterMap (passF c a b) ++ []) := by
  rw [pass_tried]; unfold triedP; rw [if_neg h]; simp
theorem free_le {n u : Nat} : freeN n u ≤ n := by
  unfold freeN
  have := List.length_filter_le (fun i => !u.testBit i) (List.range n)
  rwa [List.length_range] at this
section
open Classical in
theorem pmG (x m G C : Heap) : (x ++ (m ++ (G ++ C))).Perm (m ++ ((x ++ G) ++ C)) := perm_of fun a => by simp only [List.count_append]; omega
end
theorem it_passages (h : CH) (c : Cz) (a b : Ps) (bm bc kc ka kb : Nat) (hok : okCz c) (hpa : okPs a) (hpb : okPs b) (G : Heap) [hcz : CzO G h c] [hat0 : HAt G bc (clCh h c bm) 173] [hat1 : HAt G kc [ptr bc] 165] [hat2 : HAt G ka (clPs a) 181] [hat3 : HAt G kb (clPs b) 181] (ml : List EnS) (n : Nat) (hk : KnS c ml) : VItK Tryz.prog 183 [ptr kc, ptr ka, ptr kb] XPass (passP c a b) ((bm, mSt ml n) :: G) (fun H' => ∃ ml' n', H' = (bm, mSt ml' n') :: G ∧ KnS c ml') := by
 intro yf ya yc J Jx Hc hJ hy
 have hnb := hok.2.2.1
 change VCall _ _ _ ((bm, mSt ml n) :: (G ++ Hc)) _
 refine CV 27 Tryz.func183 ?_
 refine KK2 (BX fun b1 => (KK3 ?_))
 refine QQ (vmf rfl) rfl ?_
 refine AL fun b2 => ?_
 refine SU (vnil (vseq (KK2 ?_)))
 refine QF ?_
 refine QN ?_
 refine QF ?_
 refine QN ?_
 refine QQ (veqs rfl rfl rfl rfl rfl rfl) rfl ?_
 by_cases hpt : a.pt = b.pt
 ·
  refine QM ?_
  refine vknow (d := 13) (b' := true) rfl (decide_eq_true (by rw [hpt])) ?_
  refine YL ?_
  refine YF ?_
  refine YN ?_
  refine vyes rfl rfl rfl (vxg (vbs rfl rfl rfl rfl rfl rfl) rfl rfl ?_)
  rintro _ _ ⟨b3, rfl, rfl⟩
  refine vyes rfl rfl rfl (vxg (vcg (R := fun v H' => ∃ ok ml' n' Hc', v = .bool ok ∧ H' = (bm, mSt ml' n') :: (([(b3, blk (encP a.pt) 44), (b2, blk [.func (.func 184) #[] #[ptr kc, ptr ka, ptr kb, ptr b1]] 314), (b1, blk [.func yf ya yc] 269)] ++ G) ++ Hc') ∧ KnS c ml' ∧ if ok = true then J ([] ++ (passF c a b [a.pt]).toList) Hc' else Jx Hc') rfl rfl rfl (VCall.perm (pmG [(b3, blk (encP a.pt) 44), (b2, blk [.func (.func 184) #[] #[ptr kc, ptr ka, ptr kb, ptr b1]] 314), (b1, blk [.func yf ya yc] 269)] [(bm, mSt ml n)] G Hc) (haveI : SlO [(b3, blk (encP a.pt) 44), (b2, blk [.func (.func 184) #[] #[ptr kc, ptr ka, ptr kb, ptr b1]] 314), (b1, blk [.func yf ya yc] 269)] (some ⟨b3, 0, Option.none⟩) 2 encP [a.pt] := slo_one; d_offer h c a b bm bc kc ka kb b1 _ hy hok hpa hpb ([(b3, blk (encP a.pt) 44), (b2, blk [.func (.func 184) #[] #[ptr kc, ptr ka, ptr kb, ptr b1]] 314), (b1, blk [.func yf ya yc] 269)] ++ G) [a.pt] (some ⟨b3, 0, Option.none⟩) 1 (fun p hp => by rw [List.mem_singleton.1 hp]; exact hpa.1) 1 rfl (by simp) ml n hk Hc [] _ (tried_eq hpt) hJ)) (fun o H' ⟨ok, ml', n', Hc', h1, h2, h3, h4⟩ => ⟨_, h3, ok, ml', n', Hc', rfl, h1, h2, h4⟩)) rfl rfl ?_)
  rintro _ _ ⟨ok1, ml1, n1, Hc1, rfl, rfl, hk1, hJ1⟩
  refine YY (vnot rfl) rfl ?_
  refine QT (vnil ?_)
  refine vcond rfl (fun h20 => ?_) (fun h20 => ?_)
  ·
   obtain rfl : ok1 = false := nf h20
   refine VRun.sub (H' := (bm, mSt ml1 n1) :: (G ++ Hc1)) ((subX _ _ _).cons_cons _) ?_
   refine vret (vr0 (H' := (bm, mSt ml1 n1) :: (G ++ Hc1)) Tryz.func183 rfl  sb2 ?_)
   exact ⟨rfl, _, Hc1, rfl, ⟨ml1, n1, rfl, hk1⟩, .inr (by simpa using hJ1)⟩
  ·
   obtain rfl : ok1 = true := nt h20
   rw [if_pos rfl] at hJ1
   refine VRun.sub (H' := (bm, mSt ml1 n1) :: (([(b3, blk (encP a.pt) 44), (b2, blk [.func (.func 184) #[] #[ptr kc, ptr ka, ptr kb, ptr b1]] 314), (b1, blk [.func yf ya yc] 269)] ++ G) ++ Hc1)) (.refl _) ?_
   refine VRun.perm (H' := (b3, blk (encP a.pt) 44) :: (b2, blk [.func (.func 184) #[] #[ptr kc, ptr ka, ptr kb, ptr b1]] 314) :: (b1, blk [.func yf ya yc] 269) :: (bm, mSt ml1 n1) :: (G ++ Hc1)) (pmG [(b3, blk (encP a.pt) 44), (b2, blk [.func (.func 184) #[] #[ptr kc, ptr ka, ptr kb, ptr b1]] 314), (b1, blk [.func yf ya yc] 269)] [(bm, mSt ml1 n1)] G Hc1).symm ?_
   refine VRun.sub (H' := (b2, blk [.func (.func 184) #[] #[ptr kc, ptr ka, ptr kb, ptr b1]] 314) :: (b1, blk [.func yf ya yc] 269) :: (bm, mSt ml1 n1) :: (G ++ Hc1)) (List.sublist_cons_self _ _) ?_
   refine vskip (KK2 (AL fun b4 => (KK3 ?_)))
   refine QQ (vmf rfl) rfl ?_
   refine SU (vnil (vregion ?_))
   refine QL ?_
   refine QF ?_
   refine QN ?_
   refine vone rfl (vxg (vbs rfl rfl rfl rfl rfl rfl) rfl rfl ?_)
   rintro _ _ ⟨b5, rfl, rfl⟩
   refine vone rfl (vxg (vcg (R := fun v H' => ∃ ok ml' n' Hc', v = .bool ok ∧ H' = (bm, mSt ml' n') :: (([(b5, blk (encP a.pt) 44), (b4, blk [.func (.func 187) #[] #[ptr b2, ptr kb, ptr kc, ptr b4]] 315), (b2, blk [.func (.func 184) #[] #[ptr kc, ptr ka, ptr kb, ptr b1]] 314), (b1, blk [.func yf ya yc] 269)] ++ G) ++ Hc') ∧ KnS c ml' ∧ if ok = true then J (([] ++ (passF c a b [a.pt]).toList) ++ (nextP c b.pt c.buoys.length [a.pt] 0).filterMap (passF c a b)) Hc' else Jx Hc') rfl rfl rfl (VCall.perm (pmG [(b5, blk (encP a.pt) 44), (b4, blk [.func (.func 187) #[] #[ptr b2, ptr kb, ptr kc, ptr b4]] 315), (b2, blk [.func (.func 184) #[] #[ptr kc, ptr ka, ptr kb, ptr b1]] 314), (b1, blk [.func yf ya yc] 269)] [(bm, mSt ml1 n1)] G Hc1) (haveI : SlO [(b5, blk (encP a.pt) 44), (b4, blk [.func (.func 187) #[] #[ptr b2, ptr kb, ptr kc, ptr b4]] 315), (b2, blk [.func (.func 184) #[] #[ptr kc, ptr ka, ptr kb, ptr b1]] 314), (b1, blk [.func yf ya yc] 269)] (some ⟨b5, 0, Option.none⟩) 2 encP [a.pt] := slo_one; d_next h c a b bm bc kc ka kb b1 b2 b4 _ hy hok hpa hpb _ c.buoys.length (Nat.le_refl _) ([(b5, blk (encP a.pt) 44), (b4, blk [.func (.func 187) #[] #[ptr b2, ptr kb, ptr kc, ptr b4]] 315), (b2, blk [.func (.func 184) #[] #[ptr kc, ptr ka, ptr kb, ptr b1]] 314), (b1, blk [.func yf ya yc] 269)] ++ G) [a.pt] (some ⟨b5, 0, Option.none⟩) 1 1 0 (fun p hp => by rw [List.mem_singleton.1 hp]; exact hpa.1) rfl free_le (by omega) (by simp only [List.length_singleton]; omega) ml1 n1 hk1 Hc1 ([] ++ (passF c a b [a.pt]).toList) [] (tried_eq hpt) hJ1)) (fun o H' ⟨ok, ml', n', Hc', h1, h2, h3, h4⟩ => ⟨_, h3, ok, ml', n', Hc', rfl, h1, h2, h4⟩)) rfl rfl ?_)
   rintro _ _ ⟨ok2, ml2, n2, Hc2, rfl, rfl, hk2, hJ2⟩
   rcases ok2 with _ | _
   ·
    refine vnil ?_
    refine vend (vr0 (H' := (bm, mSt ml2 n2) :: (G ++ Hc2)) Tryz.func183 rfl  sb2 ?_)
    exact ⟨rfl, _, Hc2, rfl, ⟨ml2, n2, rfl, hk2⟩, .inr (by simpa using hJ2)⟩
   ·
    refine vnil ?_
    refine vend (vr0 (H' := (bm, mSt ml2 n2) :: (G ++ Hc2)) Tryz.func183 rfl  sb2 ?_)
    (rw [if_pos rfl] at hJ2; exact ⟨rfl, _, Hc2, rfl, ⟨ml2, n2, rfl, hk2⟩, .inl (by first | (rw [tried_eq hpt, List.append_nil]; exact hJ2) | (rw [tried_ne hpt, List.append_nil]; exact hJ2))⟩)
 ·
  refine QM ?_
  refine vknow (d := 13) (b' := false) rfl (decide_eq_false (fun e => hpt (pt_eq e))) ?_
  refine NO4 ?_
  refine NO2 ?_
  refine QU (vnil ?_)
  refine vcondf rfl (vskip (KK2 (AL fun b6 => (KK3 ?_))))
  refine QQ (vmf rfl) rfl ?_
  refine SU (vnil (vregion ?_))
  refine QL ?_
  refine QF ?_
  refine QN ?_
  refine vone rfl (vxg (vbs rfl rfl rfl rfl rfl rfl) rfl rfl ?_)
  rintro _ _ ⟨b7, rfl, rfl⟩
  refine vone rfl (vxg (vcg (R := fun v H' => ∃ ok ml' n' Hc', v = .bool ok ∧ H' = (bm, mSt ml' n') :: (([(b7, blk (encP a.pt) 44), (b6, blk [.func (.func 187) #[] #[ptr b2, ptr kb, ptr kc, ptr b6]] 315), (b2, blk [.func (.func 184) #[] #[ptr kc, ptr ka, ptr kb, ptr b1]] 314), (b1, blk [.func yf ya yc] 269)] ++ G) ++ Hc') ∧ KnS c ml' ∧ if ok = true then J ([] ++ (nextP c b.pt c.buoys.length [a.pt] 0).filterMap (passF c a b)) Hc' else Jx Hc') rfl rfl rfl (VCall.perm (pmG [(b7, blk (encP a.pt) 44), (b6, blk [.func (.func 187) #[] #[ptr b2, ptr kb, ptr kc, ptr b6]] 315), (b2, blk [.func (.func 184) #[] #[ptr kc, ptr ka, ptr kb, ptr b1]] 314), (b1, blk [.func yf ya yc] 269)] [(bm, mSt ml n)] G Hc) (haveI : SlO [(b7, blk (encP a.pt) 44), (b6, blk [.func (.func 187) #[] #[ptr b2, ptr kb, ptr kc, ptr b6]] 315), (b2, blk [.func (.func 184) #[] #[ptr kc, ptr ka, ptr kb, ptr b1]] 314), (b1, blk [.func yf ya yc] 269)] (some ⟨b7, 0, Option.none⟩) 2 encP [a.pt] := slo_one; d_next h c a b bm bc kc ka kb b1 b2 b6 _ hy hok hpa hpb _ c.buoys.length (Nat.le_refl _) ([(b7, blk (encP a.pt) 44), (b6, blk [.func (.func 187) #[] #[ptr b2, ptr kb, ptr kc, ptr b6]] 315), (b2, blk [.func (.func 184) #[] #[ptr kc, ptr ka, ptr kb, ptr b1]] 314), (b1, blk [.func yf ya yc] 269)] ++ G) [a.pt] (some ⟨b7, 0, Option.none⟩) 1 1 0 (fun p hp => by rw [List.mem_singleton.1 hp]; exact hpa.1) rfl free_le (by omega) (by simp only [List.length_singleton]; omega) ml n hk Hc [] [] (tried_ne hpt) hJ)) (fun o H' ⟨ok, ml', n', Hc', h1, h2, h3, h4⟩ => ⟨_, h3, ok, ml', n', Hc', rfl, h1, h2, h4⟩)) rfl rfl ?_)
  rintro _ _ ⟨ok2, ml2, n2, Hc2, rfl, rfl, hk2, hJ2⟩
  rcases ok2 with _ | _
  ·
   refine vnil ?_
   refine vend (vr0 (H' := (bm, mSt ml2 n2) :: (G ++ Hc2)) Tryz.func183 rfl  sb2 ?_)
   exact ⟨rfl, _, Hc2, rfl, ⟨ml2, n2, rfl, hk2⟩, .inr (by simpa using hJ2)⟩
  ·
   refine vnil ?_
   refine vend (vr0 (H' := (bm, mSt ml2 n2) :: (G ++ Hc2)) Tryz.func183 rfl  sb2 ?_)
   (rw [if_pos rfl] at hJ2; exact ⟨rfl, _, Hc2, rfl, ⟨ml2, n2, rfl, hk2⟩, .inl (by first | (rw [tried_eq hpt, List.append_nil]; exact hJ2) | (rw [tried_ne hpt, List.append_nil]; exact hJ2))⟩)
end Go.Proofs.YtoebpndlbldfcaaGreatDoor
namespace Go.Proofs.YtoebpndlbldfcaaGreatDoor
open Go
set_option maxRecDepth 100000
attribute [local irreducible] tightP hullP rootP farP rows endsOf
theorem VCall.conv {P : Program} {g : FuncId} {al : Array Value} {H : Heap} {R R' : Out → Heap → Prop} (h : VCall P g al H R) (hr : ∀ o H', R o H' → ∃ H2, H'.Perm H2 ∧ R' o H2) : VCall P g al H R' := by
  intro w cs hE
  obtain ⟨o, w', m', H', hR, hF, hs⟩ := h w cs hE
  obtain ⟨H2, hp, hR'⟩ := hr o H' hR
  exact ⟨o, w', m', H2, hR', hF.perm (.refl _) hp, hs⟩
theorem next_len {c : Cz} {b : Pt} : ∀ (k : Nat) (l : List Pt) (used : Nat), ∀ m ∈ nextP c b k l used, 0 < m.length ∧ m.length ≤ l.length + k + 1
  | 0, l, used, m, hm => by
    simp only [nextP, List.mem_singleton] at hm
    subst hm
    simp
  | k + 1, l, used, m, hm => by
    simp only [nextP, List.mem_cons] at hm
    rcases hm with rfl | hm
    · simp
    · obtain ⟨i, _, hi⟩ := List.mem_flatMap.1 hm
      split at hi
      · cases hi
      · split at hi
        · have := next_len k _ _ m hi
          simp only [List.length_append, List.length_singleton] at this
          omega
        · cases hi
theorem pass_len {c : Cz} {a b : Ps} {x : List Pt × Int} (hx : x ∈ passP c a b) : 0 < x.1.length ∧ x.1.length ≤ c.buoys.length + 2 := by
  obtain ⟨l, hl, hm⟩ := List.mem_filterMap.1 hx
  obtain ⟨n, _, rfl⟩ := Option.map_eq_some_iff.1 hm
  rcases List.mem_append.1 hl with h | h
  · split at h
    · rw [List.mem_singleton.1 h]; exact ⟨by simp, by simp⟩
    · cases h
  · have := next_len _ _ _ l h
    simp only [List.length_singleton] at this
    exact ⟨this.1, by simp only; omega⟩
theorem pass_good {c : Cz} {a b : Ps} (hok : okCz c) (ha : okPs a) (hb : okPs b) : ∀ x ∈ passP c a b, (∀ p ∈ x.1, p.ok) ∧ x.1.length ≤ 9223372036854775807 := fun x hx => by
  have h1 := pass_len hx
  have h2 := hok.2.2.1
  exact ⟨(pass_ok ha.1 hb.1 hok.2.2.2.2.2.2.2.1 hx).1, by omega⟩
section
open Classical in
theorem pmH (L m K H : Heap) : (K ++ (L ++ (m ++ H))).Perm ((m ++ (K ++ H)) ++ L) := perm_of fun a => by simp only [List.count_append]; omega
open Classical in
theorem pmI (L m K H B : Heap) : (((m ++ (K ++ H)) ++ B) ++ L).Perm (L ++ (m ++ (K ++ (B ++ H)))) := perm_of fun a => by simp only [List.count_append]; omega
end
theorem n_passages (a b : Ps) (bc : Nat) (H : Heap) : VCall Tryz.prog 152 [ptr bc, vPs a, vPs b].toArray H (fun o H' => ∃ kc ka kb, o = .val (.func (.func 183) #[] #[ptr kc, ptr ka, ptr kb]) ∧ H' = (kb, blk (clPs b) 181) :: (ka, blk (clPs a) 181) :: (kc, blk [ptr bc] 165) :: H) := by
 refine CV 8 Tryz.func152 ?_
 refine KK2 (BX fun b1 => ?_)
 refine BX fun b2 => ?_
 refine BX fun b3 => ?_
 refine QA (KK3 ?_)
 refine QQ (vmf rfl) rfl ?_
 refine QA (vnil ?_)
 refine vret (V1 ((b3, blk (clPs b) 181) :: (b2, blk (clPs a) 181) :: (b1, blk [ptr bc] 165) :: H) Tryz.func152 ?_)
 exact ⟨_, _, _, rfl, rfl⟩
theorem fst_call (h : CH) (c : Cz) (a b : Ps) (bm bc kc ka kb : Nat) (hok : okCz c) (hpa : okPs a) (hpb : okPs b) (H : Heap) [hcz : CzO H h c] [hat0 : HAt H bc (clCh h c bm) 173] (ml : List EnS) (n : Nat) (hk : KnS c ml) (L : Heap) :
    VCall Tryz.prog 151 [.func (.func 183) #[] [ptr kc, ptr ka, ptr kb].toArray, .func (.func 153) #[] #[]].toArray ((kb, blk (clPs b) 181) :: (ka, blk (clPs a) 181) :: (kc, blk [ptr bc] 165) :: (L ++ (bm, mSt ml n) :: H)) (fun o H' => ∃ oa nn cp m is B ml' n', H' = L ++ (bm, mSt ml' n') :: (kb, blk (clPs b) 181) :: (ka, blk (clPs a) 181) :: (kc, blk [ptr bc] 165) :: (B ++ H) ∧ o = .val (tup [.agg #[.slice oa nn cp, I m], .bool is]) ∧ BestI (passP c a b) oa nn cp m is B ∧ KnS c ml') := by
  refine VCall.conv (VCall.perm (pmH L [(bm, mSt ml n)] [(kb, blk (clPs b) 181), (ka, blk (clPs a) 181), (kc, blk [ptr bc] 165)] H) (VCall.frame (B := L) (d_first (it_passages h c a b bm bc kc ka kb hok hpa hpb ((kb, blk (clPs b) 181) :: (ka, blk (clPs a) 181) :: (kc, blk [ptr bc] 165) :: H) ml n hk) (pass_good hok hpa hpb)))) ?_
  rintro o H' ⟨A', h1, oa, nn, cp, m, is, B, Hi', h2, h3, h4, ml', n', h5, h6⟩
  subst h1 h2 h5
  exact ⟨_, pmI L [(bm, mSt ml' n')] [(kb, blk (clPs b) 181), (ka, blk (clPs a) 181), (kc, blk [ptr bc] 165)] H B, oa, nn, cp, m, is, B, ml', n', rfl, h3, h4, h6⟩
theorem d_best (h : CH) (c : Cz) (a b : Ps) (bm bc : Nat) (hok : okCz c) (hpa : okPs a) (hpb : okPs b) (H : Heap) [hcz : CzO H h c] [hat0 : HAt H bc (clCh h c bm) 173] (ml : List EnS) (n : Nat) (hk : KnS c ml) : VCall Tryz.prog 116 [ptr bc, vPs a, vPs b].toArray ((bm, mSt ml n) :: H) (fun o H' => ∃ ml' n' B, H' = (bm, mSt ml' n') :: (B ++ H) ∧ KnS c ml' ∧ ∃ oa nn cp m is, o = .val (tup [.agg #[.slice oa nn cp, I m], .bool is]) ∧ BestI (passP c a b) oa nn cp m is B) := by
 refine CV 15 Tryz.func116 ?_
 refine KK2 (BX fun b1 => ?_)
 refine BX fun b2 => ?_
 refine AL fun b3 => ?_
 refine QA (KK3 ?_)
 refine QM ?_
 refine QN ?_
 refine QN ?_
 refine vone rfl (vxg (vcg (R := fun v H' => ∃ kc ka kb, v = .func (.func 183) #[] #[ptr kc, ptr ka, ptr kb] ∧ H' = (kb, blk (clPs b) 181) :: (ka, blk (clPs a) 181) :: (kc, blk [ptr bc] 165) :: (b3, blk [.slice Option.none 0 0, I 0] 223) :: (b2, blk (clPs b) 181) :: (b1, blk (clPs a) 181) :: (bm, mSt ml n) :: H) rfl rfl rfl (n_passages a b bc _) (fun o H' ⟨kc, ka, kb, h1, h2⟩ => ⟨_, h1, kc, ka, kb, rfl, h2⟩)) rfl rfl ?_)
 rintro _ _ ⟨kc, ka, kb, rfl, rfl⟩
 refine vone rfl (vxg (vcg (R := fun v H' => ∃ oa nn cp m is B ml' n', H' = (b3, blk [.slice Option.none 0 0, I 0] 223) :: (b2, blk (clPs b) 181) :: (b1, blk (clPs a) 181) :: (bm, mSt ml' n') :: (kb, blk (clPs b) 181) :: (ka, blk (clPs a) 181) :: (kc, blk [ptr bc] 165) :: (B ++ H) ∧ v = tup [.agg #[.slice oa nn cp, I m], .bool is] ∧ BestI (passP c a b) oa nn cp m is B ∧ KnS c ml') rfl rfl rfl (fst_call h c a b bm bc kc ka kb hok hpa hpb H ml n hk [(b3, blk [.slice Option.none 0 0, I 0] 223), (b2, blk (clPs b) 181), (b1, blk (clPs a) 181)]) (fun o H' ⟨oa, nn, cp, m, is, B, ml', n', h1, h2, h3, h4⟩ => ⟨_, h2, oa, nn, cp, m, is, B, ml', n', h1, rfl, h3, h4⟩)) rfl rfl ?_)
 rintro _ _ ⟨oa, nn, cp, m, is, B, ml2, n2, rfl, rfl, hbst, hk2⟩
 refine QX ?_
 refine QX ?_
 refine SN ?_
 refine QA (vnil ?_)
 refine vret (vr2 (H' := (bm, mSt ml2 n2) :: (B ++ H)) Tryz.func116 rfl (.celln rfl rfl) (.tmp rfl) sb2 ?_)
 exact ⟨ml2, n2, B, rfl, hk2, oa, nn, cp, m, is, rfl, hbst⟩
end Go.Proofs.YtoebpndlbldfcaaGreatDoor
namespace Go.Proofs.YtoebpndlbldfcaaGreatDoor
open Go
set_option maxRecDepth 100000
attribute [local irreducible] tightP hullP rootP farP rows endsOf
end Go.Proofs.YtoebpndlbldfcaaGreatDoor
namespace Go.Proofs.YtoebpndlbldfcaaGreatDoor
open Go
set_option maxRecDepth 100000
attribute [local irreducible] tightP hullP rootP farP rows endsOf
def wayV (z : Pt × Pt) (w : Int) : Pt × Pt := if w = 1 then (z.2, z.1) else z
theorem wayV_ok {z : Pt × Pt} {w : Int} (h1 : z.1.ok) (h2 : z.2.ok) : (wayV z w).1.ok ∧ (wayV z w).2.ok := by
  unfold wayV; split
  · exact ⟨h2, h1⟩
  · exact ⟨h1, h2⟩
def octW (u : Pt × Pt) : Int := octV (subP u.1 u.2)
def fromV (u : Pt × Pt) : Ps := ⟨u.1, octW u⟩
def toV (u : Pt × Pt) : Ps := ⟨u.2, octW u⟩
def shotL (n t : Int) : List Bd → Option (Int × Int)
  | [] => none
  | b :: r => if max t b.lo + n ≤ b.hi then some (max t b.lo, max t b.lo + n) else shotL n t r
def shotV (c : Cz) (u : Pt × Pt) (d : List Bd) (t : Int) : Option (Int × Int) := if clearB c u.1 u.2 = false then none else shotL (stepsC c u.1 u.2) t d
theorem shotL_step {n t : Int} {d : List Bd} {i : Nat} {b : Bd} (h : d[i]? = some b) : shotL n t (d.drop i) = if max t b.lo + n ≤ b.hi then some (max t b.lo, max t b.lo + n) else shotL n t (d.drop (i + 1)) := by
  rw [drop_of h]; rfl
theorem win_bd : ∀ {l : List Bd} {m : Int}, winFrom m l = true → ∀ b ∈ l, 0 ≤ b.lo ∧ b.lo ≤ 1048576 ∧ b.hi ≤ 1048576
  | [], m, h, b, hb => by cases hb
  | x :: l, m, h, b, hb => by
    simp only [winFrom, Bool.and_eq_true, decide_eq_true_eq] at h
    rcases List.mem_cons.1 hb with rfl | hb
    · omega
    · exact win_bd h.2 b hb
abbrev vShoot (i : Nat) (w : Int) : Value := .agg #[I (i : Int), I w]
abbrev vPr (x : Int × Int) : Value := .agg #[I x.1, I x.2]
theorem q_way (h : CH) (c : Cz) (bm bc : Nat) (H : Heap) [hcz : CzO H h c] [hat : HAt H bc (clCh h c bm) 173] (i : Nat) (w : Int) (z : Pt × Pt) (hz : c.lines[i]? = some z) : VHas Tryz.prog 148 [ptr bc, vShoot i w] (vSt4 (wayV z w).1 (wayV z w).2) (H) (H) := by
 have hlt := (List.getElem?_eq_some_iff.1 hz).1
 refine CV 28 Tryz.func148 ?_
 refine KK2 (BX fun b1 => ?_)
 refine AL fun b2 => (vnil (vseq ?_))
 refine vdraw [(.q, 0), (.q, 1), (.q, 2), (.q, 3), (.q, 4), (.q, 5), (.q, 6), (.q, 7), (.q, 8), (.a (blk [.int .i64 0, .int .i64 0, .int .i64 0, .int .i64 0] (128)), 9), (.s, 10)] Tryz.mixed (by kernel_rfl) ⟨⟨_, _, _, _, _, rfl, _, inferInstance, rfl⟩, True.intro⟩ ?_
 refine DM ?_
 refine DC ?_
 refine DF ?_
 refine DF ?_
 refine DL ?_
 refine DF ?_
 refine DL ?_
 refine DD (visg (enc := encLg) rfl rfl (by omega) hz) rfl ?_
 refine DD (vldS (enc := encLg) rfl hz) rfl ?_
 refine vda rfl rfl (fun b3 => ?_)
 refine vds (mone rfl) (vstn rfl rfl rfl rfl rfl) rfl ?_
 refine vdend rfl (vseq (KK2 (QF ?_)))
 refine QL ?_
 refine QE (vnil ?_)
 refine vcondd rfl (fun h17 => ?_) (fun h17 => ?_)
 ·
  refine KK2 (QF ?_)
  refine QN ?_
  refine QF ?_
  refine QN ?_
  refine QB ?_
  refine SN (vnil ?_)
  refine vret (VN (H) Tryz.func148 ?_)
  exact ⟨oV (by unfold wayV; rw [if_pos h17]), rfl⟩
 ·
  refine vskip (KK2 (QF ?_))
  refine QN ?_
  refine QF ?_
  refine QN ?_
  refine QB ?_
  refine SN (vnil ?_)
  refine vret (VN (H) Tryz.func148 ?_)
  exact ⟨oV (by unfold wayV; rw [if_neg h17]), rfl⟩
theorem q_ends (h : CH) (c : Cz) (bm bc : Nat) (H : Heap) [hcz : CzO H h c] [hat : HAt H bc (clCh h c bm) 173] (i : Nat) (w : Int) (z : Pt × Pt) (hz : c.lines[i]? = some z) (hok : okCz c) : VHas Tryz.prog 114 [ptr bc, vShoot i w] (tup [vPs (fromV (wayV z w)), vPs (toV (wayV z w))]) (H) (H) := by
 have hlt := (List.getElem?_eq_some_iff.1 hz).1
 have hzo := hok.2.2.2.2.1 z (List.mem_of_getElem? hz)
 obtain ⟨hu1, hu2⟩ := wayV_ok (w := w) hzo.1 hzo.2.1
 unfold Pt.ok at hu1 hu2
 refine CV 35 Tryz.func114 ?_
 refine KK2 (BX fun b1 => ?_)
 refine AL fun b2 => ?_
 refine AL fun b3 => (KK3 ?_)
 refine QM ?_
 refine QN ?_
 refine QQ (vcq rfl rfl rfl (q_way h c bm bc _ i w z hz)) rfl ?_
 refine AL fun b4 => ?_
 refine SN (KK3 ?_)
 refine QF ?_
 refine QF ?_
 refine QL ?_
 refine QF ?_
 refine QF ?_
 refine QL ?_
 refine QQ (vsub rfl rfl (by unfold InR; omega)) rfl ?_
 refine QF ?_
 refine QF ?_
 refine QL ?_
 refine QF ?_
 refine QF ?_
 refine QL ?_
 refine QQ (vsub rfl rfl (by unfold InR; omega)) rfl ?_
 refine QB ?_
 refine QQ (vcp rfl rfl rfl (c_Octant (subP (wayV z w).1 (wayV z w).2))) rfl ?_
 refine QA (vnil (vseq ?_))
 refine vdraw1 (d := 4) rfl [(.q, 0), (.q, 1), (.q, 2), (.q, 3), (.q, 4), (.q, 5), (.q, 6), (.q, 7), (.s, 8), (.c, 9)] Tryz.mixed (by kernel_rfl) (allocOk_of _ (by kernel_rfl)) ?_
 refine DF ?_
 refine DN ?_
 refine DM ?_
 refine DB ?_
 refine DF ?_
 refine DN ?_
 refine DM ?_
 refine DB ?_
 refine vds (mone rfl) (vstn rfl rfl rfl rfl rfl) rfl ?_
 refine vdcs (mone rfl) (vstn rfl rfl rfl rfl rfl) rfl ?_
 refine vdend rfl ?_
 refine vret (vr2 (H' := H) Tryz.func114 rfl (.celln rfl rfl) (.celln rfl rfl) sb2 ?_)
 exact ⟨rfl, rfl⟩
theorem d_shot (h : CH) (c : Cz) (bm bc : Nat) (H : Heap) [hcz : CzO H h c] [hat : HAt H bc (clCh h c bm) 173] (i : Nat) (w : Int) (z : Pt × Pt) (hz : c.lines[i]? = some z) (d : List Bd) (hd : c.opens[i]? = some d) (t : Int) (ht : 0 ≤ t ∧ t ≤ 1000000000) (hok : okCz c) (l : List EnS) (n : Nat) (hl : KnS c l) : VCall Tryz.prog 117 [ptr bc, vShoot i w, I t].toArray ((bm, mSt l n) :: H) (fun o H' => ∃ o', H' = (bm, o') :: H ∧ o = .val (tup [vPr ((shotV c (wayV z w) d t).getD (0, 0)), .bool (shotV c (wayV z w) d t).isSome]) ∧ ∃ l' n', o' = mSt l' n' ∧ KnS c l') := by
 have hlt := (List.getElem?_eq_some_iff.1 hz).1
 have hzo := hok.2.2.2.2.1 z (List.mem_of_getElem? hz)
 obtain ⟨hu1, hu2⟩ := wayV_ok (w := w) hzo.1 hzo.2.1
 haveI hosl := hcz.osl
 have hsp := hok.2.2.2.2.2.2.2.2.2.2.2.2.1
 obtain ⟨e, he, hel⟩ : ∃ e, h.os[i]? = some e ∧ e.l = d := by rw [← hcz.oeq, List.getElem?_map] at hd; obtain ⟨e, h1, h2⟩ := Option.map_eq_some_iff.1 hd; exact ⟨e, h1, h2⟩
 haveI hse := (hcz.ose e (List.mem_of_getElem? he)).1
 have hle := (hcz.ose e (List.mem_of_getElem? he)).2
 have hwn := hok.2.2.2.2.2.1 d (List.mem_of_getElem? hd)
 unfold winB at hwn
 simp only [Bool.and_eq_true, decide_eq_true_eq] at hwn
 subst hel
 have hlo := (List.getElem?_eq_some_iff.1 he).1
 have hstb := stepsC_bd (c := c) hu1 hu2 hsp
 refine CV 55 Tryz.func117 ?_
 refine KK2 (BX fun b1 => ?_)
 refine AL fun b2 => ?_
 refine QA (KK3 ?_)
 refine QM ?_
 refine QN ?_
 refine QQ (vcq rfl rfl rfl (q_way h c bm bc _ i w z hz)) rfl ?_
 refine AL fun b3 => ?_
 refine SN (vnil (vseq (KK2 ?_)))
 refine QM ?_
 refine QN ?_
 refine vone rfl (vxg (vcg (R := fun v H' => v = .bool (clearB c (wayV z w).1 (wayV z w).2) ∧ ∃ l2 n2, H' = (b3, blk (clSt4 (wayV z w).1 (wayV z w).2) 262) :: (b2, blk [I 0, I 0] 56) :: (b1, blk [I (i : Int), I w] 178) :: (bm, mSt l2 n2) :: H ∧ KnS c l2) rfl rfl rfl (VCall.atO (H := (b3, blk (clSt4 (wayV z w).1 (wayV z w).2) 262) :: (b2, blk [I 0, I 0] 56) :: (b1, blk [I (i : Int), I w] 178) :: (bm, mSt l n) :: H) (d_clear h c bm bc ((b3, blk (clSt4 (wayV z w).1 (wayV z w).2) 262) :: (b2, blk [I 0, I 0] 56) :: (b1, blk [I (i : Int), I w] 178) :: H) (wayV z w).1 (wayV z w).2 l n hl)) (fun o H' ⟨o', h1, h2, l2, n2, h3, h4⟩ => ⟨_, h2, rfl, l2, n2, by rw [h1, h3], h4⟩)) rfl rfl ?_)
 rintro _ _ ⟨rfl, l2, n2, rfl, hk2⟩
 refine QQ (vnot rfl) rfl (vnil ?_)
 refine vcond rfl (fun h19 => ?_) (fun h19 => ?_)
 ·
  refine KK2 (QB ?_)
  refine SN ?_
  refine QA (vnil ?_)
  refine vret (vr2 (H' := (bm, _) :: H) Tryz.func117 rfl (.celln rfl rfl) (.tmp rfl) sb2 ?_)
  (have ee : shotV c (wayV z w) e.l t = none := (by unfold shotV; rw [if_pos (nf h19)]); rw [ee]; exact ⟨_, rfl, rfl, l2, n2, rfl, hk2⟩)
 ·
  refine vskip (KK2 (QM ?_))
  refine QN ?_
  refine QQ (vcq rfl rfl rfl (c_csteps h c bm bc _ _ hu1 hu2 hsp _)) rfl ?_
  refine QA (vnil (vseq (vseq ?_)))
  refine DR [(.q, 0), (.q, 1), (.q, 2), (.q, 3), (.q, 4), (.q, 5), (.q, 6), (.q, 7), (.q, 8), (.q, 9), (.q, 10)] Tryz.mixed ?_
  refine DM ?_
  refine DC ?_
  refine DF ?_
  refine DF ?_
  refine DL ?_
  refine DF ?_
  refine DL ?_
  refine DD (visg (enc := encSl) rfl rfl (by omega) he) rfl ?_
  refine DD (vldS1 (enc := encSl) rfl he rfl) rfl ?_
  refine DD (vlen rfl) rfl ?_
  refine DM (vdend rfl (vblock ?_))
  refine vwhile (σ := Nat) (fun j => e.l.length - j) (fun j => [(2, I t), (6, ptr b2), (9, I (stepsC c (wayV z w).1 (wayV z w).2)), (32, .slice e.oa e.l.length e.c), (33, I e.l.length), (34, I (j : Int))]) (fun j => (b3, blk (clSt4 (wayV z w).1 (wayV z w).2) 262) :: (b2, blk [I 0, I 0] 56) :: (b1, blk [I (i : Int), I w] 178) :: (bm, mSt l2 n2) :: H) (fun j => j ≤ e.l.length ∧ shotV c (wayV z w) e.l t = shotL (stepsC c (wayV z w).1 (wayV z w).2) t (e.l.drop j)) 0 ⟨Nat.zero_le _, by unfold shotV; rw [if_neg (by rw [nt h19]; simp)]; rfl⟩ ⟨rfl, rfl, rfl, rfl, rfl, rfl, True.intro⟩ sb ?_
  rintro j ⟨hjl, hsv⟩ IH
  change VRun _ _ _ _ _ [(2, I t), (6, ptr b2), (9, I (stepsC c (wayV z w).1 (wayV z w).2)), (32, .slice e.oa e.l.length e.c), (33, I e.l.length), (34, I (j : Int))] _ ((b3, blk (clSt4 (wayV z w).1 (wayV z w).2) 262) :: (b2, blk [I 0, I 0] 56) :: (b1, blk [I (i : Int), I w] 178) :: (bm, mSt l2 n2) :: H) _
  refine KK2 (QS (vnil (vseq ?_)))
  refine vcondd rfl (fun h35 => ?_) (fun h35 => ?_)
  ·
   obtain ⟨b, hb⟩ := get_of_lt e.l (i := j) (by omega)
   have hbb := win_bd hwn.2 b (List.mem_of_getElem? hb)
   refine vskip (vseq (vblock (KK2 (QQ (visg (enc := encBd) rfl rfl (by omega) hb) rfl ?_))))
   refine QQ (vldS (enc := encBd) rfl hb) rfl ?_
   refine AL fun b4 => ?_
   refine SN (KK3 ?_)
   refine QM ?_
   refine QF ?_
   refine QL ?_
   refine QQ (vmax2 rfl rfl) rfl ?_
   refine QA (KK3 ?_)
   refine QM ?_
   refine QM ?_
   refine QQ (vadd rfl rfl (by unfold InR; omega)) rfl ?_
   refine QF ?_
   refine QL ?_
   refine QQ (vleq rfl rfl) rfl (vnil ?_)
   refine vcondd rfl (fun h47 => ?_) (fun h47 => ?_)
   ·
    refine KK2 (QM ?_)
    refine QM ?_
    refine QM ?_
    refine QQ (vadd rfl rfl (by unfold InR; omega)) rfl ?_
    refine QB ?_
    refine SN ?_
    refine QA (vnil ?_)
    refine vret (vr2 (H' := (bm, _) :: H) Tryz.func117 rfl (.celln rfl rfl) (.tmp rfl) sb2 ?_)
    (have ee : shotV c (wayV z w) e.l t = some _ := (by rw [hsv, shotL_step hb, if_pos h47]); rw [ee]; exact ⟨_, rfl, rfl, l2, n2, rfl, hk2⟩)
   ·
    refine vskip (vinblock (vregion (QQ (vadd rfl rfl (by unfold InR; omega)) rfl ?_)))
    refine QM (vnil ?_)
    exact vback (IH (j + 1) ⟨by omega, by rw [hsv, shotL_step hb, if_neg h47]⟩ (by show _ - (j + 1) < _ - j; omega)) ⟨rfl, rfl, rfl, rfl, rfl, rfl, True.intro⟩ sb2
  ·
   refine vexit (k' := _) rfl ?_
   refine KK2 (QB ?_)
   refine SN ?_
   refine QA (vnil ?_)
   refine vret (vr2 (H' := (bm, _) :: H) Tryz.func117 rfl (.celln rfl rfl) (.tmp rfl) sb2 ?_)
   (have ee : shotV c (wayV z w) e.l t = none := (by rw [hsv, List.drop_eq_nil_of_le (by omega)]; rfl); rw [ee]; exact ⟨_, rfl, rfl, l2, n2, rfl, hk2⟩)
end Go.Proofs.YtoebpndlbldfcaaGreatDoor
namespace Go.Proofs.YtoebpndlbldfcaaGreatDoor
open Go
set_option maxRecDepth 100000
attribute [local irreducible] tightP hullP rootP farP rows endsOf
abbrev clPl (bc bk : Nat) : List Value := [ptr bc, .map (some bk)]
abbrev vPl (bc bk : Nat) : Value := .agg (clPl bc bk).toArray
abbrev Re := Ps × Int
abbrev clRe (r : Re) : List Value := [I r.1.pt.x, I r.1.pt.y, I r.1.oc, I r.2]
abbrev vRe (r : Re) : Value := .agg (clRe r).toArray
abbrev clKp (p : Ps × Ps) : List Value := [I p.1.pt.x, I p.1.pt.y, I p.1.oc, I p.2.pt.x, I p.2.pt.y, I p.2.oc]
abbrev evKp (p : Ps × Ps) : Value := .agg (clKp p).toArray
theorem Tryz.undMK : Tryz.prog.underlying 166 = some (.map 221 3) := by kernel_rfl
theorem Tryz.undK2 : Tryz.prog.underlying 221 = some (.array 2 181) := by kernel_rfl
theorem Tryz.undPs : Tryz.prog.underlying 181 = some (.struct #[⟨"At", 44, 0, false, "", "", 0⟩, ⟨"Octant", 3, 2, false, "", "", 16⟩]) := by kernel_rfl
theorem kp_eq (a b : Ps × Ps) (w : World) : (Op.equal 221 (evKp a) (evKp b)).run Tryz.prog w = .ok (decide (a = b)) w := by
  have h := (inferInstance : TEq Tryz.prog 221 6).eq [a.1.pt.x, a.1.pt.y, a.1.oc, a.2.pt.x, a.2.pt.y, a.2.oc] [b.1.pt.x, b.1.pt.y, b.1.oc, b.2.pt.x, b.2.pt.y, b.2.oc] w rfl rfl
  have e : decide ([a.1.pt.x, a.1.pt.y, a.1.oc, a.2.pt.x, a.2.pt.y, a.2.oc] = [b.1.pt.x, b.1.pt.y, b.1.oc, b.2.pt.x, b.2.pt.y, b.2.oc]) = decide (a = b) := by
    obtain ⟨⟨⟨a1, a2⟩, a3⟩, ⟨⟨a4, a5⟩, a6⟩⟩ := a
    obtain ⟨⟨⟨b1, b2⟩, b3⟩, ⟨⟨b4, b5⟩, b6⟩⟩ := b
    simp [and_assoc]
  rw [← e]
  exact h
theorem kp_bits (a : Ps × Ps) : Instr.sameBits 10000 (evKp a) (evKp a) = true := by simp [Instr.sameBits]
theorem kp_key (em : Bool) (a : Ps × Ps) (w : World) : (Instr.checkKey em 10000 221 (evKp a)).run Tryz.prog w = .ok () w := by
  have h1 : ∀ w, (isAgg 3).run Tryz.prog w = .ok false w := (inferInstance : TSc Tryz.prog 3).agg
  have h2 : ∀ w, (isAgg 44).run Tryz.prog w = .ok true w := (inferInstance : TAg Tryz.prog 44 2).agg
  have h3 : ∀ w, (sizeOf 44).run Tryz.prog w = .ok 2 w := (inferInstance : TAg Tryz.prog 44 2).size
  have h4 : ∀ w, (isAgg 181).run Tryz.prog w = .ok true w := (inferInstance : TAg Tryz.prog 181 3).agg
  have h5 : ∀ w, (sizeOf 181).run Tryz.prog w = .ok 3 w := (inferInstance : TAg Tryz.prog 181 3).size
  have hu := Tryz.undPs
  have k1 : ∀ n x y w, (Instr.checkKey em (n + 2) 44 (.agg #[I x, I y])).run Tryz.prog w = .ok () w := by
    intro n x y w
    rw [Instr.checkKey]
    simp [run_underlying Tryz.undPt, Result.andThen, part, h1, key_i]
  have k2 : ∀ n x y z w, (Instr.checkKey em (n + 3) 181 (.agg #[I x, I y, I z])).run Tryz.prog w = .ok () w := by
    intro n x y z w
    rw [Instr.checkKey]
    simp [run_underlying hu, Result.andThen, part, h1, h2, h3, key_i, k1]
  have k3 : ∀ n w, (Instr.checkKey em (n + 4) 221 (evKp a)).run Tryz.prog w = .ok () w := by
    intro n w
    rw [Instr.checkKey]
    simp [run_underlying Tryz.undK2, Result.andThen, part, h4, h5, k2, show List.range' 0 2 = [0, 1] from rfl, List.forIn_cons, List.forIn_nil]
  exact k3 9996 w
instance tMk166 : TMk Tryz.prog 166 evKp (.int .i64 0) := mkTMkP Tryz.undMK Tryz.undK2 (by kernel_rfl) (fun a b => rfl) kp_key kp_eq kp_bits
abbrev EnK := Ent (Ps × Ps) Int
abbrev mKp (l : List EnK) (c : Nat) : Obj := mapO evKp evI l c
end Go.Proofs.YtoebpndlbldfcaaGreatDoor
namespace Go.Proofs.YtoebpndlbldfcaaGreatDoor
open Go
set_option maxRecDepth 100000
attribute [local irreducible] tightP hullP rootP farP rows endsOf
theorem bitI_n {u i : Nat} (h : u.testBit i = false) : decide (bitI u i ≠ 0) = false := by have := of_decide_eq_true (bitI_f h); rw [this]; rfl
theorem bitI_y {u i : Nat} (h : u.testBit i = true) : decide (bitI u i ≠ 0) = true := decide_eq_true (of_decide_eq_false (bitI_t h))
def halfL (u i w : Nat) : List (Nat × Int) := if u.testBit i = true then (List.range w).map (fun j : Nat => (i, (j : Int))) else []
def shP (u i : Nat) : List (Nat × Int) := (List.range i).flatMap fun j => halfL u j 2
theorem shP_succ {u i : Nat} : shP u (i + 1) = shP u i ++ halfL u i 2 := by unfold shP; rw [List.range_succ, List.flatMap_append]; simp
theorem half_0 {u i : Nat} : halfL u i 0 = [] := by unfold halfL; split <;> rfl
theorem half_t {u i w : Nat} (h : u.testBit i = true) : halfL u i (w + 1) = halfL u i w ++ [(i, (w : Int))] := by unfold halfL; rw [if_pos h, if_pos h, List.range_succ, List.map_append]; rfl
theorem half_f {u i w : Nat} (h : u.testBit i = false) : halfL u i w = [] := by unfold halfL; rw [if_neg (by rw [h]; simp)]
theorem shP_le {u i n : Nat} (h : i ≤ n) : ∃ R, shP u n = shP u i ++ R := by
  induction n with
  | zero => exact ⟨[], by rw [show i = 0 by omega, List.append_nil]⟩
  | succ n ih =>
    by_cases e : i = n + 1
    · subst e; exact ⟨[], (List.append_nil _).symm⟩
    · obtain ⟨R, hR⟩ := ih (by omega)
      exact ⟨R ++ halfL u n 2, by rw [shP_succ, hR, List.append_assoc]⟩
theorem sh_at {u i n w : Nat} (hi : i < n) (hw : w < 2) (hb : u.testBit i = true) : ∃ post, shP u n = (shP u i ++ halfL u i w) ++ (i, (w : Int)) :: post := by
  obtain ⟨R, hR⟩ := shP_le (u := u) (show i + 1 ≤ n from hi)
  have h2 : ∃ R2, halfL u i 2 = halfL u i w ++ (i, (w : Int)) :: R2 := by
    have : w = 0 ∨ w = 1 := by omega
    rcases this with rfl | rfl
    · exact ⟨[(i, 1)], by rw [half_t hb, half_t hb, half_0]; rfl⟩
    · exact ⟨[], by rw [half_t hb] <;> rfl⟩
  obtain ⟨R2, h2⟩ := h2
  exact ⟨R2 ++ R, by rw [hR, shP_succ, h2]; simp only [List.append_assoc, List.cons_append]⟩
def XSh (H0 : Heap) (x : Nat × Int) (vs : List Value) (Hx : Heap) : Prop := vs = [vShoot x.1 x.2] ∧ Hx = H0
theorem d_planOf (h : CH) (c : Cz) (H : Heap) [hcz : CzO H h c] (hok : okCz c) : VCall Tryz.prog 81 [vCz h c].toArray H (fun o H' => ∃ bc bm bk, o = .val (tup [vPl bc bk, I 0]) ∧ H' = (bk, mKp [] 0) :: (bc, blk (clCh h c bm) 173) :: (bm, mSt [] 0) :: H) := by
 refine CV 15 Tryz.func81 ?_
 refine KK2 (BX fun b1 => ?_)
 refine AL fun b2 => ?_
 refine QA (KK3 ?_)
 refine QN ?_
 refine vone rfl (vxg (vcg (R := fun v H' => ∃ bc bm, v = tup [ptr bc, I 0] ∧ H' = (bc, blk (clCh h c bm) 173) :: (bm, mSt [] 0) :: (b2, blk [.pointer Option.none, .map Option.none] 168) :: (b1, blk (clCz h c) 138) :: H) rfl rfl rfl (d_chartOk h c ((b2, blk [.pointer Option.none, .map Option.none] 168) :: (b1, blk (clCz h c) 138) :: H) hok) (fun o H' ⟨bc, bm, h1, h2⟩ => ⟨_, h1, bc, bm, rfl, h2⟩)) rfl rfl ?_)
 rintro _ _ ⟨bc, bm, rfl, rfl⟩
 refine QM ?_
 refine QX ?_
 refine QX ?_
 refine QA ?_
 refine QA (KK3 ?_)
 refine QM ?_
 refine vone rfl (vxg (vmm (ek := evKp) (ev' := evI) rfl) rfl rfl ?_)
 rintro _ _ ⟨b9, rfl, rfl⟩
 refine QB ?_
 refine QM ?_
 refine SN ?_
 refine QA (vnil ?_)
 refine vret (vr2 (H' := (b9, mKp [] 0) :: (bc, blk (clCh h c bm) 173) :: (bm, mSt [] 0) :: H) Tryz.func81 rfl (.celln rfl rfl) (.tmp rfl) sb2 ?_)
 exact ⟨bc, bm, b9, rfl, rfl⟩
theorem q_start (h : CH) (c : Cz) (bm bc : Nat) (H : Heap) [hcz : CzO H h c] [hat : HAt H bc (clCh h c bm) 173] (bk : Nat) : VHas Tryz.prog 89 [vPl bc bk] (vRe (c.start, 0)) (H) (H) := by
 refine CV 10 Tryz.func89 ?_
 refine KK2 (BX fun b1 => ?_)
 refine AL fun b2 => (KK3 ?_)
 refine QF ?_
 refine QL ?_
 refine QC ?_
 refine QF ?_
 refine QF ?_
 refine QN ?_
 refine QB ?_
 refine SN (vnil ?_)
 refine vret (VN (H) Tryz.func89 ?_)
 exact ⟨rfl, rfl⟩
theorem q_after (h : CH) (c : Cz) (bm bc : Nat) (H : Heap) [hcz : CzO H h c] [hat : HAt H bc (clCh h c bm) 173] (bk : Nat) (i : Nat) (w : Int) (z : Pt × Pt) (hz : c.lines[i]? = some z) (hok : okCz c) (t : Int) : VHas Tryz.prog 88 [vPl bc bk, vShoot i w, I t] (vRe (toV (wayV z w), t)) (H) (H) := by
 refine CV 19 Tryz.func88 ?_
 refine KK2 (BX fun b1 => ?_)
 refine BX fun b2 => ?_
 refine AL fun b3 => (KK3 ?_)
 refine QF ?_
 refine QL ?_
 refine QN ?_
 refine QQ (vcq rfl rfl rfl (q_ends h c bm bc _ i w z hz hok)) rfl ?_
 refine QM ?_
 refine QX ?_
 refine QX ?_
 refine AL fun b4 => ?_
 refine AL fun b5 => ?_
 refine SN ?_
 refine SN (KK3 ?_)
 refine QN ?_
 refine QM ?_
 refine QB ?_
 refine SN (vnil ?_)
 refine vret (VN (H) Tryz.func88 ?_)
 exact ⟨rfl, rfl⟩
theorem q_place (h : CH) (c : Cz) (bm bc : Nat) (H : Heap) [hcz : CzO H h c] [hat : HAt H bc (clCh h c bm) 173] (bk : Nat) (u i : Nat) (w : Int) (hu : u < 32) (hi : i < 5) (hw : 0 ≤ w ∧ w ≤ 1) (hn : c.lines.length ≤ 5) : VHas Tryz.prog 84 [vPl bc bk, I (u : Int), vShoot i w] (I (2 * (c.lines.length : Int) * u + 2 * i + w)) (H) (H) := by
 have hm : 0 ≤ 2 * (c.lines.length : Int) * u ∧ 2 * (c.lines.length : Int) * u ≤ 320 := by
  have h1 := Int.mul_nonneg (a := 2 * (c.lines.length : Int)) (b := (u : Int)) (by omega) (by omega)
  have h2 := Int.mul_le_mul (a := 2 * (c.lines.length : Int)) (b := (u : Int)) (c := 10) (d := 32) (by omega) (by omega) (by omega) (by omega)
  omega
 refine CV 24 Tryz.func84 ?_
 refine KK2 (BX fun b1 => ?_)
 refine BX fun b2 => ?_
 refine QA (vnil (vseq ?_))
 refine DR [(.q, 0), (.q, 1), (.q, 2), (.q, 3), (.q, 4), (.q, 5), (.q, 6), (.q, 7), (.q, 8), (.q, 9), (.q, 10), (.q, 11), (.q, 12), (.q, 13), (.q, 14), (.q, 15), (.q, 16), (.q, 17)] Tryz.mixed ?_
 refine DF ?_
 refine DL ?_
 refine DC ?_
 refine DF ?_
 refine DF ?_
 refine DL ?_
 refine DD (vlen rfl) rfl ?_
 refine DD (vmul rfl rfl (by unfold InR; omega)) rfl ?_
 refine DM ?_
 refine DD (vmul rfl rfl (by unfold InR; omega)) rfl ?_
 refine DF ?_
 refine DL ?_
 refine DD (vmul rfl rfl (by unfold InR; omega)) rfl ?_
 refine DD (vadd rfl rfl (by unfold InR; omega)) rfl ?_
 refine DF ?_
 refine DL ?_
 refine DD (vadd rfl rfl (by unfold InR; omega)) rfl ?_
 refine DA (vdend rfl ?_)
 refine vret (V1 (H) Tryz.func84 ?_)
 exact ⟨rfl, rfl⟩
theorem c_sooner (a b : Int) : VPure Tryz.prog 112 [I a, I b] (.bool (decide (a < b))) := by
 intro H
 refine CV 8 Tryz.func112 ?_
 refine KK2 (QA (KK3 ?_))
 refine QM ?_
 refine QM ?_
 refine QS ?_
 refine QA (vnil ?_)
 refine vret (V1 (H) Tryz.func112 ?_)
 exact ⟨rfl, rfl⟩
theorem n_shoots (bc bk u : Nat) (H : Heap) : VCall Tryz.prog 83 [vPl bc bk, I (u : Int)].toArray H (fun o H' => ∃ ks kp, o = .val (.func (.func 113) #[] #[ptr kp, ptr ks]) ∧ H' = (ks, blk [I (u : Int)] 3) :: (kp, blk (clPl bc bk) 168) :: H) := by
 refine CV 6 Tryz.func83 ?_
 refine KK2 (BX fun b1 => ?_)
 refine BX fun b2 => ?_
 refine QA (KK3 ?_)
 refine QQ (vmf rfl) rfl ?_
 refine QA (vnil ?_)
 refine vret (V1 ((b2, blk [I (u : Int)] 3) :: (b1, blk (clPl bc bk) 168) :: H) Tryz.func83 ?_)
 exact ⟨b2, b1, rfl, rfl⟩
theorem it_shoots (h : CH) (c : Cz) (bm bc bk u kp ks : Nat) (hu : u < 16) (hn : c.lines.length ≤ 4) (H0 : Heap) [hcz : CzO H0 h c] [hat : HAt H0 bc (clCh h c bm) 173] : VItM Tryz.prog 113 [ptr kp, ptr ks] (XSh H0) (shP u c.lines.length) ((ks, blk [I (u : Int)] 3) :: (kp, blk (clPl bc bk) 168) :: H0) := by
 intro yf ya yc J Jx Hc0 hJ0 hy
 change VCall _ _ _ ((ks, blk [I (u : Int)] 3) :: (kp, blk (clPl bc bk) 168) :: (H0 ++ Hc0)) _
 refine CV 34 Tryz.func113 ?_
 refine KK2 (QF ?_)
 refine QL ?_
 refine QC ?_
 refine QF ?_
 refine QF ?_
 refine QL ?_
 refine QQ (vlen rfl) rfl ?_
 refine QM (vnil (vblock ?_))
 refine vwhile (σ := Nat × Heap) (fun ⟨i, Hc⟩ => c.lines.length - i) (fun ⟨i, Hc⟩ => [(0, .func yf ya yc), (1, ptr kp), (2, ptr ks), (12, I c.lines.length), (13, I (i : Int))]) (fun ⟨i, Hc⟩ => (ks, blk [I (u : Int)] 3) :: (kp, blk (clPl bc bk) 168) :: (H0 ++ Hc)) (fun ⟨i, Hc⟩ => i ≤ c.lines.length ∧ J (shP u i) Hc) (0, Hc0) ⟨Nat.zero_le _, hJ0⟩ ⟨rfl, rfl, rfl, rfl, rfl, True.intro⟩ sb ?_
 rintro ⟨i, Hc⟩ ⟨hil, hJ⟩ IH
 change VRun _ _ _ _ _ [(0, .func yf ya yc), (1, ptr kp), (2, ptr ks), (12, I c.lines.length), (13, I (i : Int))] _ ((ks, blk [I (u : Int)] 3) :: (kp, blk (clPl bc bk) 168) :: (H0 ++ Hc)) _
 refine KK2 (QS (vnil (vseq ?_)))
 refine vcondd rfl (fun h14 => ?_) (fun h14 => ?_)
 ·
  refine vskip (vseq (vblock (KK2 (QM ?_))))
  refine QA (KK3 ?_)
  refine QM (vnil (vblock ?_))
  refine vwhile (σ := Nat × Heap) (fun ⟨w, Hc1⟩ => 2 - w) (fun ⟨w, Hc1⟩ => [(0, .func yf ya yc), (1, ptr kp), (2, ptr ks), (4, I (i : Int)), (12, I c.lines.length), (13, I (i : Int)), (16, I (w : Int))]) (fun ⟨w, Hc1⟩ => (ks, blk [I (u : Int)] 3) :: (kp, blk (clPl bc bk) 168) :: (H0 ++ Hc1)) (fun ⟨w, Hc1⟩ => w ≤ 2 ∧ J (shP u i ++ halfL u i w) Hc1) (0, Hc) ⟨by omega, by rw [half_0, List.append_nil]; exact hJ⟩ ⟨rfl, rfl, rfl, rfl, rfl, rfl, rfl, True.intro⟩ sb ?_
  rintro ⟨w, Hc1⟩ ⟨hwl, hJ1⟩ IH1
  change VRun _ _ _ _ _ [(0, .func yf ya yc), (1, ptr kp), (2, ptr ks), (4, I (i : Int)), (12, I c.lines.length), (13, I (i : Int)), (16, I (w : Int))] _ ((ks, blk [I (u : Int)] 3) :: (kp, blk (clPl bc bk) 168) :: (H0 ++ Hc1)) _
  refine KK2 (QS (vnil (vseq ?_)))
  refine vcondd rfl (fun h17 => ?_) (fun h17 => ?_)
  ·
   refine vskip (vseq (vblock (KK2 (QM ?_))))
   refine QA ?_
   cases hbit : u.testBit i
   ·
    refine vnil (vseq ?_)
    refine DR [(.q, 0), (.q, 1), (.q, 2), (.q, 3), (.q, 4), (.q, 5), (.q, 6), (.q, 7), (.q, 8), (.q, 9), (.q, 10), (.q, 11), (.q, 12)] Tryz.mixed ?_
    refine DL ?_
    refine DM ?_
    refine DD (vshl1 (i := i) (by omega) rfl rfl) rfl ?_
    refine DD (vandb hu (by omega) rfl rfl) rfl ?_
    refine DG ?_
    refine DM ?_
    refine vdknow (d := 24) (b' := false) rfl (bitI_n hbit) ?_
    refine NP4 ?_
    refine NP2 ?_
    refine DU (vdend rfl ?_)
    refine vcondf rfl (vskip (vinblock (vregion (QQ (vadd rfl rfl (by unfold InR; omega)) rfl ?_))))
    refine QM (vnil ?_)
    exact vback (IH1 (w + 1, Hc1) ⟨by omega, by rw [half_f hbit]; rw [half_f hbit] at hJ1; exact hJ1⟩ (by show 2 - (w + 1) < 2 - w; omega)) ⟨rfl, rfl, rfl, rfl, rfl, rfl, rfl, True.intro⟩ sb2
   ·
    obtain ⟨post, hps⟩ := sh_at (n := c.lines.length) (w := w) (by omega) (by omega) hbit
    refine vnil (vseq ?_)
    refine DR [(.q, 0), (.q, 1), (.q, 2), (.q, 3), (.q, 4), (.q, 5), (.q, 6), (.q, 7), (.q, 8), (.q, 9), (.w, 10), (.q, 11), (.q, 12)] Tryz.mixed ?_
    refine DL ?_
    refine DM ?_
    refine DD (vshl1 (i := i) (by omega) rfl rfl) rfl ?_
    refine DD (vandb hu (by omega) rfl rfl) rfl ?_
    refine DG ?_
    refine DM ?_
    refine vdknow (d := 24) (b' := true) rfl (bitI_y hbit) ?_
    refine WM ?_
    refine WM ?_
    refine WM ?_
    refine WB ?_
    refine vdw rfl (myes rfl rfl rfl) (vcy rfl rfl (VY.b2 (hy (shP u i ++ halfL u i w) (i, (w : Int)) post hps _ _ _ ⟨rfl, rfl⟩ hJ1))) rfl rfl ?_
    rintro _ _ ⟨bb, rfl, _, rfl, Hc2, rfl, hJ2⟩
    rcases bb with _ | _
    ·
     refine WW (vnot rfl) rfl ?_
     refine DT (vdend rfl ?_)
     refine vcondt rfl ?_
     refine vret (vr0 (H' := (ks, blk [I (u : Int)] 3) :: (kp, blk (clPl bc bk) 168) :: (H0 ++ _)) Tryz.func113 rfl  sb2 ?_)
     exact ⟨rfl, _, rfl, .inr hJ2⟩
    ·
     refine WW (vnot rfl) rfl ?_
     refine DT (vdend rfl ?_)
     refine vcondf rfl (vskip (vinblock (vregion (QQ (vadd rfl rfl (by unfold InR; omega)) rfl ?_))))
     refine QM (vnil ?_)
     exact vback (IH1 (w + 1, Hc2) ⟨by omega, by rw [half_t hbit, ← List.append_assoc]; exact hJ2⟩ (by show 2 - (w + 1) < 2 - w; omega)) ⟨rfl, rfl, rfl, rfl, rfl, rfl, rfl, True.intro⟩ sb2
  ·
   refine vexit (k' := _) rfl ?_
   refine vinblock (vregion (QQ (vadd rfl rfl (by unfold InR; omega)) rfl ?_))
   refine QM (vnil ?_)
   exact vback (IH (i + 1, Hc1) ⟨by omega, by rw [shP_succ, show 2 = w by omega]; exact hJ1⟩ (by show _ - (i + 1) < _ - i; omega)) ⟨rfl, rfl, rfl, rfl, rfl, True.intro⟩ sb2
 ·
  refine vexit (k' := _) rfl ?_
  refine vend (vr0 (H' := (ks, blk [I (u : Int)] 3) :: (kp, blk (clPl bc bk) 168) :: (H0 ++ _)) Tryz.func113 rfl  sb2 ?_)
  (obtain rfl : i = c.lines.length := (by omega); exact ⟨rfl, _, rfl, .inl hJ⟩)
end Go.Proofs.YtoebpndlbldfcaaGreatDoor
namespace Go.Proofs.YtoebpndlbldfcaaGreatDoor
open Go
set_option maxRecDepth 100000
attribute [local irreducible] tightP hullP rootP farP rows endsOf
theorem VCall.convS {P : Program} {g : FuncId} {al : Array Value} {H : Heap} {R R' : Out → Heap → Prop} (h : VCall P g al H R) (hr : ∀ o H', R o H' → ∃ H2 H3, H'.Perm H2 ∧ H3.Sublist H2 ∧ R' o H3) : VCall P g al H R' := by
  intro w cs hE
  obtain ⟨o, w', m', H', hR, hF, hs⟩ := h w cs hE
  obtain ⟨H2, H3, hp, hsub, hR'⟩ := hr o H' hR
  exact ⟨o, w', m', H3, hR', (hF.perm (.refl _) hp).sub hsub, hs⟩
def costV (c : Cz) (a b : Ps) : Int := if okPs a then (match bestP c a b with | some x => x.2 | none => -1) else -1
def KnK (c : Cz) (l : List EnK) : Prop := ∀ k v, mget k l = some v → v = costV c k.1 k.2
theorem KnK.nil {c : Cz} : KnK c [] := fun k v h => by rw [mget_nil] at h; cases h
theorem KnK.put {c : Cz} {l : List EnK} {n : Nat} {a b : Ps} {v : Int} (h : KnK c l) (hv : v = costV c a b) : KnK c (mput (a, b) v n l) := fun k u hk => by
  rw [mget_mput] at hk
  split at hk
  · rename_i e; subst e; cases hk; exact hv
  · exact h k u hk
theorem fromV_ok {u : Pt × Pt} (h : u.1.ok) : okPs (fromV u) := ⟨h, octV_bd _⟩
theorem costV_n {c : Cz} {a b : Ps} (h : ¬ okPs a) : costV c a b = -1 := by unfold costV; rw [if_neg h]
theorem costV_0 {c : Cz} {a b : Ps} (h : okPs a) (hb : firstL lessP none (passP c a b) = none) : costV c a b = -1 := by unfold costV bestP; rw [if_pos h, hb]
theorem costV_1 {c : Cz} {a b : Ps} {x : List Pt × Int} (h : okPs a) (hb : firstL lessP none (passP c a b) = some x) : costV c a b = x.2 := by unfold costV bestP; rw [if_pos h, hb]
theorem pass_cost {c : Cz} {a b : Ps} (hok : okCz c) (ha : okPs a) (hb : okPs b) {x : List Pt × Int} (hx : x ∈ passP c a b) : 0 ≤ x.2 ∧ x.2 ≤ 10000000 := by
  have hl := pass_len hx
  have hg := (pass_good hok ha hb x hx).1
  have hn := hok.2.2.1
  obtain ⟨hs, ht⟩ : (1 ≤ c.speed ∧ c.speed ≤ 1000) ∧ (0 ≤ c.turn ∧ c.turn ≤ 1000) := ⟨hok.2.2.2.2.2.2.2.2.2.2.2.2.1, hok.2.2.2.2.2.2.2.2.2.2.2.2.2⟩
  obtain ⟨l, _, hm⟩ := List.mem_filterMap.1 hx
  obtain ⟨n, hcn, rfl⟩ := Option.map_eq_some_iff.1 hm
  simp only at hl hg ⊢
  cases l with
  | nil => simp at hl
  | cons p r =>
    have := cost_bd hs ht hb.2 r p a.oc 0 n (hg p (by simp)) (fun q hq => hg q (by simp [hq])) ha.2 (Int.le_refl _) hcn
    simp only [List.length_cons] at hl
    omega
theorem costV_bd {c : Cz} {a b : Ps} (hok : okCz c) (hb : okPs b) : -1 ≤ costV c a b ∧ costV c a b ≤ 10000000 := by
  unfold costV
  split
  · rename_i ha
    unfold bestP
    cases hq : firstL lessP none (passP c a b) with
    | none => simp
    | some x =>
      rcases firstL_mem hq with h | h
      · cases h
      · have := pass_cost hok ha hb h; simp only; omega
  · omega
def goV (c : Cz) (r : Re) (u : Pt × Pt) (d : List Bd) : Option (Int × Int) := if costV c r.1 (fromV u) < 0 then none else shotV c u d (r.2 + costV c r.1 (fromV u))
section
open Classical in
theorem pmJ (L m H : Heap) : (L ++ (m ++ H)).Perm (m ++ (L ++ H)) := perm_of fun a => by simp only [List.count_append]; omega
open Classical in
theorem pmK (L m H B : Heap) : (m ++ (B ++ (L ++ H))).Perm (B ++ (L ++ (m ++ H))) := perm_of fun a => by simp only [List.count_append]; omega
end
theorem best_call (h : CH) (c : Cz) (a b : Ps) (bm bc : Nat) (hok : okCz c) (hpa : okPs a) (hpb : okPs b) (H : Heap) [hcz : CzO H h c] [hat0 : HAt H bc (clCh h c bm) 173] (ml : List EnS) (n : Nat) (hk : KnS c ml) (L : Heap) :
    VCall Tryz.prog 116 [ptr bc, vPs a, vPs b].toArray (L ++ (bm, mSt ml n) :: H) (fun o H' => ∃ ml' n', H' = L ++ (bm, mSt ml' n') :: H ∧ KnS c ml' ∧ ∃ oa nn cp m is B, o = .val (tup [.agg #[.slice oa nn cp, I m], .bool is]) ∧ BestI (passP c a b) oa nn cp m is B) := by
  refine VCall.convS (VCall.perm (pmJ L [(bm, mSt ml n)] H) (d_best h c a b bm bc hok hpa hpb (L ++ H) ml n hk)) ?_
  rintro o H' ⟨ml', n', B, h1, h2, oa, nn, cp, m, is, h3, h4⟩
  subst h1
  exact ⟨_, L ++ (bm, mSt ml' n') :: H, pmK L [(bm, mSt ml' n')] H B, List.sublist_append_right _ _, ml', n', rfl, h2, oa, nn, cp, m, is, B, h3, h4⟩
theorem d_goes (h : CH) (c : Cz) (bm bc : Nat) (H : Heap) [hcz : CzO H h c] [hat : HAt H bc (clCh h c bm) 173] (bk : Nat) (i : Nat) (w : Int) (z : Pt × Pt) (hz : c.lines[i]? = some z) (d : List Bd) (hd : c.opens[i]? = some d) (hok : okCz c) (r : Re) (hr : 0 ≤ r.2 ∧ r.2 ≤ 100000000) (lk : List EnK) (nk : Nat) (hlk : KnK c lk) (l : List EnS) (n : Nat) (hl : KnS c l) : VCall Tryz.prog 86 [vPl bc bk, vRe r, vShoot i w].toArray ((bk, mKp lk nk) :: (bm, mSt l n) :: H) (fun o H' => ∃ lk' nk' l' n', H' = (bk, mKp lk' nk') :: (bm, mSt l' n') :: H ∧ KnK c lk' ∧ KnS c l' ∧ o = .val (tup [vPr ((goV c r (wayV z w) d).getD (0, 0)), .bool (goV c r (wayV z w) d).isSome])) := by
 have hlt := (List.getElem?_eq_some_iff.1 hz).1
 have hzo := hok.2.2.2.2.1 z (List.mem_of_getElem? hz)
 obtain ⟨hu1, hu2⟩ := wayV_ok (w := w) hzo.1 hzo.2.1
 have hcb := costV_bd (c := c) (a := r.1) (b := fromV (wayV z w)) hok (fromV_ok hu1)
 refine CV 67 Tryz.func86 ?_
 refine KK2 (BX fun b1 => ?_)
 refine BX fun b2 => ?_
 refine BX fun b3 => ?_
 refine AL fun b4 => ?_
 refine QA (KK3 ?_)
 refine QF ?_
 refine QL ?_
 refine QN ?_
 refine QQ (vcq rfl rfl rfl (q_ends h c bm bc _ i w z hz hok)) rfl ?_
 refine QM ?_
 refine QX ?_
 refine QX ?_
 refine AL fun b5 => ?_
 refine AL fun b6 => ?_
 refine SN ?_
 refine SN (KK3 ?_)
 refine QF ?_
 refine QN ?_
 refine QN ?_
 refine QB ?_
 refine AL fun b7 => ?_
 refine SN (KK3 ?_)
 refine QF ?_
 refine QL ?_
 refine QN ?_
 refine QQ (vlook (ek := evKp) (ev' := evI) (a := (r.1, fromV (wayV z w))) rfl rfl) rfl ?_
 cases hk : mget (r.1, fromV (wayV z w)) lk
 ·
  refine QM ?_
  refine QX ?_
  refine QX ?_
  refine QA ?_
  refine QA (vnil (vseq (KK2 ?_)))
  refine QM ?_
  refine QQ (vnot rfl) rfl (vnil ?_)
  refine vcondt rfl (KK2 (QA (vnil (vseq (KK2 ?_)))))
  refine QF ?_
  refine QN ?_
  refine QQ (vcp rfl rfl rfl (c_psvalid r.1)) rfl (vnil ?_)
  refine vcondd rfl (fun h37 => ?_) (fun h37 => ?_)
  ·
   refine KK2 (QF ?_)
   refine QL ?_
   refine QF ?_
   refine QN ?_
   refine QN ?_
   refine vone rfl (vxg (vcg (R := fun v H' => ∃ l2 n2 oa nn cp m is B, v = tup [.agg #[.slice oa nn cp, I m], .bool is] ∧ H' = (b7, blk (clKp (r.1, fromV (wayV z w))) 221) :: (b6, blk (clPs (toV (wayV z w))) 181) :: (b5, blk (clPs (fromV (wayV z w))) 181) :: (b4, blk [I 0, I 0] 56) :: (b3, blk [I (i : Int), I w] 178) :: (b2, blk (clRe r) 183) :: (b1, blk (clPl bc bk) 168) :: (bk, mKp lk nk) :: (bm, mSt l2 n2) :: H ∧ KnS c l2 ∧ BestI (passP c r.1 (fromV (wayV z w))) oa nn cp m is B) rfl rfl rfl (best_call h c r.1 (fromV (wayV z w)) bm bc hok h37 (fromV_ok hu1) H l n hl [(b7, blk (clKp (r.1, fromV (wayV z w))) 221), (b6, blk (clPs (toV (wayV z w))) 181), (b5, blk (clPs (fromV (wayV z w))) 181), (b4, blk [I 0, I 0] 56), (b3, blk [I (i : Int), I w] 178), (b2, blk (clRe r) 183), (b1, blk (clPl bc bk) 168), (bk, mKp lk nk)]) (fun o H' ⟨l2, n2, h1, h2, oa, nn, cp, m, is, B, h3, h4⟩ => ⟨_, h3, l2, n2, oa, nn, cp, m, is, B, rfl, h1, h2, h4⟩)) rfl rfl ?_)
   rintro _ _ ⟨l2, n2, oa, nn, cp, m, is, B, rfl, rfl, hk2, hbst⟩
   rcases hbst with ⟨hf, rfl, rfl, rfl, rfl, rfl⟩ | ⟨x0, hf, rfl, rfl, rfl, hs0⟩
   ·
    refine QM ?_
    refine QX ?_
    refine QX ?_
    refine AL fun b8 => ?_
    refine SN ?_
    refine QA (KK3 ?_)
    refine QM (vnil ?_)
    refine vcondf rfl (vskip (vregion (QF ?_)))
    refine QL ?_
    refine QN ?_
    refine QM ?_
    refine vone rfl (vxs (vmup (ek := evKp) (ev' := evI) (a := (r.1, fromV (wayV z w))) (v := _) rfl rfl rfl) rfl ?_)
    refine vnil (vseq (vseq ?_))
    refine VRun.sub (H' := (b7, blk (clKp (r.1, fromV (wayV z w))) 221) :: (b6, blk (clPs (toV (wayV z w))) 181) :: (b5, blk (clPs (fromV (wayV z w))) 181) :: (b4, blk [I 0, I 0] 56) :: (b3, blk [I (i : Int), I w] 178) :: (b2, blk (clRe r) 183) :: (b1, blk (clPl bc bk) 168) :: (bk, mKp (mput (r.1, fromV (wayV z w)) (-1) nk lk) (mclk (r.1, fromV (wayV z w)) lk nk)) :: (bm, mSt l2 n2) :: H) sb2 ?_
    refine vregion (QM ?_)
    refine QS (vnil ?_)
    refine vcondt rfl (KK2 (QB ?_))
    refine SN ?_
    refine QA (vnil ?_)
    refine vret (vr2 (H' := (bk, _) :: (bm, _) :: H) Tryz.func86 rfl (.celln rfl rfl) (.tmp rfl) sb2 ?_)
    (have ee : goV c r (wayV z w) d = none := (by unfold goV; rw [if_pos (by first | (rw [← hvv]; exact h55) | (rw [costV_n h37]; decide) | (rw [costV_0 h37 hf]; decide))]); rw [ee]; first | exact ⟨lk, nk, l, n, rfl, hlk, hl, rfl⟩ | exact ⟨_, _, l, n, rfl, hlk.put (costV_n h37).symm, hl, rfl⟩ | exact ⟨_, _, l2, n2, rfl, hlk.put (costV_0 h37 hf).symm, hk2, rfl⟩)
   ·
    have hx0 := pass_cost hok h37 (fromV_ok hu1) ((firstL_mem hf).resolve_left (by simp))
    refine QM ?_
    refine QX ?_
    refine QX ?_
    refine AL fun b9 => ?_
    refine SN ?_
    refine QA (KK3 ?_)
    refine QM (vnil ?_)
    refine vcondt rfl (vregion (QF ?_))
    refine QL ?_
    refine QA (vnil (vregion ?_))
    refine QF ?_
    refine QL ?_
    refine QN ?_
    refine QM ?_
    refine vone rfl (vxs (vmup (ek := evKp) (ev' := evI) (a := (r.1, fromV (wayV z w))) (v := _) rfl rfl rfl) rfl ?_)
    refine vnil (vseq (vseq ?_))
    refine VRun.sub (H' := (b7, blk (clKp (r.1, fromV (wayV z w))) 221) :: (b6, blk (clPs (toV (wayV z w))) 181) :: (b5, blk (clPs (fromV (wayV z w))) 181) :: (b4, blk [I 0, I 0] 56) :: (b3, blk [I (i : Int), I w] 178) :: (b2, blk (clRe r) 183) :: (b1, blk (clPl bc bk) 168) :: (bk, mKp (mput (r.1, fromV (wayV z w)) x0.2 nk lk) (mclk (r.1, fromV (wayV z w)) lk nk)) :: (bm, mSt l2 n2) :: H) sb2 ?_
    refine vregion (QM ?_)
    refine QS ?_
    refine vknow (d := 55) (b' := false) rfl (decide_eq_false (by omega)) ?_
    refine vnil (vcondf rfl (vskip (KK2 (QF ?_))))
    refine QL ?_
    refine QN ?_
    refine QF ?_
    refine QL ?_
    refine QM ?_
    refine QQ (vadd rfl rfl (by unfold InR; omega)) rfl ?_
    refine vone rfl (vxg (vcg (R := fun vv H' => ∃ l3 n3, vv = tup [vPr ((shotV c (wayV z w) d (r.2 + x0.2)).getD (0, 0)), .bool (shotV c (wayV z w) d (r.2 + x0.2)).isSome] ∧ H' = (b7, blk (clKp (r.1, fromV (wayV z w))) 221) :: (b6, blk (clPs (toV (wayV z w))) 181) :: (b5, blk (clPs (fromV (wayV z w))) 181) :: (b4, blk [I 0, I 0] 56) :: (b3, blk [I (i : Int), I w] 178) :: (b2, blk (clRe r) 183) :: (b1, blk (clPl bc bk) 168) :: (bk, mKp (mput (r.1, fromV (wayV z w)) x0.2 nk lk) (mclk (r.1, fromV (wayV z w)) lk nk)) :: (bm, mSt l3 n3) :: H ∧ KnS c l3) rfl rfl rfl (VCall.atO (H := (b7, blk (clKp (r.1, fromV (wayV z w))) 221) :: (b6, blk (clPs (toV (wayV z w))) 181) :: (b5, blk (clPs (fromV (wayV z w))) 181) :: (b4, blk [I 0, I 0] 56) :: (b3, blk [I (i : Int), I w] 178) :: (b2, blk (clRe r) 183) :: (b1, blk (clPl bc bk) 168) :: (bk, mKp (mput (r.1, fromV (wayV z w)) x0.2 nk lk) (mclk (r.1, fromV (wayV z w)) lk nk)) :: (bm, mSt l2 n2) :: H) (d_shot h c bm bc ((b7, blk (clKp (r.1, fromV (wayV z w))) 221) :: (b6, blk (clPs (toV (wayV z w))) 181) :: (b5, blk (clPs (fromV (wayV z w))) 181) :: (b4, blk [I 0, I 0] 56) :: (b3, blk [I (i : Int), I w] 178) :: (b2, blk (clRe r) 183) :: (b1, blk (clPl bc bk) 168) :: (bk, mKp (mput (r.1, fromV (wayV z w)) x0.2 nk lk) (mclk (r.1, fromV (wayV z w)) lk nk)) :: H) i w z hz d hd (r.2 + x0.2) (by omega) hok l2 n2 hk2)) (fun o H' ⟨o', h1, h2, l3, n3, h3, h4⟩ => ⟨_, h2, l3, n3, rfl, by rw [h1, h3], h4⟩)) rfl rfl ?_)
    rintro _ _ ⟨l3, n3, rfl, rfl, hk3⟩
    refine QX ?_
    refine QX ?_
    refine SN ?_
    refine QA (vnil ?_)
    refine vret (vr2 (H' := (bk, _) :: (bm, _) :: H) Tryz.func86 rfl (.celln rfl rfl) (.tmp rfl) sb2 ?_)
    (have ee : goV c r (wayV z w) d = shotV c (wayV z w) d (r.2 + x0.2) := (by unfold goV; rw [costV_1 h37 hf, if_neg (by omega)]); rw [ee]; exact ⟨_, _, l3, n3, rfl, hlk.put (costV_1 h37 hf).symm, hk3, rfl⟩)
  ·
   refine vskip (vregion (QF ?_))
   refine QL ?_
   refine QN ?_
   refine QM ?_
   refine vone rfl (vxs (vmup (ek := evKp) (ev' := evI) (a := (r.1, fromV (wayV z w))) (v := _) rfl rfl rfl) rfl ?_)
   refine vnil (vseq (vseq ?_))
   refine VRun.sub (H' := (b7, blk (clKp (r.1, fromV (wayV z w))) 221) :: (b6, blk (clPs (toV (wayV z w))) 181) :: (b5, blk (clPs (fromV (wayV z w))) 181) :: (b4, blk [I 0, I 0] 56) :: (b3, blk [I (i : Int), I w] 178) :: (b2, blk (clRe r) 183) :: (b1, blk (clPl bc bk) 168) :: (bk, mKp (mput (r.1, fromV (wayV z w)) (-1) nk lk) (mclk (r.1, fromV (wayV z w)) lk nk)) :: (bm, mSt l n) :: H) sb2 ?_
   refine vregion (QM ?_)
   refine QS (vnil ?_)
   refine vcondt rfl (KK2 (QB ?_))
   refine SN ?_
   refine QA (vnil ?_)
   refine vret (vr2 (H' := (bk, _) :: (bm, _) :: H) Tryz.func86 rfl (.celln rfl rfl) (.tmp rfl) sb2 ?_)
   (have ee : goV c r (wayV z w) d = none := (by unfold goV; rw [if_pos (by first | (rw [← hvv]; exact h55) | (rw [costV_n h37]; decide) | (rw [costV_0 h37 hf]; decide))]); rw [ee]; first | exact ⟨lk, nk, l, n, rfl, hlk, hl, rfl⟩ | exact ⟨_, _, l, n, rfl, hlk.put (costV_n h37).symm, hl, rfl⟩ | exact ⟨_, _, l2, n2, rfl, hlk.put (costV_0 h37 hf).symm, hk2, rfl⟩)
 ·
  rename_i v
  have hvv := hlk _ _ hk
  simp only at hvv
  refine QM ?_
  refine QX ?_
  refine QX ?_
  refine QA ?_
  refine QA (vnil (vseq (KK2 ?_)))
  refine QM ?_
  refine QQ (vnot rfl) rfl (vnil ?_)
  refine vcondf rfl (vskip (vseq (vseq ?_)))
  refine VRun.sub (H' := (b7, blk (clKp (r.1, fromV (wayV z w))) 221) :: (b6, blk (clPs (toV (wayV z w))) 181) :: (b5, blk (clPs (fromV (wayV z w))) 181) :: (b4, blk [I 0, I 0] 56) :: (b3, blk [I (i : Int), I w] 178) :: (b2, blk (clRe r) 183) :: (b1, blk (clPl bc bk) 168) :: (bk, mKp lk nk) :: (bm, mSt l n) :: H) sb2 ?_
  refine vregion (QM ?_)
  refine QS (vnil ?_)
  refine vcondd rfl (fun h55 => ?_) (fun h55 => ?_)
  ·
   refine KK2 (QB ?_)
   refine SN ?_
   refine QA (vnil ?_)
   refine vret (vr2 (H' := (bk, _) :: (bm, _) :: H) Tryz.func86 rfl (.celln rfl rfl) (.tmp rfl) sb2 ?_)
   (have ee : goV c r (wayV z w) d = none := (by unfold goV; rw [if_pos (by first | (rw [← hvv]; exact h55) | (rw [costV_n h37]; decide) | (rw [costV_0 h37 hf]; decide))]); rw [ee]; first | exact ⟨lk, nk, l, n, rfl, hlk, hl, rfl⟩ | exact ⟨_, _, l, n, rfl, hlk.put (costV_n h37).symm, hl, rfl⟩ | exact ⟨_, _, l2, n2, rfl, hlk.put (costV_0 h37 hf).symm, hk2, rfl⟩)
  ·
   refine vskip (KK2 (QF ?_))
   refine QL ?_
   refine QN ?_
   refine QF ?_
   refine QL ?_
   refine QM ?_
   refine QQ (vadd rfl rfl (by unfold InR; omega)) rfl ?_
   refine vone rfl (vxg (vcg (R := fun vv H' => ∃ l3 n3, vv = tup [vPr ((shotV c (wayV z w) d (r.2 + v)).getD (0, 0)), .bool (shotV c (wayV z w) d (r.2 + v)).isSome] ∧ H' = (b7, blk (clKp (r.1, fromV (wayV z w))) 221) :: (b6, blk (clPs (toV (wayV z w))) 181) :: (b5, blk (clPs (fromV (wayV z w))) 181) :: (b4, blk [I 0, I 0] 56) :: (b3, blk [I (i : Int), I w] 178) :: (b2, blk (clRe r) 183) :: (b1, blk (clPl bc bk) 168) :: (bk, mKp lk nk) :: (bm, mSt l3 n3) :: H ∧ KnS c l3) rfl rfl rfl (VCall.atO (H := (b7, blk (clKp (r.1, fromV (wayV z w))) 221) :: (b6, blk (clPs (toV (wayV z w))) 181) :: (b5, blk (clPs (fromV (wayV z w))) 181) :: (b4, blk [I 0, I 0] 56) :: (b3, blk [I (i : Int), I w] 178) :: (b2, blk (clRe r) 183) :: (b1, blk (clPl bc bk) 168) :: (bk, mKp lk nk) :: (bm, mSt l n) :: H) (d_shot h c bm bc ((b7, blk (clKp (r.1, fromV (wayV z w))) 221) :: (b6, blk (clPs (toV (wayV z w))) 181) :: (b5, blk (clPs (fromV (wayV z w))) 181) :: (b4, blk [I 0, I 0] 56) :: (b3, blk [I (i : Int), I w] 178) :: (b2, blk (clRe r) 183) :: (b1, blk (clPl bc bk) 168) :: (bk, mKp lk nk) :: H) i w z hz d hd (r.2 + v) (by omega) hok l n hl)) (fun o H' ⟨o', h1, h2, l3, n3, h3, h4⟩ => ⟨_, h2, l3, n3, rfl, by rw [h1, h3], h4⟩)) rfl rfl ?_)
   rintro _ _ ⟨l3, n3, rfl, rfl, hk3⟩
   refine QX ?_
   refine QX ?_
   refine SN ?_
   refine QA (vnil ?_)
   refine vret (vr2 (H' := (bk, _) :: (bm, _) :: H) Tryz.func86 rfl (.celln rfl rfl) (.tmp rfl) sb2 ?_)
   (have ee : goV c r (wayV z w) d = shotV c (wayV z w) d (r.2 + v) := (by unfold goV; rw [← hvv, if_neg h55]); rw [ee]; exact ⟨lk, nk, l3, n3, rfl, hlk, hk3, rfl⟩)
end Go.Proofs.YtoebpndlbldfcaaGreatDoor
namespace Go.Proofs.YtoebpndlbldfcaaGreatDoor
open Go
set_option maxRecDepth 100000
attribute [local irreducible] tightP hullP rootP farP rows endsOf
section
variable {P : Program} {N : Nat} {E : Env} {D : List Deferred} {H : Heap}
variable {d : Nat} {x y : Operand} {T ty T' : TypeId} {pos : String} {af : Array Edge} {g : Option (Nat × Bool)}
theorem vandn1 (hx : ev E x = some (I 1)) (hy : ev E y = some (I ((1 <<< 0 : Nat) : Int))) : OQ P N E D H ⟨some d, .binOp .andNot T x y T', ty, pos, af, g⟩ (I 0) :=
  ov (by simp) (fun t w hA _ => by
    simp only [execOp, ev_eval hA hx, ev_eval hA hy, binOp, eqGuard, Op.intBits]
    rfl)
end
def XBe (H0 : Heap) (x : Re) (vs : List Value) (Hx : Heap) : Prop := vs = [vRe x] ∧ Hx = H0
def XIn (x : Int) (vs : List Value) (Hx : Heap) : Prop := vs = [I x] ∧ Hx = []
def goL (c : Cz) (u : Pt × Pt) (d : List Bd) (r : Re) : List Int := ((goV c r u d).map (·.2)).toList
theorem goL_n {c : Cz} {u : Pt × Pt} {d : List Bd} {r : Re} (h : goV c r u d = none) : goL c u d r = [] := by unfold goL; rw [h]; rfl
theorem goL_s {c : Cz} {u : Pt × Pt} {d : List Bd} {r : Re} {b : Int × Int} (h : goV c r u d = some b) : goL c u d r = [b.2] := by unfold goL; rw [h]; rfl
theorem goes_call (h : CH) (c : Cz) (bm bc : Nat) (H : Heap) [hcz : CzO H h c] [hat : HAt H bc (clCh h c bm) 173] (bk : Nat) (i : Nat) (w : Int) (z : Pt × Pt) (hz : c.lines[i]? = some z) (d : List Bd) (hd : c.opens[i]? = some d) (hok : okCz c) (r : Re) (hr : 0 ≤ r.2 ∧ r.2 ≤ 100000000) (lk : List EnK) (nk : Nat) (hlk : KnK c lk) (l : List EnS) (n : Nat) (hl : KnS c l) (L : Heap) :
    VCall Tryz.prog 86 [vPl bc bk, vRe r, vShoot i w].toArray (L ++ (bk, mKp lk nk) :: (bm, mSt l n) :: H) (fun o H' => ∃ lk' nk' l' n', H' = L ++ (bk, mKp lk' nk') :: (bm, mSt l' n') :: H ∧ KnK c lk' ∧ KnS c l' ∧ o = .val (tup [vPr ((goV c r (wayV z w) d).getD (0, 0)), .bool (goV c r (wayV z w) d).isSome])) := by
  refine VCall.conv (VCall.perm (pmJ L [(bk, mKp lk nk), (bm, mSt l n)] H) (d_goes h c bm bc (L ++ H) bk i w z hz d hd hok r hr lk nk hlk l n hl)) ?_
  rintro o H' ⟨lk', nk', l', n', h1, h2, h3, h4⟩
  subst h1
  exact ⟨_, (pmJ L [(bk, mKp lk' nk'), (bm, mSt l' n')] H).symm, lk', nk', l', n', rfl, h2, h3, h4⟩
def ltB (a b : Int) : Bool := decide (a < b)
theorem firstI_n {pre : List Int} {x : Int} (h : firstL ltB none pre = none) : firstL ltB none (pre ++ [x]) = some x := by rw [firstL_snoc, h]; rfl
theorem firstI_y {pre : List Int} {x y : Int} (h : firstL ltB none pre = some y) (hl : x < y) : firstL ltB none (pre ++ [x]) = some x := by rw [firstL_snoc, h]; simp only [firstL]; rw [if_pos (show ltB x y = true from decide_eq_true hl)]
theorem firstI_o {pre : List Int} {x y : Int} (h : firstL ltB none pre = some y) (hl : ¬ x < y) : firstL ltB none (pre ++ [x]) = some y := by rw [firstL_snoc, h]; simp only [firstL]; rw [if_neg (by unfold ltB; rw [decide_eq_false hl]; simp)]
theorem n_before (bc bk : Nat) (oa : Option Addr) (nn cp : Nat) (w : Int) (H : Heap) : VCall Tryz.prog 147 [vPl bc bk, .slice oa nn cp, I 1, .agg #[I 0, I w]].toArray H (fun o H' => ∃ kp kt ku kx, o = .val (.func (.func 182) #[] #[ptr ku, ptr kx, ptr kp, ptr kt]) ∧ H' = (kx, blk [I 0, I w] 178) :: (ku, blk [I 1] 3) :: (kt, blk [.slice oa nn cp] 22) :: (kp, blk (clPl bc bk) 168) :: H) := by
 refine CV 10 Tryz.func147 ?_
 refine KK2 (BX fun b1 => ?_)
 refine BX fun b2 => ?_
 refine BX fun b3 => ?_
 refine BX fun b4 => ?_
 refine QA (KK3 ?_)
 refine QQ (vmf rfl) rfl ?_
 refine QA (vnil ?_)
 refine vret (V1 ((b4, blk [I 0, I w] 178) :: (b3, blk [I 1] 3) :: (b2, blk [.slice oa nn cp] 22) :: (b1, blk (clPl bc bk) 168) :: H) Tryz.func147 ?_)
 exact ⟨b1, b2, b3, b4, rfl, rfl⟩
theorem n_earliest (bc bk : Nat) (oa : Option Addr) (nn cp : Nat) (w : Int) (H : Heap) : VCall Tryz.prog 111 [vPl bc bk, .slice oa nn cp, I 1, .agg #[I 0, I w]].toArray H (fun o H' => ∃ kp kt ku kx, o = .val (.func (.func 146) #[] #[ptr kp, ptr kt, ptr ku, ptr kx]) ∧ H' = (kx, blk [I 0, I w] 178) :: (ku, blk [I 1] 3) :: (kt, blk [.slice oa nn cp] 22) :: (kp, blk (clPl bc bk) 168) :: H) := by
 refine CV 10 Tryz.func111 ?_
 refine KK2 (BX fun b1 => ?_)
 refine BX fun b2 => ?_
 refine BX fun b3 => ?_
 refine BX fun b4 => ?_
 refine QA (KK3 ?_)
 refine QQ (vmf rfl) rfl ?_
 refine QA (vnil ?_)
 refine vret (V1 ((b4, blk [I 0, I w] 178) :: (b3, blk [I 1] 3) :: (b2, blk [.slice oa nn cp] 22) :: (b1, blk (clPl bc bk) 168) :: H) Tryz.func111 ?_)
 exact ⟨b1, b2, b3, b4, rfl, rfl⟩
theorem it_before (h : CH) (c : Cz) (bm bc bk kp kt ku kx : Nat) (w : Int) (tv : Value) (H0 : Heap) [hcz : CzO H0 h c] [hat : HAt H0 bc (clCh h c bm) 173] : VItM Tryz.prog 182 [ptr ku, ptr kx, ptr kp, ptr kt] (XBe H0) [(c.start, 0)] ((kx, blk [I 0, I w] 178) :: (ku, blk [I 1] 3) :: (kt, blk [tv] 22) :: (kp, blk (clPl bc bk) 168) :: H0) := by
 intro yf ya yc J Jx Hc0 hJ0 hy
 change VCall _ _ _ ((kx, blk [I 0, I w] 178) :: (ku, blk [I 1] 3) :: (kt, blk [tv] 22) :: (kp, blk (clPl bc bk) 168) :: (H0 ++ Hc0)) _
 refine CV 50 Tryz.func182 ?_
 refine KK2 (BX fun b1 => (vnil (vseq ?_)))
 refine vdraw [(.q, 0), (.q, 1), (.q, 2), (.q, 3), (.q, 4), (.a (blk [.int .i64 0] (3)), 5), (.s, 6)] Tryz.mixed (by kernel_rfl) ⟨⟨_, _, _, _, _, rfl, _, inferInstance, rfl⟩, True.intro⟩ ?_
 refine DL ?_
 refine DF ?_
 refine DL ?_
 refine DD (vshl1 (i := 0) (by omega) rfl rfl) rfl ?_
 refine DD (vandn1 rfl rfl) rfl ?_
 refine vda rfl rfl (fun b2 => ?_)
 refine vds (mone rfl) (vst1 rfl rfl rfl rfl) rfl ?_
 refine vdend rfl (vseq (KK2 (QL ?_)))
 refine QE ?_
 refine vknow (d := 15) (b' := true) rfl (by decide) ?_
 refine vnil (vcondt rfl (vseq ?_))
 refine DR [(.q, 0), (.q, 1), (.q, 2), (.w, 3)] Tryz.mixed ?_
 refine DL ?_
 refine DN ?_
 refine DD (vcq rfl rfl rfl (q_start h c bm bc _ bk)) rfl ?_
 refine vdw rfl (mone rfl) (vcy rfl rfl (VY.b6 (hy [] (c.start, 0) [] rfl _ _ _ ⟨rfl, rfl⟩ hJ0))) rfl rfl ?_
 rintro _ _ ⟨bb, rfl, _, rfl, Hc2, rfl, hJ2⟩
 rcases bb with _ | _
 ·
  refine vdend rfl ?_
  refine vret (vr0 (H' := (kx, blk [I 0, I w] 178) :: (ku, blk [I 1] 3) :: (kt, blk [tv] 22) :: (kp, blk (clPl bc bk) 168) :: (H0 ++ Hc2)) Tryz.func182 rfl  sb2 ?_)
  exact ⟨rfl, _, rfl, .inr hJ2⟩
 ·
  refine vdend rfl ?_
  refine vret (vr0 (H' := (kx, blk [I 0, I w] 178) :: (ku, blk [I 1] 3) :: (kt, blk [tv] 22) :: (kp, blk (clPl bc bk) 168) :: (H0 ++ Hc2)) Tryz.func182 rfl  sb2 ?_)
  exact ⟨rfl, _, rfl, .inl hJ2⟩
theorem d_firstI {xs : List Int} {kit : FuncId} [TFn Tryz.prog kit] {caps : List Value} {Hi : Heap} {R : Heap → Prop} (hit : VItK Tryz.prog kit caps XIn xs Hi R) : VCall Tryz.prog 110 [.func (.func kit) #[] caps.toArray, .func (.func 112) #[] #[]].toArray Hi (fun o H' => R H' ∧ o = .val (tup [I ((firstL ltB none xs).getD 0), .bool (firstL ltB none xs).isSome])) := by
 refine CV 20 Tryz.func110 ?_
 refine KK2 (BX fun b1 => ?_)
 refine AL fun b2 => ?_
 refine AL fun b3 => (vnil (vseq (KK2 ?_)))
 refine QM (vnil (vblock ?_))
 refine vrangeK (X := XIn) (xs := xs) (caps := caps) (Hi := Hi) (R := R) (Hc := ((b3, blk [.bool false] 4) :: (b2, blk [I 0] 3) :: (b1, blk [.func (.func 112) #[] #[]] 162) :: [])) (ps := [8]) (fun pre H1 => ∃ m is, ((firstL ltB none pre = none ∧ m = 0 ∧ is = false) ∨ ∃ y, firstL ltB none pre = some y ∧ m = y ∧ is = true) ∧ H1 = (b3, blk [.bool is] 4) :: (b2, blk [I m] 3) :: (b1, blk [.func (.func 112) #[] #[]] 162) :: []) (fun _ _ => False) rfl (hit) (List.perm_append_comm (l₁ := [(b3, blk [.bool false] 4), (b2, blk [I 0] 3), (b1, blk [.func (.func 112) #[] #[]] 162)]) (l₂ := Hi)) ⟨0, false, .inl ⟨rfl, rfl, rfl⟩, rfl⟩ (fun x vs Hx ⟨h, _⟩ => by rw [h]; rfl) rfl ?_ ?_ ?_
 ·
  intro lp rec pre x post vs Hx H1 hrs hxs hX hI
  obtain ⟨rfl, rfl⟩ := hX
  obtain ⟨m, is, hB, rfl⟩ := hI
  change VRun _ _ _ _ _ _ _ ((lp, Obj.loop rec) :: (b3, blk [.bool is] 4) :: (b2, blk [I m] 3) :: (b1, blk [.func (.func 112) #[] #[]] 162) :: []) _
  refine vregion (QA ?_)
  rcases hB with ⟨hf, rfl, rfl⟩ | ⟨y0, hf, rfl, rfl⟩
  ·
   refine vnil ?_
   refine vbegin hrs ?_
   refine vblock (KK2 (QL ?_))
   refine QQ (vnot rfl) rfl ?_
   refine QM ?_
   refine NO4 ?_
   refine QT (vnil ?_)
   refine vcondt rfl (vregion (QM ?_))
   refine SU ?_
   refine SU (vnil (vinblock ?_))
   refine VRun.sub (H' := (lp, Obj.loop (bsy rec)) :: (b3, blk [.bool true] 4) :: (b2, blk [I x] 3) :: (b1, blk [.func (.func 112) #[] #[]] 162) :: []) sb ?_
   refine vroundI_end (.refl _) ?_
   exact ⟨x, true, .inr ⟨_, firstI_n hf, rfl, rfl⟩, rfl⟩
  ·
   refine vnil ?_
   refine vbegin hrs ?_
   refine vblock (KK2 (QL ?_))
   refine QQ (vnot rfl) rfl ?_
   refine QM ?_
   refine YL ?_
   refine YM ?_
   refine YL ?_
   refine YY (vcp rfl rfl rfl (c_sooner x _)) rfl ?_
   refine QU (vnil ?_)
   refine vcondd rfl (fun h16 => ?_) (fun h16 => ?_)
   ·
    refine vregion (QM ?_)
    refine SU ?_
    refine SU (vnil (vinblock ?_))
    refine VRun.sub (H' := (lp, Obj.loop (bsy rec)) :: (b3, blk [.bool true] 4) :: (b2, blk [I x] 3) :: (b1, blk [.func (.func 112) #[] #[]] 162) :: []) sb ?_
    refine vroundI_end (.refl _) ?_
    exact ⟨x, true, .inr ⟨_, firstI_y hf h16, rfl, rfl⟩, rfl⟩
   ·
    refine vskip (vinblock ?_)
    refine VRun.sub (H' := (lp, Obj.loop (bsy rec)) :: (b3, blk [.bool true] 4) :: (b2, blk [I m] 3) :: (b1, blk [.func (.func 112) #[] #[]] 162) :: []) sb ?_
    refine vroundI_end (.refl _) ?_
    exact ⟨m, true, .inr ⟨_, firstI_o hf h16, rfl, rfl⟩, rfl⟩
 ·
  intro r1 Hi1 H1 hR hI
  obtain ⟨m, is, hB, rfl⟩ := hI
  refine VRun.perm (H' := (r1, .deferred (some [])) :: (b3, blk [.bool is] 4) :: (b2, blk [I m] 3) :: (b1, blk [.func (.func 112) #[] #[]] 162) :: Hi1) ((List.perm_append_comm (l₁ := Hi1) (l₂ := [(b3, blk [.bool is] 4), (b2, blk [I m] 3), (b1, blk [.func (.func 112) #[] #[]] 162)])).cons _) ?_
  refine vinblock (vseq ?_)
  refine DR [(.q, 0), (.q, 1), (.q, 2), (.q, 3)] Tryz.mixed ?_
  refine DL ?_
  refine DL ?_
  refine vdqn (mone rfl) (vst1s rfl rfl rfl rfl) rfl ?_
  refine vdqn (mone rfl) (vst1s rfl rfl rfl rfl) rfl ?_
  refine vdend rfl ?_
  refine vret (vret_mark (vr2 (H' := Hi1) Tryz.func110 rfl (.cell1 rfl rfl) (.cell1 rfl rfl) sb ?_))
  exact ⟨hR, by rcases hB with ⟨hf, rfl, rfl⟩ | ⟨y0, hf, rfl, rfl⟩ <;> rw [hf] <;> rfl⟩
 ·
  intro r1 c Hi1 H1 hR hI
  exact hI.elim
end Go.Proofs.YtoebpndlbldfcaaGreatDoor
namespace Go.Proofs.YtoebpndlbldfcaaGreatDoor
open Go
set_option maxRecDepth 100000
attribute [local irreducible] tightP hullP rootP farP rows endsOf
theorem goL_at {c : Cz} {u : Pt × Pt} {d : List Bd} {xs pre post : List Re} {x : Re} {b : Int × Int} (hxs : xs = pre ++ x :: post) (h : goV c x u d = some b) : xs.flatMap (goL c u d) = pre.flatMap (goL c u d) ++ b.2 :: post.flatMap (goL c u d) := by
  rw [hxs, List.flatMap_append, List.flatMap_cons, goL_s h]; rfl
theorem goL_snoc {c : Cz} {u : Pt × Pt} {d : List Bd} {pre : List Re} {x : Re} : (pre ++ [x]).flatMap (goL c u d) = pre.flatMap (goL c u d) ++ goL c u d x := by rw [List.flatMap_append]; simp
theorem one_at {α : Type} {pre post : List α} {x y : α} (h : [y] = pre ++ x :: post) : x = y := by
  have : x ∈ [y] := by rw [h]; simp
  exact List.mem_singleton.1 this
section
open Classical in
theorem pmL (X Y G C : Heap) : (X ++ (Y ++ (G ++ C))).Perm ((X ++ G) ++ (Y ++ C)) := perm_of fun a => by simp only [List.count_append]; omega
open Classical in
theorem pmM (L G Y C : Heap) : (L ++ (G ++ (Y ++ C))).Perm (L ++ (Y ++ (G ++ C))) := perm_of fun a => by simp only [List.count_append]; omega
open Classical in
theorem pmN (R X G Y C : Heap) : (R ++ ((X ++ G) ++ (Y ++ C))).Perm (R ++ (X ++ (Y ++ (G ++ C)))) := perm_of fun a => by simp only [List.count_append]; omega
end
theorem it_earliest (h : CH) (c : Cz) (bm bc bk kp kt ku kx : Nat) (oa : Option Addr) (nn cp : Nat) (w : Int) (z : Pt × Pt) (hz : c.lines[0]? = some z) (d : List Bd) (hd : c.opens[0]? = some d) (hok : okCz c) (G : Heap) [hcz : CzO G h c] [hat : HAt G bc (clCh h c bm) 173] [hat1 : HAt G kp (clPl bc bk) 168] [hat2 : HAt G kt [.slice oa nn cp] 22] [hat3 : HAt G ku [I 1] 3] [hat4 : HAt G kx [I 0, I w] 178] (lk : List EnK) (nk : Nat) (hlk : KnK c lk) (l : List EnS) (n : Nat) (hl : KnS c l) : VItK Tryz.prog 146 [ptr kp, ptr kt, ptr ku, ptr kx] XIn ([(c.start, 0)].flatMap (goL c (wayV z w) d)) ((bk, mKp lk nk) :: (bm, mSt l n) :: G) (fun H' => ∃ lk nk l n, H' = (bk, mKp lk nk) :: (bm, mSt l n) :: G ∧ KnK c lk ∧ KnS c l) := by
 intro yf ya yc J Jx Hc hJ hy
 change VCall _ _ _ ((bk, mKp lk nk) :: (bm, mSt l n) :: (G ++ Hc)) _
 refine CV 30 Tryz.func146 ?_
 refine KK2 (BX fun b1 => (KK3 ?_))
 refine QN ?_
 refine QL ?_
 refine QL ?_
 refine QN ?_
 refine vone rfl (vxg (vcg (R := fun v H' => ∃ jp jt ju jx, v = .func (.func 182) #[] #[ptr ju, ptr jx, ptr jp, ptr jt] ∧ H' = (jx, blk [I 0, I w] 178) :: (ju, blk [I 1] 3) :: (jt, blk [.slice oa nn cp] 22) :: (jp, blk (clPl bc bk) 168) :: (b1, blk [.func yf ya yc] 33) :: (bk, mKp lk nk) :: (bm, mSt l n) :: (G ++ Hc)) rfl rfl rfl (n_before bc bk oa nn cp w _) (fun o H' ⟨jp, jt, ju, jx, h1, h2⟩ => ⟨_, h1, jp, jt, ju, jx, rfl, h2⟩)) rfl rfl ?_)
 rintro _ _ ⟨jp, jt, ju, jx, rfl, rfl⟩
 refine vnil (vblock ?_)
 refine vrangeM (X := XBe G) (xs := [(c.start, 0)]) (caps := [ptr ju, ptr jx, ptr jp, ptr jt]) (Hi := ((jx, blk [I 0, I w] 178) :: (ju, blk [I 1] 3) :: (jt, blk [.slice oa nn cp] 22) :: (jp, blk (clPl bc bk) 168) :: G)) (Hc := ((b1, blk [.func yf ya yc] 33) :: (bk, mKp lk nk) :: (bm, mSt l n) :: Hc)) (ps := [14]) (fun pre H1 => ∃ lk nk l n Hc, H1 = (b1, blk [.func yf ya yc] 33) :: (bk, mKp lk nk) :: (bm, mSt l n) :: Hc ∧ KnK c lk ∧ KnS c l ∧ J (pre.flatMap (goL c (wayV z w) d)) Hc) (fun cd H1 => cd = .ret ∧ ∃ lk nk l n Hc, H1 = (b1, blk [.func yf ya yc] 33) :: (bk, mKp lk nk) :: (bm, mSt l n) :: Hc ∧ KnK c lk ∧ KnS c l ∧ Jx Hc) rfl (it_before h c bm bc bk jp jt ju jx w (.slice oa nn cp) G) (pmL [(jx, blk [I 0, I w] 178), (ju, blk [I 1] 3), (jt, blk [.slice oa nn cp] 22), (jp, blk (clPl bc bk) 168)] [(b1, blk [.func yf ya yc] 33), (bk, mKp lk nk), (bm, mSt l n)] G Hc) ⟨lk, nk, l, n, Hc, rfl, hlk, hl, hJ⟩ (fun x vs Hx ⟨h, _⟩ => by rw [h]; rfl) rfl ?_ ?_ ?_
 ·
  intro lp rec pre x post vs Hx H1 hrs hxs hX hI
  obtain ⟨rfl, hHx⟩ := hX
  have hHx := hHx.symm
  subst hHx
  obtain ⟨lk1, nk1, l1, n1, Hc1, rfl, hlk1, hl1, hJ1⟩ := hI
  have hx1 := one_at hxs
  have hx2 : 0 ≤ x.2 ∧ x.2 ≤ 100000000 := by rw [hx1]; show (0 : Int) ≤ 0 ∧ (0 : Int) ≤ 100000000; decide
  refine VRun.perm (H' := (lp, Obj.loop rec) :: (b1, blk [.func yf ya yc] 33) :: (bk, mKp lk1 nk1) :: (bm, mSt l1 n1) :: (G ++ Hc1)) (pmM [(lp, Obj.loop rec)] G [(b1, blk [.func yf ya yc] 33), (bk, mKp lk1 nk1), (bm, mSt l1 n1)] Hc1) ?_
  refine vregion (AL fun b2 => ?_)
  refine SN (vnil ?_)
  refine vbegin hrs ?_
  refine vblock (KK2 (QN ?_))
  refine QN ?_
  refine QN ?_
  refine vone rfl (vxg (vcg (R := fun vv H' => ∃ lk2 nk2 l2 n2, vv = tup [vPr ((goV c x (wayV z w) d).getD (0, 0)), .bool (goV c x (wayV z w) d).isSome] ∧ H' = (b2, blk (clRe x) 183) :: (lp, Obj.loop (bsy rec)) :: (b1, blk [.func yf ya yc] 33) :: (bk, mKp lk2 nk2) :: (bm, mSt l2 n2) :: (G ++ Hc1) ∧ KnK c lk2 ∧ KnS c l2) rfl rfl rfl (goes_call h c bm bc (G ++ Hc1) bk 0 w z hz d hd hok x hx2 lk1 nk1 hlk1 l1 n1 hl1 [(b2, blk (clRe x) 183), (lp, Obj.loop (bsy rec)), (b1, blk [.func yf ya yc] 33)]) (fun o H' ⟨lk2, nk2, l2, n2, h1, h2, h3, h4⟩ => ⟨_, h4, lk2, nk2, l2, n2, rfl, h1, h2, h3⟩)) rfl rfl ?_)
  rintro _ _ ⟨lk2, nk2, l2, n2, rfl, rfl, hlk2, hl2⟩
  cases hgo : goV c x (wayV z w) d
  ·
   refine QM ?_
   refine QX ?_
   refine QX ?_
   refine AL fun b3 => ?_
   refine SN ?_
   refine QA (KK3 ?_)
   refine QM ?_
   refine QM ?_
   refine NO4 ?_
   refine NO ?_
   refine QU (vnil ?_)
   refine vcondf rfl (vskip (vinblock ?_))
   refine VRun.sub (H' := (lp, Obj.loop (bsy rec)) :: (b1, blk [.func yf ya yc] 33) :: (bk, mKp lk2 nk2) :: (bm, mSt l2 n2) :: (G ++ Hc1)) sb2 ?_
   refine VRun.perm (H' := (lp, Obj.loop (bsy rec)) :: (G ++ ((b1, blk [.func yf ya yc] 33) :: (bk, mKp lk2 nk2) :: (bm, mSt l2 n2) :: Hc1))) (pmM [(lp, Obj.loop (bsy rec))] G [(b1, blk [.func yf ya yc] 33), (bk, mKp lk2 nk2), (bm, mSt l2 n2)] Hc1).symm ?_
   refine vroundI_end (.refl _) ?_
   exact ⟨_, rfl, lk2, nk2, l2, n2, Hc1, rfl, hlk2, hl2, by rw [goL_snoc, goL_n hgo, List.append_nil]; exact hJ1⟩
  ·
   rename_i bv
   refine QM ?_
   refine QX ?_
   refine QX ?_
   refine AL fun b4 => ?_
   refine SN ?_
   refine QA (KK3 ?_)
   refine QM ?_
   refine QM ?_
   refine YL ?_
   refine YF ?_
   refine YL ?_
   refine vyes rfl rfl rfl (vxg (vcy rfl rfl (VY.b6 (VY.behind (A := G) (hy (pre.flatMap (goL c (wayV z w) d)) bv.2 (post.flatMap (goL c (wayV z w) d)) (goL_at hxs hgo) [I bv.2] [] Hc1 ⟨rfl, rfl⟩ hJ1)))) rfl rfl ?_)
   rintro _ _ ⟨bb, rfl, _, rfl, Hc2, rfl, hJ2⟩
   rcases bb with _ | _
   ·
    refine YY (vnot rfl) rfl ?_
    refine QT (vnil ?_)
    refine vcondt rfl ?_
    refine VRun.sub (H' := (lp, Obj.loop (bsy rec)) :: (b1, blk [.func yf ya yc] 33) :: (bk, mKp lk2 nk2) :: (bm, mSt l2 n2) :: (G ++ Hc2)) sb2 ?_
    refine VRun.perm (H' := (lp, Obj.loop (bsy rec)) :: (G ++ ((b1, blk [.func yf ya yc] 33) :: (bk, mKp lk2 nk2) :: (bm, mSt l2 n2) :: Hc2))) (pmM [(lp, Obj.loop (bsy rec))] G [(b1, blk [.func yf ya yc] 33), (bk, mKp lk2 nk2), (bm, mSt l2 n2)] Hc2).symm ?_
    refine vroundI_ret (.refl _) ?_
    exact ⟨_, rfl, rfl, lk2, nk2, l2, n2, Hc2, rfl, hlk2, hl2, hJ2⟩
   ·
    refine YY (vnot rfl) rfl ?_
    refine QT (vnil ?_)
    refine vcondf rfl (vskip (vinblock ?_))
    refine VRun.sub (H' := (lp, Obj.loop (bsy rec)) :: (b1, blk [.func yf ya yc] 33) :: (bk, mKp lk2 nk2) :: (bm, mSt l2 n2) :: (G ++ Hc2)) sb2 ?_
    refine VRun.perm (H' := (lp, Obj.loop (bsy rec)) :: (G ++ ((b1, blk [.func yf ya yc] 33) :: (bk, mKp lk2 nk2) :: (bm, mSt l2 n2) :: Hc2))) (pmM [(lp, Obj.loop (bsy rec))] G [(b1, blk [.func yf ya yc] 33), (bk, mKp lk2 nk2), (bm, mSt l2 n2)] Hc2).symm ?_
    refine vroundI_end (.refl _) ?_
    exact ⟨_, rfl, lk2, nk2, l2, n2, Hc2, rfl, hlk2, hl2, by rw [goL_snoc, goL_s hgo]; exact hJ2⟩
 ·
  intro r1 H1 hI
  obtain ⟨lk1, nk1, l1, n1, Hc1, rfl, hlk1, hl1, hJ1⟩ := hI
  refine VRun.perm (H' := (r1, .deferred (some [])) :: (jx, blk [I 0, I w] 178) :: (ju, blk [I 1] 3) :: (jt, blk [.slice oa nn cp] 22) :: (jp, blk (clPl bc bk) 168) :: (b1, blk [.func yf ya yc] 33) :: (bk, mKp lk1 nk1) :: (bm, mSt l1 n1) :: (G ++ Hc1)) (pmN [(r1, .deferred (some []))] [(jx, blk [I 0, I w] 178), (ju, blk [I 1] 3), (jt, blk [.slice oa nn cp] 22), (jp, blk (clPl bc bk) 168)] G [(b1, blk [.func yf ya yc] 33), (bk, mKp lk1 nk1), (bm, mSt l1 n1)] Hc1) ?_
  refine vinblock ?_
  refine vend (vret_mark (vr0 (H' := (bk, mKp lk1 nk1) :: (bm, mSt l1 n1) :: (G ++ Hc1)) Tryz.func146 rfl  sb2 ?_))
  exact ⟨rfl, (bk, mKp lk1 nk1) :: (bm, mSt l1 n1) :: G, Hc1, rfl, ⟨lk1, nk1, l1, n1, rfl, hlk1, hl1⟩, .inl hJ1⟩
 ·
  intro r1 c H1 hI
  obtain ⟨rfl, lk1, nk1, l1, n1, Hc1, rfl, hlk1, hl1, hJ1⟩ := hI
  refine VRun.perm (H' := (r1, .deferred (some [])) :: (jx, blk [I 0, I w] 178) :: (ju, blk [I 1] 3) :: (jt, blk [.slice oa nn cp] 22) :: (jp, blk (clPl bc bk) 168) :: (b1, blk [.func yf ya yc] 33) :: (bk, mKp lk1 nk1) :: (bm, mSt l1 n1) :: (G ++ Hc1)) (pmN [(r1, .deferred (some []))] [(jx, blk [I 0, I w] 178), (ju, blk [I 1] 3), (jt, blk [.slice oa nn cp] 22), (jp, blk (clPl bc bk) 168)] G [(b1, blk [.func yf ya yc] 33), (bk, mKp lk1 nk1), (bm, mSt l1 n1)] Hc1) ?_
  refine vret (vret_mark (vr0 (H' := (bk, mKp lk1 nk1) :: (bm, mSt l1 n1) :: (G ++ Hc1)) Tryz.func146 rfl  sb2 ?_))
  exact ⟨rfl, (bk, mKp lk1 nk1) :: (bm, mSt l1 n1) :: G, Hc1, rfl, ⟨lk1, nk1, l1, n1, rfl, hlk1, hl1⟩, .inr hJ1⟩
end Go.Proofs.YtoebpndlbldfcaaGreatDoor
namespace Go.Proofs.YtoebpndlbldfcaaGreatDoor
open Go
set_option maxRecDepth 100000
attribute [local irreducible] tightP hullP rootP farP rows endsOf
end Go.Proofs.YtoebpndlbldfcaaGreatDoor
namespace Go.Proofs.YtoebpndlbldfcaaGreatDoor
open Go
set_option maxRecDepth 100000
attribute [local irreducible] tightP hullP rootP farP rows endsOf
class TMs (P : Program) (T : TypeId) (e esz by_ : outParam Nat) (zs : outParam (List Value)) : Prop where
  und : P.underlying T = some (.slice e)
  inf : ∃ i z, P.info? e = some i ∧ i.zero = some z ∧ z.cells = zs.toArray ∧ i.size = esz ∧ i.bytes = by_
theorem mkTMs {P : Program} {T e size bytes : Nat} {z : Value} {zs : List Value} (ht : P.underlying T = some (.slice e)) (hi : (P.info? e).map (fun i => (i.zero, i.size, i.bytes)) = some (some z, size, bytes)) (hz : z.cells = zs.toArray) : TMs P T e size bytes zs := by
  obtain ⟨i, h1, h2⟩ := Option.map_eq_some_iff.1 hi
  simp only [Prod.mk.injEq] at h2
  exact ⟨ht, i, z, h1, h2.1, hz, h2.2.1, h2.2.2⟩
instance tMsI : TMs Tryz.prog 22 3 1 8 [.int .i64 0] := mkTMs (z := .int .i64 0) (by kernel_rfl) (by kernel_rfl) rfl
section
variable {P : Program} {N : Nat} {E : Env} {D : List Deferred} {H : Heap} {d : Nat} {x y : Operand} {T ty : TypeId} {pos : String} {af : Array Edge} {g : Option (Nat × Bool)}
theorem vmksN {n e esz by_ : Nat} {zs : List Value} [hT : TMs P T e esz by_ zs] (hx : ev E x = some (.int .i64 (n : Int))) (hy : ev E y = some (.int .i64 (n : Int))) (hz : zs.length = esz) (h0 : 0 < esz) (hn : by_ * n ≤ 281474976710656) (h6 : n ≤ 9223372036854775807) :
    OG P N E D H ⟨some d, .makeSlice T x y, ty, pos, af, g⟩ (fun v H' => ∃ b, v = .slice (some ⟨b, 0, Option.none⟩) n n ∧ H' = (b, blk (rep n zs) e) :: H) := by
  obtain ⟨i, z, h1, h2, h3, h4, h5⟩ := hT.inf
  refine ⟨by simp, fun t w hA hE => ?_⟩
  have hb' : (i.bytes : Int) * (n : Int) ≤ 281474976710656 := by
    have h : ((i.bytes * n : Nat) : Int) ≤ 281474976710656 := by rw [h5]; omega
    rwa [Int.natCast_mul] at h
  have hr := run_make (P := P) w T e i z hT.und h1 h2 .i64 .i64 n n (by omega) (Int.le_refl _) hb' (by omega)
  have hm : madeCells z.cells (n * i.size) = (rep n zs).toArray := by
    unfold madeCells
    apply Array.ext'
    rw [h3, h4]
    refine List.ext_getElem? fun j => ?_
    by_cases hj : j < n * esz
    · have hp := Nat.mod_lt j h0
      simp only [Array.toList_map, Array.toList_range, List.getElem?_map, List.getElem?_range hj, Option.map_some]
      rw [rep_get _ _ _ (by rw [hz]; exact hj)]
      simp only [List.size_toArray, hz]
      rw [getElem!_pos _ _ (by simp [hz, hp])]
      simp [hz, hp]
    · have h5 : (rep n zs)[j]? = Option.none := List.getElem?_eq_none (by rw [rep_len, hz]; omega)
      have h6 : ((Array.range (n * esz)).map (fun i => zs.toArray[i % zs.toArray.size]!)).toList[j]? = Option.none := List.getElem?_eq_none (by simp; omega)
      rw [h6, h5]
  simp only [Int.toNat_natCast, hm] at hr
  refine ⟨.value _, w.alloc (.cells (rep n zs).toArray e), ?_, (w.heap.size, blk (rep n zs) e) :: H, Fr.new hE _, w.heap.size, rfl, rfl⟩
  simp [execOp, ev_eval hA hx, ev_eval hA hy, hr]
end
section
variable {P : Program} {N : Nat} {E : Env} {D : List Deferred} {H : Heap} {d : Nat} {x y : Operand} {T ty T' : TypeId} {pos : String} {af : Array Edge} {g : Option (Nat × Bool)}
theorem vlen1 {oa : Option Addr} {n c e0 z0 : Nat} {t0 : TypeId} [TSl P t0 e0 z0] (hx : ev E x = some (.slice oa n c)) (hn : n = 1) : OQ P N E D H ⟨some d, .call ⟨.builtin .len, #[x], #[t0]⟩, ty, pos, af, g⟩ (I 1) := by subst hn; exact vlen hx
theorem vshl21 (hx : ev E x = some (I 2)) (hy : ev E y = some (I 1)) : OQ P N E D H ⟨some d, .binOp .shl T x y T', ty, pos, af, g⟩ (I 4) :=
  ov (by simp) (fun t w hA _ => by
    simp only [execOp, ev_eval hA hx, ev_eval hA hy, binOp, eqGuard, Op.shift]
    rfl)
theorem vshl11 (hx : ev E x = some (I 1)) (hy : ev E y = some (I 1)) : OQ P N E D H ⟨some d, .binOp .shl T x y T', ty, pos, af, g⟩ (I 2) :=
  ov (by simp) (fun t w hA _ => by
    simp only [execOp, ev_eval hA hx, ev_eval hA hy, binOp, eqGuard, Op.shift]
    rfl)
end
theorem shP_0 {n : Nat} : shP 0 n = [] := by
  unfold shP
  rw [List.flatMap_eq_nil_iff]
  intro j _
  exact half_f (Nat.zero_testBit j)
theorem shP_1 : shP 1 1 = [(0, 0), (0, 1)] := rfl
theorem two_at {α : Type} {pre post : List α} {x y z : α} (h : [y, z] = pre ++ x :: post) : (pre = [] ∧ x = y) ∨ (pre = [y] ∧ x = z) := by
  cases pre with
  | nil => simp only [List.nil_append, List.cons.injEq] at h; exact .inl ⟨rfl, h.1.symm⟩
  | cons a r =>
    simp only [List.cons_append, List.cons.injEq] at h
    obtain ⟨rfl, h⟩ := h
    cases r with
    | nil => simp only [List.nil_append, List.cons.injEq] at h; exact .inr ⟨rfl, h.1.symm⟩
    | cons b r => simp at h
def earE (c : Cz) (z : Pt × Pt) (d : List Bd) (w : Int) : Option Int := firstL ltB none ([(c.start, 0)].flatMap (goL c (wayV z w) d))
def tabE (c : Cz) (z : Pt × Pt) (d : List Bd) (w : Int) : Int := (earE c z d w).getD (-1)
def tabP (c : Cz) (z : Pt × Pt) (d : List Bd) (pre : List (Nat × Int)) (w : Int) : Int := if pre.contains (0, w) then tabE c z d w else -1
section
open Classical in
theorem pmO (X Y H : Heap) : (X ++ (Y ++ H)).Perm ((X ++ H) ++ Y) := perm_of fun a => by simp only [List.count_append]; omega
open Classical in
theorem pmP (X L M H : Heap) : (X ++ (L ++ (M ++ H))).Perm ((M ++ (X ++ H)) ++ L) := perm_of fun a => by simp only [List.count_append]; omega
open Classical in
theorem pmQ (X L M H : Heap) : ((M ++ (X ++ H)) ++ L).Perm (X ++ (L ++ (M ++ H))) := perm_of fun a => by simp only [List.count_append]; omega
end
theorem ear_call (h : CH) (c : Cz) (bm bc bk kp kt ku kx : Nat) (oa : Option Addr) (nn cp : Nat) (w : Int) (z : Pt × Pt) (hz : c.lines[0]? = some z) (d : List Bd) (hd : c.opens[0]? = some d) (hok : okCz c) (H : Heap) [hcz : CzO H h c] [hat : HAt H bc (clCh h c bm) 173] (lk : List EnK) (nk : Nat) (hlk : KnK c lk) (l : List EnS) (n : Nat) (hl : KnS c l) (L : Heap) :
    VCall Tryz.prog 110 [.func (.func 146) #[] [ptr kp, ptr kt, ptr ku, ptr kx].toArray, .func (.func 112) #[] #[]].toArray ((kx, blk [I 0, I w] 178) :: (ku, blk [I 1] 3) :: (kt, blk [.slice oa nn cp] 22) :: (kp, blk (clPl bc bk) 168) :: (L ++ (bk, mKp lk nk) :: (bm, mSt l n) :: H)) (fun o H' => ∃ lk' nk' l' n', H' = L ++ (bk, mKp lk' nk') :: (bm, mSt l' n') :: H ∧ KnK c lk' ∧ KnS c l' ∧ o = .val (tup [I ((earE c z d w).getD 0), .bool (earE c z d w).isSome])) := by
  refine VCall.convS (VCall.perm (pmP [(kx, blk [I 0, I w] 178), (ku, blk [I 1] 3), (kt, blk [.slice oa nn cp] 22), (kp, blk (clPl bc bk) 168)] L [(bk, mKp lk nk), (bm, mSt l n)] H) (VCall.frame (B := L) (d_firstI (it_earliest h c bm bc bk kp kt ku kx oa nn cp w z hz d hd hok ((kx, blk [I 0, I w] 178) :: (ku, blk [I 1] 3) :: (kt, blk [.slice oa nn cp] 22) :: (kp, blk (clPl bc bk) 168) :: H) lk nk hlk l n hl)))) ?_
  rintro o H' ⟨A', h1, ⟨lk', nk', l', n', h2, h3, h4⟩, h5⟩
  subst h1 h2
  exact ⟨_, L ++ (bk, mKp lk' nk') :: (bm, mSt l' n') :: H, pmQ [(kx, blk [I 0, I w] 178), (ku, blk [I 1] 3), (kt, blk [.slice oa nn cp] 22), (kp, blk (clPl bc bk) 168)] L [(bk, mKp lk' nk'), (bm, mSt l' n')] H, List.sublist_append_right _ _, lk', nk', l', n', rfl, h3, h4, h5⟩
end Go.Proofs.YtoebpndlbldfcaaGreatDoor
namespace Go.Proofs.YtoebpndlbldfcaaGreatDoor
open Go
set_option maxRecDepth 100000
attribute [local irreducible] tightP hullP rootP farP rows endsOf
theorem tab_s {c : Cz} {z : Pt × Pt} {d : List Bd} {w e : Int} (h : earE c z d w = some e) : tabE c z d w = e := by unfold tabE; rw [h]; rfl
theorem tab_n {c : Cz} {z : Pt × Pt} {d : List Bd} {w : Int} (h : earE c z d w = none) : tabE c z d w = -1 := by unfold tabE; rw [h]; rfl
theorem q_place1 (h : CH) (c : Cz) (bm bc : Nat) (H : Heap) [hcz : CzO H h c] [hat : HAt H bc (clCh h c bm) 173] (bk : Nat) (w : Int) (hw : 0 ≤ w ∧ w ≤ 1) (h1 : c.lines.length = 1) : VHas Tryz.prog 84 [vPl bc bk, I 1, .agg #[I 0, I w]] (I (2 + w)) H H := by
  have := q_place h c bm bc H bk 1 0 w (by omega) (by omega) hw (by omega)
  rw [h1] at this
  have e : (2 * ((1 : Nat) : Int) * ((1 : Nat) : Int) + 2 * ((0 : Nat) : Int) + w) = 2 + w := by omega
  rw [e] at this
  exact this
theorem d_table (h : CH) (c : Cz) (bm bc : Nat) (H : Heap) [hcz : CzO H h c] [hat : HAt H bc (clCh h c bm) 173] (bk : Nat) (z : Pt × Pt) (hz : c.lines[0]? = some z) (h1 : c.lines.length = 1) (d : List Bd) (hd : c.opens[0]? = some d) (hok : okCz c) (lk : List EnK) (nk : Nat) (hlk : KnK c lk) (l : List EnS) (n : Nat) (hl : KnS c l) : VCall Tryz.prog 82 [vPl bc bk].toArray ((bk, mKp lk nk) :: (bm, mSt l n) :: H) (fun o H' => ∃ bt lk' nk' l' n', H' = (bt, blk [I (-1), I (-1), I (tabE c z d 0), I (tabE c z d 1)] 3) :: (bk, mKp lk' nk') :: (bm, mSt l' n') :: H ∧ o = .val (.slice (some ⟨bt, 0, Option.none⟩) 4 4) ∧ KnK c lk' ∧ KnS c l') := by
 refine CV 59 Tryz.func82 ?_
 refine KK2 (BX fun b1 => ?_)
 refine QA (KK3 ?_)
 refine QF ?_
 refine QL ?_
 refine QC ?_
 refine QF ?_
 refine QF ?_
 refine QL ?_
 refine QQ (vlen1 rfl h1) rfl ?_
 refine QA (KK3 ?_)
 refine QM ?_
 refine QQ (vmul rfl rfl (by unfold InR; omega)) rfl ?_
 refine QM ?_
 refine QQ (vshl21 rfl rfl) rfl ?_
 refine vone rfl (vxg (vmksN (n := 4) (esz := 1) (by_ := 8) (zs := [.int .i64 0]) rfl rfl rfl (by decide) (by decide) (by decide)) rfl rfl ?_)
 rintro _ _ ⟨bt, rfl, rfl⟩
 refine AL fun b2 => ?_
 refine SU (vnil (vseq (KK2 ?_)))
 refine QL ?_
 refine QQ (vlen rfl) rfl ?_
 refine QM (vnil (vblock ?_))
 refine vloop1 ?_
 refine KK2 (QS (vnil (vseq ?_)))
 refine vcondt rfl (vskip (vseq (vblock (KK2 (QM ?_)))))
 refine QA (vnil (vregion ?_))
 refine QL ?_
 refine QM ?_
 refine QQ (vis rfl rfl (by omega)) rfl ?_
 refine SU (vnil (vinblock (vregion ?_)))
 refine QQ (vadd rfl rfl (by unfold InR; omega)) rfl ?_
 refine QM (vnil ?_)
 refine vinloop1 ?_
 refine KK2 (QS (vnil (vseq ?_)))
 refine vcondt rfl (vskip (vseq (vblock (KK2 (QM ?_)))))
 refine QA (vnil (vregion ?_))
 refine QL ?_
 refine QM ?_
 refine QQ (vis rfl rfl (by omega)) rfl ?_
 refine SU (vnil (vinblock (vregion ?_)))
 refine QQ (vadd rfl rfl (by unfold InR; omega)) rfl ?_
 refine QM (vnil ?_)
 refine vinloop1 ?_
 refine KK2 (QS (vnil (vseq ?_)))
 refine vcondt rfl (vskip (vseq (vblock (KK2 (QM ?_)))))
 refine QA (vnil (vregion ?_))
 refine QL ?_
 refine QM ?_
 refine QQ (vis rfl rfl (by omega)) rfl ?_
 refine SU (vnil (vinblock (vregion ?_)))
 refine QQ (vadd rfl rfl (by unfold InR; omega)) rfl ?_
 refine QM (vnil ?_)
 refine vinloop1 ?_
 refine KK2 (QS (vnil (vseq ?_)))
 refine vcondt rfl (vskip (vseq (vblock (KK2 (QM ?_)))))
 refine QA (vnil (vregion ?_))
 refine QL ?_
 refine QM ?_
 refine QQ (vis rfl rfl (by omega)) rfl ?_
 refine SU (vnil (vinblock (vregion ?_)))
 refine QQ (vadd rfl rfl (by unfold InR; omega)) rfl ?_
 refine QM (vnil ?_)
 refine vinloop1 ?_
 refine KK2 (QS (vnil (vseq ?_)))
 refine vcondf rfl ?_
 refine vexit (k' := _) rfl ?_
 refine vseq (KK2 (QM ?_))
 refine QQ (vshl11 rfl rfl) rfl ?_
 refine QM (vnil (vblock ?_))
 refine vloop1 ?_
 refine KK2 (QS (vnil (vseq ?_)))
 refine vcondt rfl (vskip (vseq (vblock (KK2 (QM ?_)))))
 refine AL fun b3 => ?_
 refine SU (KK3 ?_)
 refine QN ?_
 refine QL ?_
 refine vone rfl (vxg (vcg (R := fun v H' => ∃ ks kp, v = .func (.func 113) #[] #[ptr kp, ptr ks] ∧ H' = (ks, blk [I ((0 : Nat) : Int)] 3) :: (kp, blk (clPl bc bk) 168) :: (b3, blk [I 0] 3) :: (b2, blk [.slice (some ⟨bt, 0, Option.none⟩) 4 4] 22) :: (bt, blk [I (-1), I (-1), I (-1), I (-1)] 3) :: (b1, blk (clPl bc bk) 168) :: (bk, mKp lk nk) :: (bm, mSt l n) :: H) rfl rfl rfl (n_shoots bc bk 0 _) (fun o H' ⟨ks, kp, h1, h2⟩ => ⟨_, h1, ks, kp, rfl, h2⟩)) rfl rfl ?_)
 rintro _ _ ⟨ks0, kp0, rfl, rfl⟩
 refine vnil (vblock ?_)
 refine vrangeM (X := XSh H) (xs := shP 0 c.lines.length) (caps := [ptr kp0, ptr ks0]) (Hi := (ks0, blk [I ((0 : Nat) : Int)] 3) :: (kp0, blk (clPl bc bk) 168) :: H) (Hc := (b3, blk [I 0] 3) :: (b2, blk [.slice (some ⟨bt, 0, Option.none⟩) 4 4] 22) :: (bt, blk [I (-1), I (-1), I (-1), I (-1)] 3) :: (b1, blk (clPl bc bk) 168) :: (bk, mKp lk nk) :: (bm, mSt l n) :: []) (ps := [39]) (fun pre H1 => H1 = (b3, blk [I 0] 3) :: (b2, blk [.slice (some ⟨bt, 0, Option.none⟩) 4 4] 22) :: (bt, blk [I (-1), I (-1), I (-1), I (-1)] 3) :: (b1, blk (clPl bc bk) 168) :: (bk, mKp lk nk) :: (bm, mSt l n) :: []) (fun _ _ => False) rfl (it_shoots h c bm bc bk 0 kp0 ks0 (by omega) (by omega) H) (pmO [(ks0, blk [I ((0 : Nat) : Int)] 3), (kp0, blk (clPl bc bk) 168)] [(b3, blk [I 0] 3), (b2, blk [.slice (some ⟨bt, 0, Option.none⟩) 4 4] 22), (bt, blk [I (-1), I (-1), I (-1), I (-1)] 3), (b1, blk (clPl bc bk) 168), (bk, mKp lk nk), (bm, mSt l n)] H) rfl (fun x vs Hx ⟨h, _⟩ => by rw [h]; rfl) rfl ?_ ?_ ?_
 ·
  intro lp rec pre x post vs Hx H1 hrs hxs hX hI
  rw [shP_0] at hxs; simp at hxs
 ·
  intro r1z H1z hIz
  subst hIz
  refine VRun.perm (H' := (r1z, .deferred (some [])) :: (ks0, blk [I ((0 : Nat) : Int)] 3) :: (kp0, blk (clPl bc bk) 168) :: (b3, blk [I 0] 3) :: (b2, blk [.slice (some ⟨bt, 0, Option.none⟩) 4 4] 22) :: (bt, blk [I (-1), I (-1), I (-1), I (-1)] 3) :: (b1, blk (clPl bc bk) 168) :: (bk, mKp lk nk) :: (bm, mSt l n) :: H) ((pmO [(ks0, blk [I ((0 : Nat) : Int)] 3), (kp0, blk (clPl bc bk) 168)] [(b3, blk [I 0] 3), (b2, blk [.slice (some ⟨bt, 0, Option.none⟩) 4 4] 22), (bt, blk [I (-1), I (-1), I (-1), I (-1)] 3), (b1, blk (clPl bc bk) 168), (bk, mKp lk nk), (bm, mSt l n)] H).symm.cons _) ?_
  refine VRun.sub (H' := (r1z, .deferred (some [])) :: (b2, blk [.slice (some ⟨bt, 0, Option.none⟩) 4 4] 22) :: (bt, blk [I (-1), I (-1), I (-1), I (-1)] 3) :: (b1, blk (clPl bc bk) 168) :: (bk, mKp lk nk) :: (bm, mSt l n) :: H) sb2 ?_
  refine vinblock (vinblock (vregion (QQ (vadd rfl rfl (by unfold InR; omega)) rfl ?_)))
  refine QM (vnil ?_)
  refine vinloop1 ?_
  refine KK2 (QS (vnil (vseq ?_)))
  refine vcondt rfl (vskip (vseq (vblock (KK2 (QM ?_)))))
  refine AL fun b4 => ?_
  refine SU (KK3 ?_)
  refine QN ?_
  refine QL ?_
  refine vone rfl (vxg (vcg (R := fun v H' => ∃ ks kp, v = .func (.func 113) #[] #[ptr kp, ptr ks] ∧ H' = (ks, blk [I ((1 : Nat) : Int)] 3) :: (kp, blk (clPl bc bk) 168) :: (b4, blk [I 1] 3) :: (r1z, .deferred (some [])) :: (b2, blk [.slice (some ⟨bt, 0, Option.none⟩) 4 4] 22) :: (bt, blk [I (-1), I (-1), I (-1), I (-1)] 3) :: (b1, blk (clPl bc bk) 168) :: (bk, mKp lk nk) :: (bm, mSt l n) :: H) rfl rfl rfl (n_shoots bc bk 1 _) (fun o H' ⟨ks, kp, h1, h2⟩ => ⟨_, h1, ks, kp, rfl, h2⟩)) rfl rfl ?_)
  rintro _ _ ⟨ks1, kp1, rfl, rfl⟩
  refine vnil (vblock ?_)
  refine vrangeM (X := XSh H) (xs := (shP 1 c.lines.length)) (caps := [ptr kp1, ptr ks1]) (Hi := ((ks1, blk [I ((1 : Nat) : Int)] 3) :: (kp1, blk (clPl bc bk) 168) :: H)) (Hc := ((b4, blk [I 1] 3) :: (r1z, .deferred (some [])) :: (b2, blk [.slice (some ⟨bt, 0, Option.none⟩) 4 4] 22) :: (bt, blk [I (-1), I (-1), I (-1), I (-1)] 3) :: (b1, blk (clPl bc bk) 168) :: (bk, mKp lk nk) :: (bm, mSt l n) :: [])) (ps := [39]) (fun pre H1 => ∃ lk nk l n, H1 = (b4, blk [I 1] 3) :: (r1z, .deferred (some [])) :: (b2, blk [.slice (some ⟨bt, 0, Option.none⟩) 4 4] 22) :: (bt, blk [I (-1), I (-1), I (tabP c z d pre 0), I (tabP c z d pre 1)] 3) :: (b1, blk (clPl bc bk) 168) :: (bk, mKp lk nk) :: (bm, mSt l n) :: [] ∧ KnK c lk ∧ KnS c l) (fun _ _ => False) rfl (it_shoots h c bm bc bk 1 kp1 ks1 (by omega) (by omega) H) (pmO [(ks1, blk [I ((1 : Nat) : Int)] 3), (kp1, blk (clPl bc bk) 168)] [(b4, blk [I 1] 3), (r1z, .deferred (some [])), (b2, blk [.slice (some ⟨bt, 0, Option.none⟩) 4 4] 22), (bt, blk [I (-1), I (-1), I (-1), I (-1)] 3), (b1, blk (clPl bc bk) 168), (bk, mKp lk nk), (bm, mSt l n)] H) ⟨lk, nk, l, n, rfl, hlk, hl⟩ (fun x vs Hx ⟨h, _⟩ => by rw [h]; rfl) rfl ?_ ?_ ?_
  ·
   intro lp rec pre x post vs Hx H1 hrs hxs hX hI
   obtain ⟨rfl, hHx⟩ := hX
   have hHx := hHx.symm
   subst hHx
   obtain ⟨lk1, nk1, l1, n1, rfl, hlk1, hl1⟩ := hI
   rw [h1, shP_1] at hxs
   refine VRun.perm (H' := (lp, Obj.loop rec) :: (b4, blk [I 1] 3) :: (r1z, .deferred (some [])) :: (b2, blk [.slice (some ⟨bt, 0, Option.none⟩) 4 4] 22) :: (bt, blk [I (-1), I (-1), I (tabP c z d pre 0), I (tabP c z d pre 1)] 3) :: (b1, blk (clPl bc bk) 168) :: (bk, mKp lk1 nk1) :: (bm, mSt l1 n1) :: H) ((List.perm_append_comm (l₁ := [(b4, blk [I 1] 3), (r1z, .deferred (some [])), (b2, blk [.slice (some ⟨bt, 0, Option.none⟩) 4 4] 22), (bt, blk [I (-1), I (-1), I (tabP c z d pre 0), I (tabP c z d pre 1)] 3), (b1, blk (clPl bc bk) 168), (bk, mKp lk1 nk1), (bm, mSt l1 n1)]) (l₂ := H)).symm.cons _) ?_
   refine vregion (AL fun b5 => ?_)
   rcases two_at hxs with ⟨rfl, rfl⟩ | ⟨rfl, rfl⟩
   ·
    refine SN (vnil ?_)
    refine vbegin hrs ?_
    refine vblock (KK2 (QN ?_))
    refine QL ?_
    refine QL ?_
    refine QN ?_
    refine vone rfl (vxg (vcg (R := fun v H' => ∃ jp jt ju jx, v = .func (.func 146) #[] #[ptr jp, ptr jt, ptr ju, ptr jx] ∧ H' = (jx, blk [I 0, I 0] 178) :: (ju, blk [I 1] 3) :: (jt, blk [.slice (some ⟨bt, 0, Option.none⟩) 4 4] 22) :: (jp, blk (clPl bc bk) 168) :: (b5, blk [I 0, I 0] 178) :: (lp, Obj.loop (bsy rec)) :: (b4, blk [I 1] 3) :: (r1z, .deferred (some [])) :: (b2, blk [.slice (some ⟨bt, 0, Option.none⟩) 4 4] 22) :: (bt, blk [I (-1), I (-1), I (tabP c z d ([] : List (Nat × Int)) 0), I (tabP c z d ([] : List (Nat × Int)) 1)] 3) :: (b1, blk (clPl bc bk) 168) :: (bk, mKp lk1 nk1) :: (bm, mSt l1 n1) :: H) rfl rfl rfl (n_earliest bc bk (some ⟨bt, 0, Option.none⟩) 4 4 0 _) (fun o H' ⟨jp, jt, ju, jx, h1, h2⟩ => ⟨_, h1, jp, jt, ju, jx, rfl, h2⟩)) rfl rfl ?_)
    rintro _ _ ⟨jp, jt, ju, jx, rfl, rfl⟩
    refine vone rfl (vxg (vcg (R := fun v H' => ∃ lk2 nk2 l2 n2, v = tup [I ((earE c z d 0).getD 0), .bool (earE c z d 0).isSome] ∧ H' = (b5, blk [I 0, I 0] 178) :: (lp, Obj.loop (bsy rec)) :: (b4, blk [I 1] 3) :: (r1z, .deferred (some [])) :: (b2, blk [.slice (some ⟨bt, 0, Option.none⟩) 4 4] 22) :: (bt, blk [I (-1), I (-1), I (tabP c z d ([] : List (Nat × Int)) 0), I (tabP c z d ([] : List (Nat × Int)) 1)] 3) :: (b1, blk (clPl bc bk) 168) :: (bk, mKp lk2 nk2) :: (bm, mSt l2 n2) :: H ∧ KnK c lk2 ∧ KnS c l2) rfl rfl rfl (ear_call h c bm bc bk jp jt ju jx (some ⟨bt, 0, Option.none⟩) 4 4 0 z hz d hd hok H lk1 nk1 hlk1 l1 n1 hl1 [(b5, blk [I 0, I 0] 178), (lp, Obj.loop (bsy rec)), (b4, blk [I 1] 3), (r1z, .deferred (some [])), (b2, blk [.slice (some ⟨bt, 0, Option.none⟩) 4 4] 22), (bt, blk [I (-1), I (-1), I (tabP c z d ([] : List (Nat × Int)) 0), I (tabP c z d ([] : List (Nat × Int)) 1)] 3), (b1, blk (clPl bc bk) 168)]) (fun o H' ⟨lk2, nk2, l2, n2, h1, h2, h3, h4⟩ => ⟨_, h4, lk2, nk2, l2, n2, rfl, h1, h2, h3⟩)) rfl rfl ?_)
    rintro _ _ ⟨lk2, nk2, l2, n2, rfl, rfl, hlk2, hl2⟩
    cases hfe : earE c z d 0
    ·
     refine QM ?_
     refine QX ?_
     refine QX ?_
     refine QA ?_
     refine QA (KK3 ?_)
     refine QM (vnil ?_)
     refine vcondf rfl (vskip (vinblock ?_))
     refine VRun.sub (H' := (lp, Obj.loop (bsy rec)) :: (b4, blk [I 1] 3) :: (r1z, .deferred (some [])) :: (b2, blk [.slice (some ⟨bt, 0, Option.none⟩) 4 4] 22) :: (bt, blk [I (-1), I (-1), I (tabP c z d ([] : List (Nat × Int)) 0), I (tabP c z d ([] : List (Nat × Int)) 1)] 3) :: (b1, blk (clPl bc bk) 168) :: (bk, mKp lk2 nk2) :: (bm, mSt l2 n2) :: H) sb2 ?_
     refine VRun.perm (H' := (lp, Obj.loop (bsy rec)) :: (H ++ ((b4, blk [I 1] 3) :: (r1z, .deferred (some [])) :: (b2, blk [.slice (some ⟨bt, 0, Option.none⟩) 4 4] 22) :: (bt, blk [I (-1), I (-1), I (tabP c z d ([] : List (Nat × Int)) 0), I (tabP c z d ([] : List (Nat × Int)) 1)] 3) :: (b1, blk (clPl bc bk) 168) :: (bk, mKp lk2 nk2) :: (bm, mSt l2 n2) :: []))) ((List.perm_append_comm (l₁ := [(b4, blk [I 1] 3), (r1z, .deferred (some [])), (b2, blk [.slice (some ⟨bt, 0, Option.none⟩) 4 4] 22), (bt, blk [I (-1), I (-1), I (tabP c z d ([] : List (Nat × Int)) 0), I (tabP c z d ([] : List (Nat × Int)) 1)] 3), (b1, blk (clPl bc bk) 168), (bk, mKp lk2 nk2), (bm, mSt l2 n2)]) (l₂ := H)).cons _) ?_
     refine vroundI_end (.refl _) ?_
     exact ⟨_, rfl, lk2, nk2, l2, n2, by rw [show tabP c z d ([] ++ [((0 : Nat), (0 : Int))]) 0 = -1 from tab_n hfe] <;> rfl, hlk2, hl2⟩
    ·
     rename_i ev
     refine QM ?_
     refine QX ?_
     refine QX ?_
     refine QA ?_
     refine QA (KK3 ?_)
     refine QM (vnil ?_)
     refine vcondt rfl ?_
     refine DR [(.q, 0), (.q, 1), (.q, 2), (.q, 3), (.q, 4), (.q, 5), (.q, 6), (.c, 7)] Tryz.mixed ?_
     refine DL ?_
     refine DN ?_
     refine DL ?_
     refine DN ?_
     refine DD (vcq rfl rfl rfl (q_place1 h c bm bc _ bk _ (by omega) h1)) rfl ?_
     refine DM ?_
     refine DD (vis rfl rfl (by omega)) rfl ?_
     refine vdcs (mone rfl) (vst1 rfl rfl rfl rfl) rfl ?_
     refine vdend rfl (vinblock ?_)
     refine VRun.sub (H' := (lp, Obj.loop (bsy rec)) :: (b4, blk [I 1] 3) :: (r1z, .deferred (some [])) :: (b2, blk [.slice (some ⟨bt, 0, Option.none⟩) 4 4] 22) :: (bt, blk [I (-1), I (-1), I (ev), I (tabP c z d ([] : List (Nat × Int)) 1)] 3) :: (b1, blk (clPl bc bk) 168) :: (bk, mKp lk2 nk2) :: (bm, mSt l2 n2) :: H) sb2 ?_
     refine VRun.perm (H' := (lp, Obj.loop (bsy rec)) :: (H ++ ((b4, blk [I 1] 3) :: (r1z, .deferred (some [])) :: (b2, blk [.slice (some ⟨bt, 0, Option.none⟩) 4 4] 22) :: (bt, blk [I (-1), I (-1), I (ev), I (tabP c z d ([] : List (Nat × Int)) 1)] 3) :: (b1, blk (clPl bc bk) 168) :: (bk, mKp lk2 nk2) :: (bm, mSt l2 n2) :: []))) ((List.perm_append_comm (l₁ := [(b4, blk [I 1] 3), (r1z, .deferred (some [])), (b2, blk [.slice (some ⟨bt, 0, Option.none⟩) 4 4] 22), (bt, blk [I (-1), I (-1), I (ev), I (tabP c z d ([] : List (Nat × Int)) 1)] 3), (b1, blk (clPl bc bk) 168), (bk, mKp lk2 nk2), (bm, mSt l2 n2)]) (l₂ := H)).cons _) ?_
     refine vroundI_end (.refl _) ?_
     exact ⟨_, rfl, lk2, nk2, l2, n2, by rw [show tabP c z d ([] ++ [((0 : Nat), (0 : Int))]) 0 = ev from tab_s hfe] <;> rfl, hlk2, hl2⟩
   ·
    refine SN (vnil ?_)
    refine vbegin hrs ?_
    refine vblock (KK2 (QN ?_))
    refine QL ?_
    refine QL ?_
    refine QN ?_
    refine vone rfl (vxg (vcg (R := fun v H' => ∃ jp jt ju jx, v = .func (.func 146) #[] #[ptr jp, ptr jt, ptr ju, ptr jx] ∧ H' = (jx, blk [I 0, I 1] 178) :: (ju, blk [I 1] 3) :: (jt, blk [.slice (some ⟨bt, 0, Option.none⟩) 4 4] 22) :: (jp, blk (clPl bc bk) 168) :: (b5, blk [I 0, I 1] 178) :: (lp, Obj.loop (bsy rec)) :: (b4, blk [I 1] 3) :: (r1z, .deferred (some [])) :: (b2, blk [.slice (some ⟨bt, 0, Option.none⟩) 4 4] 22) :: (bt, blk [I (-1), I (-1), I (tabP c z d [((0 : Nat), (0 : Int))] 0), I (tabP c z d [((0 : Nat), (0 : Int))] 1)] 3) :: (b1, blk (clPl bc bk) 168) :: (bk, mKp lk1 nk1) :: (bm, mSt l1 n1) :: H) rfl rfl rfl (n_earliest bc bk (some ⟨bt, 0, Option.none⟩) 4 4 1 _) (fun o H' ⟨jp, jt, ju, jx, h1, h2⟩ => ⟨_, h1, jp, jt, ju, jx, rfl, h2⟩)) rfl rfl ?_)
    rintro _ _ ⟨jp, jt, ju, jx, rfl, rfl⟩
    refine vone rfl (vxg (vcg (R := fun v H' => ∃ lk2 nk2 l2 n2, v = tup [I ((earE c z d 1).getD 0), .bool (earE c z d 1).isSome] ∧ H' = (b5, blk [I 0, I 1] 178) :: (lp, Obj.loop (bsy rec)) :: (b4, blk [I 1] 3) :: (r1z, .deferred (some [])) :: (b2, blk [.slice (some ⟨bt, 0, Option.none⟩) 4 4] 22) :: (bt, blk [I (-1), I (-1), I (tabP c z d [((0 : Nat), (0 : Int))] 0), I (tabP c z d [((0 : Nat), (0 : Int))] 1)] 3) :: (b1, blk (clPl bc bk) 168) :: (bk, mKp lk2 nk2) :: (bm, mSt l2 n2) :: H ∧ KnK c lk2 ∧ KnS c l2) rfl rfl rfl (ear_call h c bm bc bk jp jt ju jx (some ⟨bt, 0, Option.none⟩) 4 4 1 z hz d hd hok H lk1 nk1 hlk1 l1 n1 hl1 [(b5, blk [I 0, I 1] 178), (lp, Obj.loop (bsy rec)), (b4, blk [I 1] 3), (r1z, .deferred (some [])), (b2, blk [.slice (some ⟨bt, 0, Option.none⟩) 4 4] 22), (bt, blk [I (-1), I (-1), I (tabP c z d [((0 : Nat), (0 : Int))] 0), I (tabP c z d [((0 : Nat), (0 : Int))] 1)] 3), (b1, blk (clPl bc bk) 168)]) (fun o H' ⟨lk2, nk2, l2, n2, h1, h2, h3, h4⟩ => ⟨_, h4, lk2, nk2, l2, n2, rfl, h1, h2, h3⟩)) rfl rfl ?_)
    rintro _ _ ⟨lk2, nk2, l2, n2, rfl, rfl, hlk2, hl2⟩
    cases hfe : earE c z d 1
    ·
     refine QM ?_
     refine QX ?_
     refine QX ?_
     refine QA ?_
     refine QA (KK3 ?_)
     refine QM (vnil ?_)
     refine vcondf rfl (vskip (vinblock ?_))
     refine VRun.sub (H' := (lp, Obj.loop (bsy rec)) :: (b4, blk [I 1] 3) :: (r1z, .deferred (some [])) :: (b2, blk [.slice (some ⟨bt, 0, Option.none⟩) 4 4] 22) :: (bt, blk [I (-1), I (-1), I (tabP c z d [((0 : Nat), (0 : Int))] 0), I (tabP c z d [((0 : Nat), (0 : Int))] 1)] 3) :: (b1, blk (clPl bc bk) 168) :: (bk, mKp lk2 nk2) :: (bm, mSt l2 n2) :: H) sb2 ?_
     refine VRun.perm (H' := (lp, Obj.loop (bsy rec)) :: (H ++ ((b4, blk [I 1] 3) :: (r1z, .deferred (some [])) :: (b2, blk [.slice (some ⟨bt, 0, Option.none⟩) 4 4] 22) :: (bt, blk [I (-1), I (-1), I (tabP c z d [((0 : Nat), (0 : Int))] 0), I (tabP c z d [((0 : Nat), (0 : Int))] 1)] 3) :: (b1, blk (clPl bc bk) 168) :: (bk, mKp lk2 nk2) :: (bm, mSt l2 n2) :: []))) ((List.perm_append_comm (l₁ := [(b4, blk [I 1] 3), (r1z, .deferred (some [])), (b2, blk [.slice (some ⟨bt, 0, Option.none⟩) 4 4] 22), (bt, blk [I (-1), I (-1), I (tabP c z d [((0 : Nat), (0 : Int))] 0), I (tabP c z d [((0 : Nat), (0 : Int))] 1)] 3), (b1, blk (clPl bc bk) 168), (bk, mKp lk2 nk2), (bm, mSt l2 n2)]) (l₂ := H)).cons _) ?_
     refine vroundI_end (.refl _) ?_
     exact ⟨_, rfl, lk2, nk2, l2, n2, by rw [show tabP c z d ([((0 : Nat), (0 : Int))] ++ [((0 : Nat), (1 : Int))]) 1 = -1 from tab_n hfe] <;> rfl, hlk2, hl2⟩
    ·
     rename_i ev
     refine QM ?_
     refine QX ?_
     refine QX ?_
     refine QA ?_
     refine QA (KK3 ?_)
     refine QM (vnil ?_)
     refine vcondt rfl ?_
     refine DR [(.q, 0), (.q, 1), (.q, 2), (.q, 3), (.q, 4), (.q, 5), (.q, 6), (.c, 7)] Tryz.mixed ?_
     refine DL ?_
     refine DN ?_
     refine DL ?_
     refine DN ?_
     refine DD (vcq rfl rfl rfl (q_place1 h c bm bc _ bk _ (by omega) h1)) rfl ?_
     refine DM ?_
     refine DD (vis rfl rfl (by omega)) rfl ?_
     refine vdcs (mone rfl) (vst1 rfl rfl rfl rfl) rfl ?_
     refine vdend rfl (vinblock ?_)
     refine VRun.sub (H' := (lp, Obj.loop (bsy rec)) :: (b4, blk [I 1] 3) :: (r1z, .deferred (some [])) :: (b2, blk [.slice (some ⟨bt, 0, Option.none⟩) 4 4] 22) :: (bt, blk [I (-1), I (-1), I (tabP c z d [((0 : Nat), (0 : Int))] 0), I (ev)] 3) :: (b1, blk (clPl bc bk) 168) :: (bk, mKp lk2 nk2) :: (bm, mSt l2 n2) :: H) sb2 ?_
     refine VRun.perm (H' := (lp, Obj.loop (bsy rec)) :: (H ++ ((b4, blk [I 1] 3) :: (r1z, .deferred (some [])) :: (b2, blk [.slice (some ⟨bt, 0, Option.none⟩) 4 4] 22) :: (bt, blk [I (-1), I (-1), I (tabP c z d [((0 : Nat), (0 : Int))] 0), I (ev)] 3) :: (b1, blk (clPl bc bk) 168) :: (bk, mKp lk2 nk2) :: (bm, mSt l2 n2) :: []))) ((List.perm_append_comm (l₁ := [(b4, blk [I 1] 3), (r1z, .deferred (some [])), (b2, blk [.slice (some ⟨bt, 0, Option.none⟩) 4 4] 22), (bt, blk [I (-1), I (-1), I (tabP c z d [((0 : Nat), (0 : Int))] 0), I (ev)] 3), (b1, blk (clPl bc bk) 168), (bk, mKp lk2 nk2), (bm, mSt l2 n2)]) (l₂ := H)).cons _) ?_
     refine vroundI_end (.refl _) ?_
     exact ⟨_, rfl, lk2, nk2, l2, n2, by rw [show tabP c z d ([((0 : Nat), (0 : Int))] ++ [((0 : Nat), (1 : Int))]) 1 = ev from tab_s hfe] <;> rfl, hlk2, hl2⟩
  ·
   intro r1 H1 hI
   obtain ⟨lk1, nk1, l1, n1, rfl, hlk1, hl1⟩ := hI
   refine VRun.perm (H' := (r1, .deferred (some [])) :: (ks1, blk [I ((1 : Nat) : Int)] 3) :: (kp1, blk (clPl bc bk) 168) :: (b4, blk [I 1] 3) :: (r1z, .deferred (some [])) :: (b2, blk [.slice (some ⟨bt, 0, Option.none⟩) 4 4] 22) :: (bt, blk [I (-1), I (-1), I (tabP c z d (shP 1 c.lines.length) 0), I (tabP c z d (shP 1 c.lines.length) 1)] 3) :: (b1, blk (clPl bc bk) 168) :: (bk, mKp lk1 nk1) :: (bm, mSt l1 n1) :: H) ((pmO [(ks1, blk [I ((1 : Nat) : Int)] 3), (kp1, blk (clPl bc bk) 168)] [(b4, blk [I 1] 3), (r1z, .deferred (some [])), (b2, blk [.slice (some ⟨bt, 0, Option.none⟩) 4 4] 22), (bt, blk [I (-1), I (-1), I (tabP c z d (shP 1 c.lines.length) 0), I (tabP c z d (shP 1 c.lines.length) 1)] 3), (b1, blk (clPl bc bk) 168), (bk, mKp lk1 nk1), (bm, mSt l1 n1)] H).symm.cons _) ?_
   refine vinblock (vinblock (vregion (QQ (vadd rfl rfl (by unfold InR; omega)) rfl ?_)))
   refine QM (vnil ?_)
   refine vinloop1 ?_
   refine KK2 (QS (vnil (vseq ?_)))
   refine vcondf rfl ?_
   refine vexit (k' := _) rfl ?_
   refine KK2 (QL ?_)
   refine QA (vnil ?_)
   refine vret (vret_mark (vret_mark (V1 ((bt, blk [I (-1), I (-1), I (tabP c z d (shP 1 c.lines.length) 0), I (tabP c z d (shP 1 c.lines.length) 1)] 3) :: (bk, mKp lk1 nk1) :: (bm, mSt l1 n1) :: H) Tryz.func82 ?_)))
   exact ⟨bt, lk1, nk1, l1, n1, by rw [h1] <;> rfl, rfl, hlk1, hl1⟩
  ·
   intro r1 c H1 hI
   exact hI.elim
 ·
  intro r1z c1z H1z hIz
  exact hIz.elim
end Go.Proofs.YtoebpndlbldfcaaGreatDoor
namespace Go.Proofs.YtoebpndlbldfcaaGreatDoor
open Go
set_option maxRecDepth 100000
attribute [local irreducible] tightP hullP rootP farP rows endsOf
instance tApSo : TAp Tryz.prog 139 178 2 16 := mkTAp (z := .agg [I 0, I 0].toArray) (by kernel_rfl) (by kernel_rfl) rfl
section
end
theorem q_CloneNil (H : Heap) : VHas Tryz.prog 87 [.slice Option.none 0 0] (.slice Option.none 0 0) H H := by
 refine CV 8 Tryz.func87 ?_
 refine KK2 (QA (vnil (vseq (KK2 ?_))))
 refine QM ?_
 refine QQ (veqsn rfl rfl) rfl ?_
 refine vknow (d := 4) (b' := true) rfl rfl ?_
 refine vnil (vcondt rfl (KK2 (QA (vnil ?_))))
 refine vret (V1 (H) Tryz.func87 ?_)
 exact ⟨rfl, rfl⟩
theorem d_nextA (oa : Option Addr) (nn cp : Nat) (r : Re) (e : Int) (bf be bp bx : Nat) (fv : Value) (H : Heap) [hat : HAt H be [I e] 3] : VCall Tryz.prog 85 [.slice oa nn cp, vRe r, I 0, ptr bf, ptr be, ptr bp, ptr bx].toArray ((bf, blk [fv] 139) :: H) (fun o H' => H' = (bf, blk [.slice oa nn cp] 139) :: H ∧ o = .val (.bool (decide (r.2 = e)))) := by
 refine CV 57 Tryz.func85 ?_
 refine KK2 (BX fun b1 => ?_)
 refine BX fun b2 => ?_
 refine BX fun b3 => ?_
 refine AL fun b4 => (vnil (vscope (vseq (KK2 ?_))))
 refine QL ?_
 refine QE ?_
 refine vknow (d := 15) (b' := true) rfl (by decide) ?_
 refine vnil (vcondt rfl (KK2 (QL ?_)))
 refine SU (KK3 ?_)
 refine QF ?_
 refine QL ?_
 refine QL ?_
 refine QE ?_
 refine SU (vnil ?_)
 refine vret (VC ((bf, _) :: H) Tryz.func85 ?_)
 exact ⟨rfl, rfl⟩
end Go.Proofs.YtoebpndlbldfcaaGreatDoor
namespace Go.Proofs.YtoebpndlbldfcaaGreatDoor
open Go
set_option maxRecDepth 100000
attribute [local irreducible] tightP hullP rootP farP rows endsOf
section
open Classical in
theorem pmS (X L m R : Heap) : (X ++ (L ++ (m ++ R))).Perm (m ++ (X ++ (L ++ R))) := perm_of fun a => by simp only [List.count_append]; omega
open Classical in
theorem pmT (m X L K H : Heap) : (m ++ (X ++ (L ++ (K ++ H)))).Perm (L ++ (m ++ (K ++ (X ++ H)))) := perm_of fun a => by simp only [List.count_append]; omega
open Classical in
theorem pmU (R X H Y B : Heap) : (R ++ ((X ++ H) ++ (Y ++ B))).Perm (R ++ (X ++ (Y ++ (B ++ H)))) := perm_of fun a => by simp only [List.count_append]; omega
open Classical in
theorem pmV (R Y B H : Heap) : (R ++ (Y ++ (B ++ H))).Perm (R ++ (H ++ (Y ++ B))) := perm_of fun a => by simp only [List.count_append]; omega
end
theorem nextA_call (oa : Option Addr) (nn cp : Nat) (r : Re) (e : Int) (bf be bp bx : Nat) (fv : Value) (X L K H : Heap) [hat : HAt H be [I e] 3] : VCall Tryz.prog 85 [.slice oa nn cp, vRe r, I 0, ptr bf, ptr be, ptr bp, ptr bx].toArray (X ++ (L ++ (bf, blk [fv] 139) :: (K ++ H))) (fun o H' => H' = L ++ (bf, blk [.slice oa nn cp] 139) :: (K ++ (X ++ H)) ∧ o = .val (.bool (decide (r.2 = e)))) := by
  refine VCall.conv (VCall.perm (pmS X L [(bf, blk [fv] 139)] (K ++ H)) (d_nextA oa nn cp r e bf be bp bx fv (X ++ (L ++ (K ++ H))))) ?_
  rintro o H' ⟨h1, h2⟩
  subst h1
  exact ⟨_, pmT [(bf, blk [.slice oa nn cp] 139)] X L K H, rfl, h2⟩
theorem d_nextB (h : CH) (c : Cz) (bm bc : Nat) (H : Heap) [hcz : CzO H h c] [hat : HAt H bc (clCh h c bm) 173] (bk bf be bp bx : Nat) (z : Pt × Pt) (hz : c.lines[0]? = some z) (h1 : c.lines.length = 1) (d : List Bd) (hd : c.opens[0]? = some d) (hok : okCz c) (b0 : Int × Int) (hgo : goV c (c.start, 0) (wayV z 0) d = some b0) [hat1 : HAt H be [I b0.2] 3] [hat2 : HAt H bp (clPl bc bk) 168] [hat3 : HAt H bx [.func (.func 85) #[] #[ptr bf, ptr be, ptr bp, ptr bx]] 180] (lk : List EnK) (nk : Nat) (hlk : KnK c lk) (l : List EnS) (n : Nat) (hl : KnS c l) : VCall Tryz.prog 85 [.slice Option.none 0 0, vRe (c.start, 0), I 1, ptr bf, ptr be, ptr bp, ptr bx].toArray ((bf, blk [.slice Option.none 0 0] 139) :: (bk, mKp lk nk) :: (bm, mSt l n) :: H) (fun o H' => ∃ sl lk' nk' l' n' B, H' = (bf, blk [sl] 139) :: (bk, mKp lk' nk') :: (bm, mSt l' n') :: (B ++ H) ∧ o = .val (.bool true) ∧ KnK c lk' ∧ KnS c l') := by
 refine CV 57 Tryz.func85 ?_
 refine KK2 (BX fun b1 => ?_)
 refine BX fun b2 => ?_
 refine BX fun b3 => ?_
 refine AL fun b4 => (vnil (vscope (vseq (KK2 ?_))))
 refine QL ?_
 refine QE ?_
 refine vknow (d := 15) (b' := false) rfl (by decide) ?_
 refine vnil (vcondf rfl (vskip (vseq (vlabel (vseq (KK2 (QN ?_)))))))
 refine QL ?_
 refine vone rfl (vxg (vcg (R := fun v H' => ∃ ks kp, v = .func (.func 113) #[] #[ptr kp, ptr ks] ∧ H' = (ks, blk [I ((1 : Nat) : Int)] 3) :: (kp, blk (clPl bc bk) 168) :: (b4, blk [.bool false] 4) :: (b3, blk [I 1] 3) :: (b2, blk (clRe (c.start, 0)) 183) :: (b1, blk [.slice Option.none 0 0] 139) :: (bf, blk [.slice Option.none 0 0] 139) :: (bk, mKp lk nk) :: (bm, mSt l n) :: H) rfl rfl rfl (n_shoots bc bk 1 _) (fun o H' ⟨ks, kp, h1, h2⟩ => ⟨_, h1, ks, kp, rfl, h2⟩)) rfl rfl ?_)
 rintro _ _ ⟨ks1, kp1, rfl, rfl⟩
 refine vnil (vblock ?_)
 refine vrangeM (X := XSh H) (xs := (shP 1 c.lines.length)) (caps := [ptr kp1, ptr ks1]) (Hi := ((ks1, blk [I ((1 : Nat) : Int)] 3) :: (kp1, blk (clPl bc bk) 168) :: H)) (Hc := ((b4, blk [.bool false] 4) :: (b3, blk [I 1] 3) :: (b2, blk (clRe (c.start, 0)) 183) :: (b1, blk [.slice Option.none 0 0] 139) :: (bf, blk [.slice Option.none 0 0] 139) :: (bk, mKp lk nk) :: (bm, mSt l n) :: [])) (ps := [24]) (fun pre H1 => pre = [] ∧ H1 = (b4, blk [.bool false] 4) :: (b3, blk [I 1] 3) :: (b2, blk (clRe (c.start, 0)) 183) :: (b1, blk [.slice Option.none 0 0] 139) :: (bf, blk [.slice Option.none 0 0] 139) :: (bk, mKp lk nk) :: (bm, mSt l n) :: []) (fun cd H1 => cd = .ret ∧ ∃ sl lk nk l n B, H1 = (b4, blk [.bool true] 4) :: (b3, blk [I 1] 3) :: (b2, blk (clRe (c.start, 0)) 183) :: (b1, blk [.slice Option.none 0 0] 139) :: (bf, blk [sl] 139) :: (bk, mKp lk nk) :: (bm, mSt l n) :: B ∧ KnK c lk ∧ KnS c l) rfl (it_shoots h c bm bc bk 1 kp1 ks1 (by omega) (by omega) H) (pmO [(ks1, blk [I ((1 : Nat) : Int)] 3), (kp1, blk (clPl bc bk) 168)] [(b4, blk [.bool false] 4), (b3, blk [I 1] 3), (b2, blk (clRe (c.start, 0)) 183), (b1, blk [.slice Option.none 0 0] 139), (bf, blk [.slice Option.none 0 0] 139), (bk, mKp lk nk), (bm, mSt l n)] H) ⟨rfl, rfl⟩ (fun x vs Hx ⟨h, _⟩ => by rw [h]; rfl) rfl ?_ ?_ ?_
 ·
  intro lp rec pre x post vs Hx H1 hrs hxs hX hI
  obtain ⟨rfl, hHx⟩ := hX
  have hHx := hHx.symm
  subst hHx
  obtain ⟨rfl, rfl⟩ := hI
  rw [h1, shP_1] at hxs
  simp only [List.nil_append, List.cons.injEq] at hxs
  obtain ⟨rfl, _⟩ := hxs
  refine VRun.perm (H' := (lp, Obj.loop rec) :: (b4, blk [.bool false] 4) :: (b3, blk [I 1] 3) :: (b2, blk (clRe (c.start, 0)) 183) :: (b1, blk [.slice Option.none 0 0] 139) :: (bf, blk [.slice Option.none 0 0] 139) :: (bk, mKp lk nk) :: (bm, mSt l n) :: H) ((List.perm_append_comm (l₁ := [(b4, blk [.bool false] 4), (b3, blk [I 1] 3), (b2, blk (clRe (c.start, 0)) 183), (b1, blk [.slice Option.none 0 0] 139), (bf, blk [.slice Option.none 0 0] 139), (bk, mKp lk nk), (bm, mSt l n)]) (l₂ := H)).symm.cons _) ?_
  refine vregion (AL fun b5 => ?_)
  refine SN (vnil ?_)
  refine vbegin hrs ?_
  refine vblock (KK2 (QN ?_))
  refine QN ?_
  refine QN ?_
  refine vone rfl (vxg (vcg (R := fun vv H' => ∃ lk2 nk2 l2 n2, vv = tup [vPr b0, .bool true] ∧ H' = (b5, blk [I 0, I 0] 178) :: (lp, Obj.loop (bsy rec)) :: (b4, blk [.bool false] 4) :: (b3, blk [I 1] 3) :: (b2, blk (clRe (c.start, 0)) 183) :: (b1, blk [.slice Option.none 0 0] 139) :: (bf, blk [.slice Option.none 0 0] 139) :: (bk, mKp lk2 nk2) :: (bm, mSt l2 n2) :: H ∧ KnK c lk2 ∧ KnS c l2) rfl rfl rfl (goes_call h c bm bc H bk 0 0 z hz d hd hok (c.start, 0) (show (0 : Int) ≤ 0 ∧ (0 : Int) ≤ 100000000 from by decide) lk nk hlk l n hl [(b5, blk [I 0, I 0] 178), (lp, Obj.loop (bsy rec)), (b4, blk [.bool false] 4), (b3, blk [I 1] 3), (b2, blk (clRe (c.start, 0)) 183), (b1, blk [.slice Option.none 0 0] 139), (bf, blk [.slice Option.none 0 0] 139)]) (fun o H' ⟨lk2, nk2, l2, n2, h1, h2, h3, h4⟩ => ⟨tup [vPr b0, .bool true], (by rw [h4, hgo] <;> rfl), lk2, nk2, l2, n2, rfl, h1, h2, h3⟩)) rfl rfl ?_)
  rintro _ _ ⟨lk2, nk2, l2, n2, rfl, rfl, hlk2, hl2⟩
  refine QM ?_
  refine QX ?_
  refine QX ?_
  refine AL fun b6 => ?_
  refine SN ?_
  refine QA (vnil (vseq (KK2 ?_)))
  refine QM ?_
  refine QQ (vnot rfl) rfl ?_
  refine QM ?_
  refine YF ?_
  refine YL ?_
  refine YL ?_
  refine YY (vgtr rfl rfl) rfl ?_
  refine vknow (d := 38) (b' := false) rfl (decide_eq_false (by omega)) ?_
  refine QU (vnil ?_)
  refine vcondf rfl (vskip (vseq ?_))
  refine DR [(.q, 0), (.q, 1), (.q, 2), (.q, 3), (.q, 6), (.q, 7), (.q, 8), (.q, 9), (.q, 11), (.q, 12), (.q, 13), (.q, 14), (.q, 15), (.m, 4), (.s, 5), (.q, 10), (.w, 16)] Tryz.mixed ?_
  refine DL ?_
  refine DL ?_
  refine DD (vcq rfl rfl rfl (q_CloneNil _)) rfl ?_
  refine DN ?_
  refine DN ?_
  refine DN ?_
  refine DF ?_
  refine DL ?_
  refine DL ?_
  refine DF ?_
  refine DL ?_
  refine DD (vshl1 (i := 0) (by omega) rfl rfl) rfl ?_
  refine DD (vandn1 rfl rfl) rfl ?_
  refine vdm (mone rfl) (vbsP rfl rfl rfl rfl rfl rfl) rfl rfl (fun b7 => ?_)
  refine vdsd (mone rfl) (vappF (a := ⟨b7, 0, Option.none⟩) (m := 1) (c := 1) (size := 2) (bytes := 16) (F := fun C => (b7, blk [I 0, I 0] 178) :: C) (H0 := [(b7, blk [I 0, I 0] 178)]) (B := []) (xs := []) (news := [I 0, I 0]) (fun C => List.perm_append_comm (l₁ := [(b7, blk [I 0, I 0] 178)]) (l₂ := C)) rfl rfl OwnS.nil rfl (news_blk (b := b7) (List.Mem.head _)) (fun u hu => by simp at hu; subst hu; rfl) (by omega) (by simp only [maxLen]; omega) (by omega)) rfl rfl ?_
  rintro _ _ ⟨B2, hown2, _, rfl⟩
  obtain ⟨oa2, cp2, rfl, hle2⟩ := hown2.shape
  refine DD (vcq rfl rfl rfl (q_after h c bm bc _ bk 0 0 z hz hok b0.2)) rfl ?_
  refine vdw (appHO_of _ _) (mone rfl) (vcg (R := fun vv H' => vv = .bool (decide (b0.2 = b0.2)) ∧ H' = (b6, blk [I b0.1, I b0.2] 56) :: (b5, blk [I 0, I 0] 178) :: (lp, Obj.loop (bsy rec)) :: (b4, blk [.bool false] 4) :: (b3, blk [I 1] 3) :: (b2, blk (clRe (c.start, 0)) 183) :: (b1, blk [.slice Option.none 0 0] 139) :: (bf, blk [.slice oa2 1 cp2] 139) :: (bk, mKp lk2 nk2) :: (bm, mSt l2 n2) :: (((b7, blk [I 0, I 0] 178) :: B2) ++ H)) rfl rfl rfl (nextA_call oa2 1 cp2 (toV (wayV z 0), b0.2) b0.2 bf be bp bx _ ((b7, blk [I 0, I 0] 178) :: B2) [(b6, blk [I b0.1, I b0.2] 56), (b5, blk [I 0, I 0] 178), (lp, Obj.loop (bsy rec)), (b4, blk [.bool false] 4), (b3, blk [I 1] 3), (b2, blk (clRe (c.start, 0)) 183), (b1, blk [.slice Option.none 0 0] 139)] [(bk, mKp lk2 nk2), (bm, mSt l2 n2)] H) (fun o H' ⟨h1, h2⟩ => ⟨_, h2, rfl, h1⟩)) rfl rfl ?_
  rintro _ _ ⟨rfl, rfl⟩
  refine vdknow (d := 56) (b' := true) rfl (decide_eq_true rfl) ?_
  refine vdend rfl (vcondt rfl (KK2 (SU (vnil ?_))))
  refine VRun.sub (H' := (lp, Obj.loop (bsy rec)) :: (b4, blk [.bool true] 4) :: (b3, blk [I 1] 3) :: (b2, blk (clRe (c.start, 0)) 183) :: (b1, blk [.slice Option.none 0 0] 139) :: (bf, blk [.slice oa2 1 cp2] 139) :: (bk, mKp lk2 nk2) :: (bm, mSt l2 n2) :: (((b7, blk [I 0, I 0] 178) :: B2) ++ H)) sb2 ?_
  refine VRun.perm (H' := (lp, Obj.loop (bsy rec)) :: (H ++ ((b4, blk [.bool true] 4) :: (b3, blk [I 1] 3) :: (b2, blk (clRe (c.start, 0)) 183) :: (b1, blk [.slice Option.none 0 0] 139) :: (bf, blk [.slice oa2 1 cp2] 139) :: (bk, mKp lk2 nk2) :: (bm, mSt l2 n2) :: ((b7, blk [I 0, I 0] 178) :: B2)))) (pmV [(lp, Obj.loop (bsy rec))] [(b4, blk [.bool true] 4), (b3, blk [I 1] 3), (b2, blk (clRe (c.start, 0)) 183), (b1, blk [.slice Option.none 0 0] 139), (bf, blk [.slice oa2 1 cp2] 139), (bk, mKp lk2 nk2), (bm, mSt l2 n2)] ((b7, blk [I 0, I 0] 178) :: B2) H) ?_
  refine vroundI_ret (.refl _) ?_
  exact ⟨_, rfl, rfl, _, lk2, nk2, l2, n2, _, rfl, hlk2, hl2⟩
 ·
  intro r1 H1 hI
  obtain ⟨hpre, rfl⟩ := hI
  refine VRun.perm (H' := (r1, .deferred (some [])) :: (ks1, blk [I ((1 : Nat) : Int)] 3) :: (kp1, blk (clPl bc bk) 168) :: (b4, blk [.bool false] 4) :: (b3, blk [I 1] 3) :: (b2, blk (clRe (c.start, 0)) 183) :: (b1, blk [.slice Option.none 0 0] 139) :: (bf, blk [.slice Option.none 0 0] 139) :: (bk, mKp lk nk) :: (bm, mSt l n) :: H) ((pmO [(ks1, blk [I ((1 : Nat) : Int)] 3), (kp1, blk (clPl bc bk) 168)] [(b4, blk [.bool false] 4), (b3, blk [I 1] 3), (b2, blk (clRe (c.start, 0)) 183), (b1, blk [.slice Option.none 0 0] 139), (bf, blk [.slice Option.none 0 0] 139), (bk, mKp lk nk), (bm, mSt l n)] H).symm.cons _) ?_
  refine vinblock (KK2 (SU (vnil ?_)))
  refine vret (vret_mark (VC ((bf, _) :: (bk, _) :: (bm, _) :: H) Tryz.func85 ?_))
  exact absurd hpre (by rw [h1, shP_1]; simp)
 ·
  intro r1 c H1 hI
  obtain ⟨rfl, sl, lk3, nk3, l3, n3, B, rfl, hlk3, hl3⟩ := hI
  refine VRun.perm (H' := (r1, .deferred (some [])) :: (ks1, blk [I ((1 : Nat) : Int)] 3) :: (kp1, blk (clPl bc bk) 168) :: (b4, blk [.bool true] 4) :: (b3, blk [I 1] 3) :: (b2, blk (clRe (c.start, 0)) 183) :: (b1, blk [.slice Option.none 0 0] 139) :: (bf, blk [sl] 139) :: (bk, mKp lk3 nk3) :: (bm, mSt l3 n3) :: (B ++ H)) (pmU [(r1, .deferred (some []))] [(ks1, blk [I ((1 : Nat) : Int)] 3), (kp1, blk (clPl bc bk) 168)] H [(b4, blk [.bool true] 4), (b3, blk [I 1] 3), (b2, blk (clRe (c.start, 0)) 183), (b1, blk [.slice Option.none 0 0] 139), (bf, blk [sl] 139), (bk, mKp lk3 nk3), (bm, mSt l3 n3)] B) ?_
  refine vret (vret_mark (VC ((bf, _) :: (bk, _) :: (bm, _) :: (B ++ H)) Tryz.func85 ?_))
  exact ⟨sl, lk3, nk3, l3, n3, B, rfl, rfl, hlk3, hl3⟩
end Go.Proofs.YtoebpndlbldfcaaGreatDoor
