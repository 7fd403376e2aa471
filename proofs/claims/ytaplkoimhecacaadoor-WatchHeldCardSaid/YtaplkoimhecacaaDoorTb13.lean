/-
  Walks of Sighted, and of what a log says of a step.
-/
import Derived.Test.YtaplkoimhecacaaDoorTb12
namespace Go.Proofs.YtaplkoimhecacaaDoor
open Go
set_option maxRecDepth 100000
attribute [local irreducible] tightP hullP rootP farP rows endsOf

open Classical in
noncomputable def sightedE (s : Sc) (i : Int) : Rg × Int := if okSc s then (if 0 ≤ i ∧ i ≤ (s.sg.length : Int) - 1 then (match s.sg[i.toNat]? with | some x => optE (sightP s x) | none => (zR, 7)) else (zR, 7)) else (zR, 61)
theorem sightedE_61 {s : Sc} {i : Int} (h : chkS s ≠ 0) : sightedE s i = (zR, chkS s) := by
  have hn : ¬ okSc s := fun hh => h (chkS_t hh)
  unfold sightedE; rw [if_neg hn, chkS_f hn]
theorem sightedE_7 {s : Sc} {i : Int} (h : ¬ chkS s ≠ 0) (h2 : ¬ (0 ≤ i ∧ i ≤ (s.sg.length : Int) - 1)) : sightedE s i = (zR, 7) := by
  unfold sightedE; rw [if_pos (chkS_z.1 (Classical.not_not.1 h)), if_neg h2]
theorem sightedE_x {s : Sc} {i : Int} {x : Sg} (h : ¬ chkS s ≠ 0) (hx : s.sg[i.toNat]? = some x) (h0 : 0 ≤ i) : sightedE s i = optE (sightP s x) := by
  have := (List.getElem?_eq_some_iff.1 hx).1
  unfold sightedE; rw [if_pos (chkS_z.1 (Classical.not_not.1 h)), if_pos (by omega), hx]
/-- What a valid scene says of its sightings. -/
theorem okSc.sight {s : Sc} (h : okSc s) {i : Nat} {x : Sg} (hx : s.sg[i]? = some x) : (0 ≤ x.st ∧ x.st < s.ship.length) ∧ smallR (atR s.ship x.st.toNat) ∧ (0 ≤ x.nr ∧ x.nr ≤ x.fr ∧ x.fr ≤ 256) ∧ (x.oc = 0 ∨ x.oc = 1 ∨ x.oc = 2 ∨ x.oc = 3 ∨ x.oc = 4 ∨ x.oc = 5 ∨ x.oc = 6 ∨ x.oc = 7 ∨ x.oc = -1) := by
  obtain ⟨h1, h2, h3, h4, h5, h6, h7, h8, h9⟩ := h
  obtain ⟨g1, g2, g3, g4⟩ := h8 x (List.mem_of_getElem? hx)
  exact ⟨g1, h6 _ (atR_mem (by omega)), g3, by omega⟩

/-- paravane/watch.Sighted -/
theorem c_Sighted (h : SH) (s : Sc) (H : Heap) [hsc : ScO H h s] [hgl : Glob H] (i : Int) : VHas Tryd.prog 27 [vSc h s, I i] (tup [vR (sightedE s i).1, I (sightedE s i).2]) (H) (H) := by
 have hbd := hsc.bd
 refine vcall_of_vrun Tryd.func27 rfl (N := 38) rfl rfl ?_
 refine vseq ?_
 refine vregion ?_
 refine vone rfl (vxa (vbox rfl rfl) rfl rfl (fun b1 => ?_))
 refine vone rfl (vxa valloc rfl rfl (fun b2 => ?_))
 refine vone rfl (vxq (vas rfl) rfl rfl ?_)
 refine vnil ?_
 refine vseq ?_
 refine vseq ?_
 refine vregion ?_
 refine vone rfl (vxq (vldn rfl rfl) rfl rfl ?_)
 refine vone rfl (vxq (vcq rfl rfl rfl (c_CheckScene h s _)) rfl rfl ?_)
 refine vone rfl (vxq (vas rfl) rfl rfl ?_)
 refine vnil ?_
 refine vseq ?_
 refine vregion ?_
 refine vone rfl (vxq (vmv rfl) rfl rfl ?_)
 refine vone rfl (vxq (vneq rfl rfl) rfl rfl ?_)
 refine vnil ?_
 refine vcondd rfl (fun h12 => ?_) (fun h12 => ?_)
 ·
  refine vseq ?_
  refine vregion ?_
  refine vone rfl (vxq (vbd rfl rfl) rfl rfl ?_)
  refine vone rfl (vxq (vmv rfl) rfl rfl ?_)
  refine vone rfl (vxs (vstn rfl rfl rfl rfl rfl) rfl ?_)
  refine vone rfl (vxq (vas rfl) rfl rfl ?_)
  refine vnil ?_
  refine vret (vr2 (H' := H) Tryd.func27 rfl (.celln rfl rfl) (.tmp rfl) sb ?_)
  first | (rw [sightedE_61 h12]; exact ⟨rfl, rfl⟩) | (rw [sightedE_7 h12 (by omega)]; exact ⟨rfl, rfl⟩) | (rw [sightedE_x h12 hx (by omega)]; first | (have e : sightP s x = none := optN h35; rw [e]; exact ⟨rfl, rfl⟩) | (obtain ⟨gg, e⟩ : ∃ gg, sightP s x = some gg := optS h35; have e2 : sightP s ⟨x.st, x.nm, x.oc, x.nr, x.fr⟩ = some gg := e; rw [e]; exact ⟨rfl, rfl⟩))
 ·
  refine vskip ?_
  refine vseq ?_
  refine vseq ?_
  refine vregion ?_
  refine vone rfl (vxq (vmv rfl) rfl rfl ?_)
  refine vone rfl (vxq (vfa rfl) rfl rfl ?_)
  refine vone rfl (vxq (vld1 rfl rfl) rfl rfl ?_)
  refine vone rfl (vxq (vlen rfl) rfl rfl ?_)
  refine vone rfl (vxq (vsub rfl rfl (by unfold InR; omega)) rfl rfl ?_)
  refine vone rfl (vxq (vcp rfl rfl rfl (c_watch_within _ _ _)) rfl rfl ?_)
  refine vone rfl (vxq (vnotd rfl) rfl rfl ?_)
  refine vnil ?_
  refine vcondd rfl (fun h21 => ?_) (fun h21 => ?_)
  ·
   refine vseq ?_
   refine vregion ?_
   refine vone rfl (vxq (vbd rfl rfl) rfl rfl ?_)
   refine vone rfl (vxs (vstn rfl rfl rfl rfl rfl) rfl ?_)
   refine vone rfl (vxq (vas rfl) rfl rfl ?_)
   refine vnil ?_
   refine vret (vr2 (H' := H) Tryd.func27 rfl (.celln rfl rfl) (.tmp rfl) sb ?_)
   first | (rw [sightedE_61 h12]; exact ⟨rfl, rfl⟩) | (rw [sightedE_7 h12 (by omega)]; exact ⟨rfl, rfl⟩) | (rw [sightedE_x h12 hx (by omega)]; first | (have e : sightP s x = none := optN h35; rw [e]; exact ⟨rfl, rfl⟩) | (obtain ⟨gg, e⟩ : ∃ gg, sightP s x = some gg := optS h35; have e2 : sightP s ⟨x.st, x.nm, x.oc, x.nr, x.fr⟩ = some gg := e; rw [e]; exact ⟨rfl, rfl⟩))
  ·
   obtain ⟨x, hx⟩ := get_of_lt s.sg (i := i.toNat) (by omega)
   obtain ⟨g1, g2, g3, g4⟩ := (chkS_z.1 (Classical.not_not.1 h12)).sight hx
   refine vskip ?_
   refine vseq ?_
   refine vdraw [(.q, 0), (.q, 1), (.q, 2), (.q, 3), (.q, 4), (.q, 5), (.q, 6), (.q, 7), (.q, 8), (.q, 9), (.q, 10), (.a (blk [.int .i64 0, .int .i64 0, .int .i64 0, .int .i64 0, .int .i64 0, .int .i64 0, .int .i64 0, .int .i64 0] 55), 11), (.s, 12), (.q, 13)] Tryd.mixed (by kernel_rfl) ⟨⟨_, _, _, _, _, rfl, _, inferInstance, rfl⟩, True.intro⟩ ?_
   refine vdq (mone rfl) (vldn rfl rfl) rfl rfl ?_
   refine vdq (mone rfl) (vbd rfl rfl) rfl rfl ?_
   refine vdq (mone rfl) (vfa rfl) rfl rfl ?_
   refine vdq (mone rfl) (vld1 rfl rfl) rfl rfl ?_
   refine vdq (mone rfl) (vmv rfl) rfl rfl ?_
   refine vdq (mone rfl) (visg (enc := clSg) rfl rfl (by omega) hx) rfl rfl ?_
   refine vdq (mone rfl) (vldS (enc := clSg) rfl hx) rfl rfl ?_
   refine vdq (mone rfl) (vcq rfl rfl rfl (c_sighted h s _ _ _ _ _ _ g1 g2 g3 g4)) rfl rfl ?_
   refine vdq (mone rfl) (vmv rfl) rfl rfl ?_
   refine vdq (mone rfl) (vex rfl rfl) rfl rfl ?_
   refine vdq (mone rfl) (vex rfl rfl) rfl rfl ?_
   refine vda rfl rfl (fun b3 => ?_)
   refine vds (mone rfl) (vstn rfl rfl rfl rfl rfl) rfl ?_
   refine vdq (mone rfl) (vas rfl) rfl rfl ?_
   refine vdend rfl ?_
   refine vseq ?_
   refine vseq ?_
   refine vregion ?_
   refine vone rfl (vxq (vmv rfl) rfl rfl ?_)
   refine vone rfl (vxq (vnot rfl) rfl rfl ?_)
   refine vnil ?_
   refine vcond rfl (fun h35 => ?_) (fun h35 => ?_)
   ·
    refine vseq ?_
    refine vregion ?_
    refine vone rfl (vxq (vbd rfl rfl) rfl rfl ?_)
    refine vone rfl (vxs (vstn rfl rfl rfl rfl rfl) rfl ?_)
    refine vone rfl (vxq (vas rfl) rfl rfl ?_)
    refine vnil ?_
    refine vret (vr2 (H' := H) Tryd.func27 rfl (.celln rfl rfl) (.tmp rfl) sb ?_)
    first | (rw [sightedE_61 h12]; exact ⟨rfl, rfl⟩) | (rw [sightedE_7 h12 (by omega)]; exact ⟨rfl, rfl⟩) | (rw [sightedE_x h12 hx (by omega)]; first | (have e : sightP s x = none := optN h35; rw [e]; exact ⟨rfl, rfl⟩) | (obtain ⟨gg, e⟩ : ∃ gg, sightP s x = some gg := optS h35; have e2 : sightP s ⟨x.st, x.nm, x.oc, x.nr, x.fr⟩ = some gg := e; rw [e]; exact ⟨rfl, rfl⟩))
   ·
    refine vskip ?_
    refine vseq ?_
    refine vregion ?_
    refine vone rfl (vxq (vldn rfl rfl) rfl rfl ?_)
    refine vone rfl (vxs (vstn rfl rfl rfl rfl rfl) rfl ?_)
    refine vone rfl (vxq (vas rfl) rfl rfl ?_)
    refine vnil ?_
    refine vret (vr2 (H' := H) Tryd.func27 rfl (.celln rfl rfl) (.tmp rfl) sb ?_)
    first | (rw [sightedE_61 h12]; exact ⟨rfl, rfl⟩) | (rw [sightedE_7 h12 (by omega)]; exact ⟨rfl, rfl⟩) | (rw [sightedE_x h12 hx (by omega)]; first | (have e : sightP s x = none := optN h35; rw [e]; exact ⟨rfl, rfl⟩) | (obtain ⟨gg, e⟩ : ∃ gg, sightP s x = some gg := optS h35; have e2 : sightP s ⟨x.st, x.nm, x.oc, x.nr, x.fr⟩ = some gg := e; rw [e]; exact ⟨rfl, rfl⟩))

structure LH where
  sh : SH
  da : Option Addr
  dc : Nat
/-- What a log is. -/
abbrev clLg (L : LH) (g : Lg) : List Value := [.slice L.sh.a1 g.s.ship.length L.sh.c1, .slice L.sh.a2 g.s.src.length L.sh.c2, .slice L.sh.a3 g.s.eyes.length L.sh.c3, .slice L.sh.a4 g.s.ears.length L.sh.c4, .slice L.sh.a5 g.s.sg.length L.sh.c5, I g.w.zone, I g.w.speed, I g.w.hold, I g.w.pre, I g.w.delay, I g.w.soft, I g.w.pause, .slice L.da g.d.length L.dc]
abbrev vLg (L : LH) (g : Lg) : Value := .agg (clLg L g).toArray
class LgO (H : Heap) (L : LH) (g : Lg) : Prop where
  sc : ScO H L.sh g.s
  d : SlO H L.da 1 encB g.d
  cap : g.d.length ≤ L.dc
  w : okW g.w
  s : okSc g.s
  len : g.d.length = g.s.ship.length
theorem LgO.sub {H H' : Heap} {L : LH} {g : Lg} (hs : LgO H L g) (hm : ∀ e ∈ H, e ∈ H') : LgO H' L g := ⟨hs.sc.sub hm, hs.d.sub hm, hs.cap, hs.w, hs.s, hs.len⟩
instance (priority := low) LgO.tail {x : Nat × Obj} {H : Heap} {L : LH} {g : Lg} [hs : LgO H L g] : LgO (x :: H) L g := hs.sub fun _e he => List.mem_cons_of_mem _ he
instance LgO.i1 {H : Heap} {L : LH} {g : Lg} [hs : LgO H L g] : ScO H L.sh g.s := hs.sc
instance LgO.i2 {H : Heap} {L : LH} {g : Lg} [hs : LgO H L g] : SlO H L.da 1 encB g.d := hs.d
theorem LgO.facts {H : Heap} {L : LH} {g : Lg} (hs : LgO H L g) : ((1 ≤ (g.s.ship.length : Int) ∧ (g.s.ship.length : Int) ≤ 64) ∧ g.s.src.length = g.s.ship.length ∧ g.s.eyes.length = g.s.ship.length ∧ g.s.ears.length = g.s.ship.length ∧ g.d.length = g.s.ship.length) ∧ okW g.w ∧ g.s.eyes.length ≤ L.sh.c3 ∧ g.s.ears.length ≤ L.sh.c4 ∧ g.d.length ≤ L.dc := by
  obtain ⟨h1, h2, h3, h4, _⟩ := hs.s
  exact ⟨⟨by omega, h2, h3, h4, hs.len⟩, hs.w, hs.sc.cap.1, hs.sc.cap.2, hs.cap⟩
theorem bAt_of {l : List Bool} {i : Int} {z : Bool} (h : l[i.toNat]? = some z) : bAt l i = z := by unfold bAt; rw [h]; rfl
theorem part_any (l : List Bool) (b : Bool) {lo hi : Int} (h0 : 0 ≤ lo) (h1 : lo ≤ hi) (h2 : hi ≤ l.length) : ((l.drop lo.toNat).take (hi - lo).toNat).any (fun z => b == z) = true ↔ ∃ j : Nat, (j : Int) < hi - lo ∧ bAt l (lo + j) = b := by
  rw [List.any_eq_true]
  constructor
  · rintro ⟨z, hz, he⟩
    obtain ⟨j, hj⟩ := List.getElem?_of_mem hz
    rw [List.getElem?_take] at hj
    split at hj
    · rw [List.getElem?_drop] at hj
      refine ⟨j, by omega, ?_⟩
      rw [bAt_of (z := z) (by rw [show (lo + (j : Int)).toNat = lo.toNat + j by omega]; exact hj)]
      exact (by simpa using he : b = z).symm
    · cases hj
  · rintro ⟨j, hj, he⟩
    obtain ⟨z, hz⟩ := get_of_lt l (i := (lo + j).toNat) (by omega)
    refine ⟨z, List.mem_of_getElem? (i := j) ?_, by rw [bAt_of hz] at he; simp [he]⟩
    rw [List.getElem?_take, if_pos (by omega), List.getElem?_drop, show lo.toNat + j = (lo + j).toNat by omega]; exact hz
theorem part_all {l : List Bool} {lo hi : Int} (h0 : 0 ≤ lo) (h1 : lo ≤ hi) (h2 : hi ≤ l.length) : (!((l.drop lo.toNat).take (hi - lo).toNat).any (fun z => false == z)) = allTr l lo hi := by
  have h := part_any l false h0 h1 h2
  rw [Bool.eq_iff_iff, Bool.not_eq_true']
  constructor
  · intro e
    unfold allTr
    rw [List.all_eq_true]
    intro j hj
    have hj := List.mem_range.1 hj
    cases hb : bAt l (lo + j) with
    | true => rfl
    | false => rw [h.2 ⟨j, by omega, hb⟩] at e; cases e
  · intro e
    unfold allTr at e
    rw [List.all_eq_true] at e
    cases ha : ((l.drop lo.toNat).take (hi - lo).toNat).any (fun z => false == z) with
    | false => rfl
    | true =>
      obtain ⟨j, h3, h4⟩ := h.1 ha
      have := e j (List.mem_range.2 (by omega))
      rw [h4] at this; cases this
theorem part_tr {l : List Bool} {lo hi : Int} (h0 : 0 ≤ lo) (h1 : lo ≤ hi) (h2 : hi ≤ l.length) : ((l.drop lo.toNat).take (hi - lo).toNat).any (fun z => true == z) = anyTr l lo hi := by
  rw [Bool.eq_iff_iff, part_any l true h0 h1 h2, anyTr_iff]
theorem any_take_snoc {l : List Bool} {b z : Bool} {i : Nat} (hz : l[i]? = some z) : (l.take (i + 1)).any (fun z => b == z) = ((l.take i).any (fun z => b == z) || (b == z)) := by
  rw [take_succ_of hz, List.any_append]; simp

/-- slices.Index[[]bool,bool] -/
theorem g_IndexB (l : List Bool) (b : Bool) (oa : Option Addr) (n c : Nat) (hn : l.length = n) (hmax : n ≤ 9223372036854775807) (H : Heap) [SlO H oa 1 encB l] : VCall Tryd.prog 117 [sli oa n c, .bool b].toArray H (fun o H' => ∃ r, o = .val (I r) ∧ (0 ≤ r ↔ l.any (fun z => b == z) = true) ∧ H' = H) := by
 refine vcall_of_vrun Tryd.func117 rfl (N := 19) rfl rfl ?_
 refine vseq ?_
 refine vregion ?_
 refine vone rfl (vxq (vas rfl) rfl rfl ?_)
 refine vnil ?_
 refine vseq ?_
 refine vseq ?_
 refine vregion ?_
 refine vone rfl (vxq (vmv rfl) rfl rfl ?_)
 refine vone rfl (vxq (vlen rfl) rfl rfl ?_)
 refine vone rfl (vxq (vmv rfl) rfl rfl ?_)
 refine vnil ?_
 refine vblock ?_
 refine vwhile (σ := Int) (fun i => (n - i).toNat) (fun i => [(0, sli oa n c), (1, .bool b), (7, I n), (8, I i)]) (fun i => H) (fun i => (0 ≤ i ∧ i ≤ n) ∧ (l.take i.toNat).any (fun z => b == z) = false) 0 ⟨⟨by omega, by omega⟩, rfl⟩ ⟨rfl, rfl, rfl, rfl, True.intro⟩ sb ?_
 rintro i ⟨⟨hi0, hin⟩, hno⟩ IH
 change VRun _ _ _ _ _ [(0, sli oa n c), (1, .bool b), (7, I n), (8, I i)] _ (H) _
 refine vseq ?_
 refine vregion ?_
 refine vone rfl (vxq (vlss rfl rfl) rfl rfl ?_)
 refine vnil ?_
 refine vseq ?_
 refine vcondd rfl (fun h9 => ?_) (fun h9 => ?_)
 ·
  obtain ⟨z, hz⟩ := get_of_lt l (i := i.toNat) (by omega)
  refine vskip ?_
  refine vseq ?_
  refine vblock ?_
  refine vseq ?_
  refine vregion ?_
  refine vone rfl (vxq (vmv rfl) rfl rfl ?_)
  refine vone rfl (vxq (vas rfl) rfl rfl ?_)
  refine vnil ?_
  refine vseq ?_
  refine vregion ?_
  refine vone rfl (vxq (vmv rfl) rfl rfl ?_)
  refine vone rfl (vxq (vmv rfl) rfl rfl ?_)
  refine vone rfl (vxq (vmv rfl) rfl rfl ?_)
  refine vone rfl (vxq (visg (enc := encB) rfl rfl (by omega) hz) rfl rfl ?_)
  refine vone rfl (vxq (vldS1 (enc := encB) rfl hz rfl) rfl rfl ?_)
  refine vone rfl (vxq (veqb (by kernel_rfl) rfl rfl) rfl rfl ?_)
  refine vnil ?_
  refine vcond rfl (fun h16 => ?_) (fun h16 => ?_)
  ·
   refine vseq ?_
   refine vregion ?_
   refine vone rfl (vxq (vmv rfl) rfl rfl ?_)
   refine vone rfl (vxq (vas rfl) rfl rfl ?_)
   refine vnil ?_
   refine vret (vr1 (H' := H) Tryd.func117 rfl (.tmp rfl) sb ?_)
   first | exact ⟨_, rfl, ⟨fun _ => List.any_eq_true.2 ⟨z, List.mem_of_getElem? hz, h16⟩, fun _ => hi0⟩, rfl⟩ | exact ⟨-1, rfl, ⟨fun h => absurd h (by omega), fun h => by
      rw [show i.toNat = l.length by omega, List.take_length] at hno
      rw [hno] at h; cases h⟩, rfl⟩
  ·
   refine vskip ?_
   refine vinblock ?_
   refine vregion ?_
   refine vone rfl (vxq (vadd rfl rfl (by unfold InR; omega)) rfl rfl ?_)
   refine vone rfl (vxq (vmv rfl) rfl rfl ?_)
   refine vnil ?_
   exact vback (IH (i + 1) ⟨⟨by omega, by omega⟩, by rw [show (i + 1).toNat = i.toNat + 1 by omega, any_take_snoc hz, hno, h16]; rfl⟩ (by show (_ : Int).toNat < (_ : Int).toNat; omega)) ⟨rfl, rfl, rfl, rfl, True.intro⟩ sb
 ·
  refine vexit (k' := _) rfl ?_
  refine vseq ?_
  refine vregion ?_
  refine vone rfl (vxq (vas rfl) rfl rfl ?_)
  refine vnil ?_
  refine vret (vr1 (H' := H) Tryd.func117 rfl (.tmp rfl) sb ?_)
  first | exact ⟨_, rfl, ⟨fun _ => List.any_eq_true.2 ⟨z, List.mem_of_getElem? hz, h16⟩, fun _ => hi0⟩, rfl⟩ | exact ⟨-1, rfl, ⟨fun h => absurd h (by omega), fun h => by
     rw [show i.toNat = l.length by omega, List.take_length] at hno
     rw [hno] at h; cases h⟩, rfl⟩
/-- slices.Contains[[]bool,bool] -/
theorem q_ContainsB (l : List Bool) (b : Bool) (oa : Option Addr) (n c : Nat) (hn : l.length = n) (hmax : n ≤ 9223372036854775807) (H : Heap) [SlO H oa 1 encB l] : VHas Tryd.prog 94 [sli oa n c, .bool b] (.bool (l.any (fun z => b == z))) H H := by
 refine vcall_of_vrun Tryd.func94 rfl (N := 9) rfl rfl ?_
 refine vseq ?_
 refine vregion ?_
 refine vone rfl (vxq (vas rfl) rfl rfl ?_)
 refine vnil ?_
 refine vseq ?_
 refine vregion ?_
 refine vone rfl (vxq (vmv rfl) rfl rfl ?_)
 refine vone rfl (vxq (vmv rfl) rfl rfl ?_)
 refine vone rfl (vxg (vcg (R := fun v H' => ∃ r, v = I r ∧ (0 ≤ r ↔ l.any (fun z => b == z) = true) ∧ H' = H) rfl rfl rfl (g_IndexB l b oa n c hn hmax _) (fun _ _ ⟨r, h1, h2, h3⟩ => ⟨_, h1, r, rfl, h2, h3⟩)) rfl rfl ?_)
 rintro _ _ ⟨r, rfl, hr, rfl⟩
 refine vone rfl (vxq (vgeq rfl rfl) rfl rfl ?_)
 refine vone rfl (vxq (vas rfl) rfl rfl ?_)
 refine vnil ?_
 refine vret (vr1 (H' := _) Tryd.func94 rfl (.tmp rfl) sb ?_)
 exact ⟨oV (by congr 1; rw [Bool.eq_iff_iff, decide_eq_true_iff]; exact hr), rfl⟩
/-- (paravane/watch.log).full -/
theorem c_full (L : LH) (g : Lg) (hw : okW g.w) : VPure Tryd.prog 62 [vLg L g] (I (g.w.soft + 1)) := by
 unfold okW at hw
 intro H
 refine vcall_of_vrun Tryd.func62 rfl (N := 7) rfl rfl ?_
 refine vseq ?_
 refine vregion ?_
 refine vone rfl (vxa (vbox rfl rfl) rfl rfl (fun b1 => ?_))
 refine vone rfl (vxq (vas rfl) rfl rfl ?_)
 refine vnil ?_
 refine vseq ?_
 refine vregion ?_
 refine vone rfl (vxq (vfa rfl) rfl rfl ?_)
 refine vone rfl (vxq (vfa rfl) rfl rfl ?_)
 refine vone rfl (vxq (vld1 rfl rfl) rfl rfl ?_)
 refine vone rfl (vxq (vadd rfl rfl (by unfold InR; omega)) rfl rfl ?_)
 refine vone rfl (vxq (vas rfl) rfl rfl ?_)
 refine vnil ?_
 refine vret (vr1 (H' := H) Tryd.func62 rfl (.tmp rfl) sb ?_)
 exact ⟨rfl, rfl⟩
/-- (paravane/watch.log).watched -/
theorem c_watched (L : LH) (g : Lg) (H : Heap) [hlg : LgO H L g] (t : Int) (ht : 0 ≤ t ∧ t < g.s.ship.length) : VHas Tryd.prog 92 [vLg L g, I t] (.bool (lookB g t)) (H) (H) := by
 obtain ⟨hlen, hokw, hcap⟩ := hlg.facts
 unfold okW at hokw
 obtain ⟨z, hz⟩ := get_of_lt g.s.eyes (i := t.toNat) (by omega)
 obtain ⟨z2, hz2⟩ := get_of_lt g.s.ears (i := t.toNat) (by omega)
 refine vcall_of_vrun Tryd.func92 rfl (N := 21) rfl rfl ?_
 refine vseq ?_
 refine vregion ?_
 refine vone rfl (vxa (vbox rfl rfl) rfl rfl (fun b1 => ?_))
 refine vone rfl (vxq (vas rfl) rfl rfl ?_)
 refine vnil ?_
 refine vseq ?_
 refine vregion ?_
 refine vone rfl (vxq (vfa rfl) rfl rfl ?_)
 refine vone rfl (vxq (vfa rfl) rfl rfl ?_)
 refine vone rfl (vxq (vfa rfl) rfl rfl ?_)
 refine vone rfl (vxq (vld1 rfl rfl) rfl rfl ?_)
 refine vone rfl (vxq (vmv rfl) rfl rfl ?_)
 refine vone rfl (vxq (visg (enc := encB) rfl rfl (by omega) hz) rfl rfl ?_)
 refine vone rfl (vxq (vldS1 (enc := encB) rfl hz rfl) rfl rfl ?_)
 refine vone rfl (vxq (vmv rfl) rfl rfl ?_)
 refine vsplit (d := 12) rfl (fun h12 => ?_) (fun h12 => ?_)
 ·
  refine vno rfl rfl rfl rfl rfl ?_
  refine vno rfl rfl rfl rfl rfl ?_
  refine vno rfl rfl rfl rfl rfl ?_
  refine vno rfl rfl rfl rfl rfl ?_
  refine vno rfl rfl rfl rfl rfl ?_
  refine vno rfl rfl rfl rfl rfl ?_
  refine vno rfl rfl rfl rfl rfl ?_
  refine vone rfl (vxq (vpkt rfl rfl) rfl rfl ?_)
  refine vone rfl (vxq (vas rfl) rfl rfl ?_)
  refine vnil ?_
  refine vret (vr1 (H' := H) Tryd.func92 rfl (.tmp rfl) sb ?_)
  exact ⟨oV (by unfold lookB; rw [bAt_of hz, bAt_of hz2, h12]; rfl), rfl⟩
 ·
  refine vyes rfl rfl rfl (vxq (vfa rfl) rfl rfl ?_)
  refine vyes rfl rfl rfl (vxq (vfa rfl) rfl rfl ?_)
  refine vyes rfl rfl rfl (vxq (vfa rfl) rfl rfl ?_)
  refine vyes rfl rfl rfl (vxq (vld1 rfl rfl) rfl rfl ?_)
  refine vyes rfl rfl rfl (vxq (vmv rfl) rfl rfl ?_)
  refine vyes rfl rfl rfl (vxq (visg (enc := encB) rfl rfl (by omega) hz2) rfl rfl ?_)
  refine vyes rfl rfl rfl (vxq (vldS1 (enc := encB) rfl hz2 rfl) rfl rfl ?_)
  refine vone rfl (vxq (vpkf rfl rfl) rfl rfl ?_)
  refine vone rfl (vxq (vas rfl) rfl rfl ?_)
  refine vnil ?_
  refine vret (vr1 (H' := H) Tryd.func92 rfl (.tmp rfl) sb ?_)
  exact ⟨oV (by unfold lookB; rw [bAt_of hz, bAt_of hz2, h12]; rfl), rfl⟩
/-- (paravane/watch.log).always -/
theorem c_always (L : LH) (g : Lg) (hw : okW g.w) (l : List Bool) (oa : Option Addr) (c : Nat) (hc : l.length ≤ c) (H : Heap) [hsl : SlO H oa 1 encB l] (t : Int) (ht : g.w.pre ≤ t ∧ t ≤ l.length) (hl : l.length ≤ 64) : VHas Tryd.prog 93 [vLg L g, .slice oa l.length c, I t] (.bool (allTr l (t - g.w.pre) t)) (H) (H) := by
 unfold okW at hw
 refine vcall_of_vrun Tryd.func93 rfl (N := 17) rfl rfl ?_
 refine vseq ?_
 refine vregion ?_
 refine vone rfl (vxa (vbox rfl rfl) rfl rfl (fun b1 => ?_))
 refine vone rfl (vxq (vas rfl) rfl rfl ?_)
 refine vnil ?_
 refine vseq ?_
 refine vregion ?_
 refine vone rfl (vxq (vmv rfl) rfl rfl ?_)
 refine vone rfl (vxq (vmv rfl) rfl rfl ?_)
 refine vone rfl (vxq (vfa rfl) rfl rfl ?_)
 refine vone rfl (vxq (vfa rfl) rfl rfl ?_)
 refine vone rfl (vxq (vld1 rfl rfl) rfl rfl ?_)
 refine vone rfl (vxq (vsub rfl rfl (by unfold InR; omega)) rfl rfl ?_)
 refine vone rfl (vxq (vmv rfl) rfl rfl ?_)
 refine vone rfl (vxq (vslc rfl rfl rfl (by omega) (by omega) (by omega)) rfl rfl ?_)
 refine vone rfl (vxq (vcq rfl rfl rfl ((haveI := hsl.part (c := c) (l := (t - g.w.pre).toNat) (m := t.toNat) (by omega); q_ContainsB ((l.drop (t - g.w.pre).toNat).take (t.toNat - (t - g.w.pre).toNat)) false _ _ _ (by rw [List.length_take, List.length_drop]; omega) (by omega) _))) rfl rfl ?_)
 refine vone rfl (vxq (vnot rfl) rfl rfl ?_)
 refine vone rfl (vxq (vas rfl) rfl rfl ?_)
 refine vnil ?_
 refine vret (vr1 (H' := H) Tryd.func93 rfl (.tmp rfl) sb ?_)
 exact ⟨oV (by congr 1; rw [← part_all (by omega) (by omega) (by omega), show t.toNat - (t - g.w.pre).toNat = (t - (t - g.w.pre)).toNat by omega]), rfl⟩
end Go.Proofs.YtaplkoimhecacaaDoor
