/-
  What the base lacks. Walks of the laws' own small functions: full, led. Walks of the laws' helpers: Rest, Pick, square, swum. The walk of WatchNearer.
-/
import Derived.Test.YtaplkoimhecacaaDoorB01
import Derived.Test.YtaplkoimhecacaaDoorB02
import Derived.Test.YtaplkoimhecacaaDoorB03
import Derived.Test.YtaplkoimhecacaaDoorB04
import Derived.Test.YtaplkoimhecacaaDoorB05
import Derived.Test.YtaplkoimhecacaaDoorB06
import Derived.Test.YtaplkoimhecacaaDoorB07
import Derived.Test.YtaplkoimhecacaaDoorB08
import Derived.Test.YtaplkoimhecacaaDoorB09
import Derived.Test.YtaplkoimhecacaaDoorB10
import Derived.Test.YtaplkoimhecacaaDoorB11
import Derived.Test.YtaplkoimhecacaaDoorB12
import Derived.Test.YtaplkoimhecacaaDoorB13
import Derived.Test.YtaplkoimhecacaaDoorB14
import Derived.Test.YtaplkoimhecacaaDoorB15
import Derived.Test.YtaplkoimhecacaaDoorB16
import Derived.Test.YtaplkoimhecacaaDoorB17
import Derived.Test.YtaplkoimhecacaaDoorB18
import Derived.Test.YtaplkoimhecacaaDoorB19
import Derived.Test.YtaplkoimhecacaaDoorB20
namespace Go.Proofs.YtaplkoimhecacaaDoor
open Go
set_option maxRecDepth 100000
section
open Go
/-- The search backwards for a whole soft start. -/
def ledN (w : Wn) (ms : List Int) (k : Nat) : Nat → Int → Int → Bool
  | 0, _, _ => false
  | i + 1, want, silent =>
    if mdAt ms i = 0 ∧ want = w.soft + 1 ∧ silent < w.pause ∧ i < k then ledN w ms k i want (silent + 1)
    else if mdAt ms i = w.soft + 1 ∧ want = w.soft + 1 then ledN w ms k i want 0
    else if mdAt ms i = w.soft ∧ want = w.soft + 1 ∧ silent = 0 then (if w.soft = 1 then true else ledN w ms k i (w.soft - 1) silent)
    else if mdAt ms i = want ∧ want ≤ w.soft then (if want = 1 then true else ledN w ms k i (want - 1) silent)
    else false
end
section
open Go
open Go.ChangeShapes Go.WideShapes Go.ChangeAt Go.RowKit

variable {HH : Type} (enc : TypeId × Value → HH) (P : Program) (W : World)

variable {enc P W}
theorem allH_emb (W : World) : Emb (allH W) W := by
  refine ⟨?_, fun e he => ?_⟩
  · have : (allH W).map Prod.fst = List.range W.heap.size := by
      unfold allH
      rw [List.map_map]
      have : (Prod.fst ∘ fun p : Obj × Nat => (p.2, p.1)) = Prod.snd := rfl
      rw [this, List.zipIdx_map_snd, List.range_eq_range']
      simp
    rw [this]; exact List.nodup_range
  · exact allH_mem.1 he

/-- A contract at all blocks, in the library's form. -/
theorem calls_of {P : Program} {k : FuncId} {args : Array Value} {W : World} {v : Value} (h : VCall P k args (allH W) (fun o H' => o = .val v ∧ ∃ B, H' = B ++ allH W)) :
    Calls P k args W (fun e w' => e = .returned v ∧ Below W.heap.size W w') := by
  intro cs
  obtain ⟨o, w', m', H', ⟨rfl, B, rfl⟩, hF, hs, _, fr', rfl, h1, h2⟩ := h W cs (allH_emb W)
  refine ⟨.returned v, w', fr', ⟨rfl, hF.os, hF.tape, hF.output, hF.size, fun i hi => ?_⟩, hs, h1, h2⟩
  have hg : W.heap[i]? = some W.heap[i] := Array.getElem?_eq_getElem hi
  rw [hg]
  exact hF.emb.at_ (i, W.heap[i]) (List.mem_append_right _ (allH_mem.2 hg))

end
end Go.Proofs.YtaplkoimhecacaaDoor
namespace Go.Proofs.YtaplkoimhecacaaDoor
open Go
set_option maxRecDepth 100000

attribute [local irreducible] tightP hullP rootP farP rows endsOf
section
variable {P : Program} {f : FuncId} {ro : Option Nat} {N : Nat} {k k' : List Item} {E E' : Env} {D : List Deferred} {H H' : Heap} {Q : Out → Heap → Prop}
/-- Where ways through a text meet again. -/
theorem vjoin {C : Prop} (h2 : (C → VRun P f ro N k' E' D H' Q) → VRun P f ro N k E D H Q) (h1 : C → VRun P f ro N k' E' D H' Q) : VRun P f ro N k E D H Q := h2 h1
end
/-- What the search backwards keeps. -/
structure LdI (w : Wn) (ms : List Int) (k zk : Int) (i want silent : Int) : Prop where
  ib : -1 ≤ i ∧ i ≤ k
  wtb : -1 ≤ want ∧ want ≤ w.soft + 1
  slb : 0 ≤ silent ∧ silent ≤ w.pause
  eb : ledN w ms k.toNat (i + 1).toNat want silent = ledN w ms k.toNat (k.toNat + 1) zk 0
end Go.Proofs.YtaplkoimhecacaaDoor
namespace Go.Proofs.YtaplkoimhecacaaDoor
open Go
set_option maxRecDepth 100000

attribute [local irreducible] tightP hullP rootP farP rows endsOf
end Go.Proofs.YtaplkoimhecacaaDoor
namespace Go.Proofs.YtaplkoimhecacaaDoor
open Go
set_option maxRecDepth 100000

attribute [local irreducible] tightP hullP rootP farP rows endsOf restP meetE
def okSgR' (x : Sg) : Prop := InR x.st ∧ x.nm.size ≤ 9223372036854775807 ∧ InR x.oc ∧ InR x.nr ∧ InR x.fr
theorem SlO.tk {α : Type} {H : Heap} {oa : Option Addr} {esz : Nat} {enc : α → List Value} {xs : List α} (h : SlO H oa esz enc xs) (n : Nat) : SlO H oa esz enc (xs.take n) := by
  refine ⟨fun i x hx => ?_⟩
  rw [List.getElem?_take] at hx
  split at hx
  · exact h.el i x hx
  · cases hx
theorem SlO.dr {α : Type} {H : Heap} {oa : Option Addr} {esz c : Nat} {enc : α → List Value} {xs : List α} (h : SlO H oa esz enc xs) (hc : xs.length ≤ c) (l : Nat) : SlO H (atS oa c l esz) esz enc (xs.drop l) := by
  have := h.part (l := l) hc
  rwa [List.take_of_length_le (by rw [List.length_drop]; exact Nat.le_refl _)] at this
section
variable {P : Program} {N : Nat} {E : Env} {D : List Deferred} {H : Heap} {d : Nat} {x y : Operand} {T ty : TypeId} {pos : String} {af : Array Edge} {g : Option (Nat × Bool)}
theorem vslcLo {oa : Option Addr} {n c e esz : Nat} {lo : Operand} {kl : IntKind} {l : Int} [hT : TSl P T e esz] (hx : ev E x = some (.slice oa n c)) (hl : ev E lo = some (.int kl l)) (h0 : 0 ≤ l) (h1 : l ≤ n) (h3 : n ≤ c) :
    OQ P N E D H ⟨some d, .slice T x (some lo) Option.none Option.none, ty, pos, af, g⟩ (.slice (atS oa c l.toNat esz) (n - l.toNat) (c - l.toNat)) :=
  ov (by simp) (fun t w hA hE => by
    have hu := hT.und
    have e2 : (Instr.sliceBound (.int kl l) n .sliceB).run P w = .ok l.toNat w := run_sliceBound w kl l n _ h0 (by omega)
    simp [execOp, ev_eval hA hx, ev_eval hA hl, Instr.sliceAt, Instr.slice, Instr.sliceBounds, run_underlying hu, e2, hT.size, Result.andThen, atS])
end
section
open Classical in
theorem pmN (X B Y H : Heap) : (X ++ (B ++ (Y ++ H))).Perm (H ++ (X ++ (B ++ Y))) := perm_of fun a => by simp only [List.count_append]; omega
theorem pmN2 (N D H X B Y : Heap) : ((N ++ (D ++ H)) ++ (X ++ (B ++ Y))).Perm (X ++ (N ++ (D ++ (B ++ (Y ++ H))))) := perm_of fun a => by simp only [List.count_append]; omega
end
abbrev shM (h : SH) (p : Option Addr) (q : Nat) : SH := { h with a5 := p, c5 := q }
theorem moreS_len {s : Sc} {a : Nat} {x : Sg} (ha : a ≤ s.sg.length) : (moreS s a x).sg.length = 0 + a + 1 + (s.sg.length - a) := by unfold moreS; simp; omega
theorem more_sc {h : SH} {s : Sc} {x : Sg} {R C : Heap} {p : Option Addr} {q a n : Nat} (hsc : ScO R h s) (hn : x.nm.size ≤ 9223372036854775807) (h32 : s.sg.length ≤ 32) (ha : a ≤ s.sg.length) (hO : OwnS 49 5 (.slice p n q) n ((moreS s a x).sg.flatMap clSg) C) (e : (moreS s a x).sg.length = n) : ScO (C ++ R) (shM h p q) (moreS s a x) := by
  have hm : ∀ e ∈ R, e ∈ C ++ R := fun e he => List.mem_append_right _ he
  have hbd := hsc.bd
  refine ⟨hsc.ship.sub hm, hsc.src.sub hm, hsc.eyes.sub hm, hsc.ears.sub hm, (hO.slo (enc := clSg) clSg_len (by decide) rfl e).sub (fun e he => List.mem_append_left _ he), hsc.cap, fun y hy => ?_, hbd.1, hbd.2.1, hbd.2.2.1, hbd.2.2.2.1, ?_⟩
  · unfold moreS at hy
    rcases List.mem_append.1 hy with hy | hy
    · rcases List.mem_append.1 hy with hy | hy
      · exact hsc.nm y (List.mem_of_mem_take hy)
      · rw [List.mem_singleton.1 hy]; exact hn
    · exact hsc.nm y (List.mem_of_mem_drop hy)
  · rw [moreS_len ha]; omega
theorem d_TrackM {H : Heap} (w : Wn) (h : SH) (s : Sc) [hsc : ScO H h s] [hgl : Glob H] (nm : ByteArray) {n : Nat} (e : s.sg.length = n) : VCall Tryd.prog 26 [vWn w, .agg [.slice h.a1 s.ship.length h.c1, .slice h.a2 s.src.length h.c2, .slice h.a3 s.eyes.length h.c3, .slice h.a4 s.ears.length h.c4, .slice h.a5 n h.c5].toArray, .string nm].toArray H (fun o H' => ∃ v, o = .val v ∧ ∃ B, H' = B ++ H ∧ ∃ oa c oc cc, v = tup [.slice oa (trackE w s nm).1.length c, .slice oc (trackE w s nm).2.1.length cc, I (trackE w s nm).2.2] ∧ SlO B oa 1 encB (trackE w s nm).1 ∧ SlO B oc 8 clR (trackE w s nm).2.1) := by
  subst e; exact d_Track w h s H nm
theorem c_SightedM {H : Heap} (h : SH) (s : Sc) [hsc : ScO H h s] [hgl : Glob H] {n : Nat} (e : s.sg.length = n) {i : Int} {j : Nat} (hj : (j : Int) = i) {r : Rg} (hs : sightedE s j = (r, 0)) : VHas Tryd.prog 27 [.agg [.slice h.a1 s.ship.length h.c1, .slice h.a2 s.src.length h.c2, .slice h.a3 s.eyes.length h.c3, .slice h.a4 s.ears.length h.c4, .slice h.a5 n h.c5].toArray, I i] (tup [vR r, I 0]) H H := by
  subst e; subst hj
  have := c_Sighted h s H j
  rw [hs] at this; exact this
theorem c_MeetY {m r : Rg} (h : meetE m r = (m, 0)) : VPure Tryd.prog 28 [vR m, vR r] (tup [vR m, I 0]) := by
  have := c_Meet m r
  rw [h] at this; exact this

set_option maxHeartbeats 2000000 in
/-- paravane/paravanelaw06.WatchNearer -/
theorem w_Nearer (w : Wn) (h : SH) (s : Sc) (x : Sg) (hxR : okSgR' x) (hc5 : s.sg.length ≤ h.c5) (H : Heap) [hsc : ScO H h s] [hgl : Glob H] : VHas Tryd.prog 7 [vWn w, vSc h s, vSg x] (.bool true) (H) (H) := by
  have hbd := hsc.bd
  obtain ⟨hx1, hx2, _, _, _⟩ := hxR
  refine vcall_of_vrun Tryd.func7 rfl (N := 195) rfl rfl ?_
  refine vseq ?_
  refine vregion ?_
  refine vone rfl (vxa (vbox rfl rfl) rfl rfl (fun b1 => ?_))
  refine vone rfl (vxa (vbox rfl rfl) rfl rfl (fun b2 => ?_))
  refine vone rfl (vxa (vbox rfl rfl) rfl rfl (fun b3 => ?_))
  refine vone rfl (vxq (vas rfl) rfl rfl ?_)
  refine vnil ?_
  refine vseq ?_
  refine vregion ?_
  refine vone rfl (vxq (vldn rfl rfl) rfl rfl ?_)
  refine vone rfl (vxq (vldn rfl rfl) rfl rfl ?_)
  refine vone rfl (vxq (vfa rfl) rfl rfl ?_)
  refine vone rfl (vxq (vld1 rfl rfl) rfl rfl ?_)
  refine vone rfl (vxg (vcg rfl rfl rfl (d_Track w h s _ x.nm) (fun o H' h => h)) rfl rfl ?_)
  rintro _ _ ⟨BT, rfl, ⟨oa1, c1, oa2, c2, rfl, hk1, hk2⟩⟩
  refine vone rfl (vxq (vmv rfl) rfl rfl ?_)
  refine vone rfl (vxq (vex rfl rfl) rfl rfl ?_)
  refine vone rfl (vxq (vex rfl rfl) rfl rfl ?_)
  refine vone rfl (vxq (vex rfl rfl) rfl rfl ?_)
  refine vone rfl (vxq (vas rfl) rfl rfl ?_)
  refine vone rfl (vxq (vas rfl) rfl rfl ?_)
  refine vone rfl (vxq (vas rfl) rfl rfl ?_)
  refine vnil ?_
  refine vseq ?_
  refine vseq ?_
  refine vregion ?_
  refine vone rfl (vxq (vmv rfl) rfl rfl ?_)
  refine vone rfl (vxq (vneq rfl rfl) rfl rfl ?_)
  refine vone rfl (vxq (vmv rfl) rfl rfl ?_)
  refine vsplitd (d := 31) rfl (fun h31 => ?_) (fun h31 => ?_)
  · skip
    refine vno rfl rfl rfl rfl rfl ?_
    refine vno rfl rfl rfl rfl rfl ?_
    refine vno rfl rfl rfl rfl rfl ?_
    refine vno rfl rfl rfl rfl rfl ?_
    refine vno rfl rfl rfl rfl rfl ?_
    refine vno rfl rfl rfl rfl rfl ?_
    refine vno rfl rfl rfl rfl rfl ?_
    refine vno rfl rfl rfl rfl rfl ?_
    refine vone rfl (vxq (vpkt rfl rfl) rfl rfl ?_)
    refine vnil ?_
    refine vcondt rfl ?_
    refine vseq ?_
    refine vregion ?_
    refine vone rfl (vxq (vcq rfl rfl rfl (c_works _)) rfl rfl ?_)
    refine vknow (d := 41) (b' := true) rfl rfl ?_
    refine vone rfl (vxq (vas rfl) rfl rfl ?_)
    refine vnil ?_
    refine vret (vr1 (H' := H) Tryd.func7 rfl (.tmp rfl) sb2 ?_)
    exact ⟨rfl, rfl⟩
  · skip
    refine vyes rfl rfl rfl (vxq (vfa rfl) rfl rfl ?_)
    refine vyes rfl rfl rfl (vxq (vld1 rfl rfl) rfl rfl ?_)
    refine vyes rfl rfl rfl (vxq (vfa rfl) rfl rfl ?_)
    refine vyes rfl rfl rfl (vxq (vld1 rfl rfl) rfl rfl ?_)
    refine vyes rfl rfl rfl (vxq (vlen rfl) rfl rfl ?_)
    refine vyes rfl rfl rfl (vxq (vsub rfl rfl (by unfold InR; omega)) rfl rfl ?_)
    refine vyes rfl rfl rfl (vxq (vcp rfl rfl rfl (c_ref00_Between _ _ _)) rfl rfl ?_)
    refine vyes rfl rfl rfl (vxq (vnotd rfl) rfl rfl ?_)
    refine vone rfl (vxq (vpkf rfl rfl) rfl rfl ?_)
    refine vnil ?_
    refine vcondd rfl (fun h40 => ?_) (fun h40 => ?_)
    · skip
      refine vseq ?_
      refine vregion ?_
      refine vone rfl (vxq (vcq rfl rfl rfl (c_works _)) rfl rfl ?_)
      refine vknow (d := 41) (b' := true) rfl rfl ?_
      refine vone rfl (vxq (vas rfl) rfl rfl ?_)
      refine vnil ?_
      refine vret (vr1 (H' := H) Tryd.func7 rfl (.tmp rfl) sb2 ?_)
      exact ⟨rfl, rfl⟩
    · skip
      have hT0 := Classical.not_not.1 h31
      obtain ⟨hw, hs0, hkT, htr⟩ := track_cases hT0
      have hxb := Classical.not_not.1 h40
      have h32 := hs0.2.2.2.2.1
      have h64 := hs0.1.2
      have ht1 : (trackE w s x.nm).1.length = s.ship.length := by rw [htr]; exact knL_len _ _ _ _
      have ht2 : (trackE w s x.nm).2.1.length = s.ship.length := by rw [htr]; exact whL_len _ _ _ _
      refine vskip ?_
      refine vseq ?_
      refine vregion ?_
      refine vone rfl (vxq (vldn rfl rfl) rfl rfl ?_)
      refine vone rfl (vxa valloc rfl rfl (fun b4 => ?_))
      refine vone rfl (vxs (vstn rfl rfl rfl rfl rfl) rfl ?_)
      refine vnil ?_
      refine vseq ?_
      refine vregion ?_
      refine vone rfl (vxq (vfa rfl) rfl rfl ?_)
      refine vone rfl (vxs (vst1 rfl rfl rfl rfl) rfl ?_)
      refine vnil ?_
      refine vseq ?_
      refine vregion ?_
      refine vone rfl (vxq (vas rfl) rfl rfl ?_)
      refine vnil ?_
      refine vseq ?_
      refine vblock ?_
      refine vwhile (σ := Int) (fun a => (s.sg.length - a).toNat) (fun a => [(3, ptr b1), (4, ptr b2), (5, ptr b3), (7, .slice oa1 (trackE w s x.nm).1.length c1), (8, .slice oa2 (trackE w s x.nm).2.1.length c2), (10, ptr b4), (11, I a)]) (fun a => (b4, blk [.slice h.a1 s.ship.length h.c1, .slice h.a2 s.src.length h.c2, .slice h.a3 s.eyes.length h.c3, .slice h.a4 s.ears.length h.c4, .slice Option.none 0 0] 33) :: (BT ++ ((b3, blk (clSg x) 49) :: (b2, blk (clSc h s) 33) :: (b1, blk (clWn w) 23) :: H))) (fun a => 0 ≤ a ∧ a ≤ s.sg.length) 0 ⟨by omega, by omega⟩ ⟨rfl, rfl, rfl, rfl, rfl, rfl, rfl, True.intro⟩ sb ?_
      rintro a ⟨ha0, han⟩ IH
      change VRun _ _ _ _ _ [(3, ptr b1), (4, ptr b2), (5, ptr b3), (7, .slice oa1 (trackE w s x.nm).1.length c1), (8, .slice oa2 (trackE w s x.nm).2.1.length c2), (10, ptr b4), (11, I a)] _ ((b4, blk [.slice h.a1 s.ship.length h.c1, .slice h.a2 s.src.length h.c2, .slice h.a3 s.eyes.length h.c3, .slice h.a4 s.ears.length h.c4, .slice Option.none 0 0] 33) :: (BT ++ ((b3, blk (clSg x) 49) :: (b2, blk (clSc h s) 33) :: (b1, blk (clWn w) 23) :: H))) _
      refine vseq ?_
      refine vseq ?_
      apply vjoin (C := a.toNat = s.sg.length ∨ ∃ y, s.sg[a.toNat]? = some y ∧ x.st < y.st) (E' := [(3, ptr b1), (4, ptr b2), (5, ptr b3), (7, .slice oa1 (trackE w s x.nm).1.length c1), (8, .slice oa2 (trackE w s x.nm).2.1.length c2), (10, ptr b4), (11, I a)]) (H' := (b4, blk [.slice h.a1 s.ship.length h.c1, .slice h.a2 s.src.length h.c2, .slice h.a3 s.eyes.length h.c3, .slice h.a4 s.ears.length h.c4, .slice Option.none 0 0] 33) :: (BT ++ ((b3, blk (clSg x) 49) :: (b2, blk (clSc h s) 33) :: (b1, blk (clWn w) 23) :: H)))
      · intro hJ59
        refine vdraw0 [(.q, 0), (.q, 1), (.q, 2), (.q, 3), (.q, 4), (.q, 5), (.q, 6), (.q, 7), (.q, 8), (.q, 9), (.q, 10), (.q, 11), (.q, 12), (.q, 13), (.q, 14), (.q, 15)] Tryd.mixed (by kernel_rfl) (by kernel_rfl) ?_
        refine vdq (mone rfl) (vmv rfl) rfl rfl ?_
        refine vdq (mone rfl) (vfa rfl) rfl rfl ?_
        refine vdq (mone rfl) (vld1 rfl rfl) rfl rfl ?_
        refine vdq (mone rfl) (vlen rfl) rfl rfl ?_
        refine vdq (mone rfl) (vlss rfl rfl) rfl rfl ?_
        refine vdq (mone rfl) (vmv rfl) rfl rfl ?_
        refine vdsplitd (d := 49) rfl (fun h49 => ?_) (fun h49 => ?_)
        · skip
          obtain ⟨y, hy⟩ := get_of_lt s.sg (i := a.toNat) (by omega)
          refine vdq (myes rfl rfl rfl) (vfa rfl) rfl rfl ?_
          refine vdq (myes rfl rfl rfl) (vld1 rfl rfl) rfl rfl ?_
          refine vdq (myes rfl rfl rfl) (vmv rfl) rfl rfl ?_
          refine vdq (myes rfl rfl rfl) (visg (enc := clSg) rfl rfl (by omega) hy) rfl rfl ?_
          refine vdq (myes rfl rfl rfl) (vfaS (enc := clSg) rfl hy) rfl rfl ?_
          refine vdq (myes rfl rfl rfl) (vldSf (enc := clSg) rfl hy rfl) rfl rfl ?_
          refine vdq (myes rfl rfl rfl) (vfa rfl) rfl rfl ?_
          refine vdq (myes rfl rfl rfl) (vld1 rfl rfl) rfl rfl ?_
          refine vdq (myes rfl rfl rfl) (vleq rfl rfl) rfl rfl ?_
          refine vdq (mone rfl) (vpkt rfl rfl) rfl rfl ?_
          refine vdend rfl ?_
          refine vcondd rfl (fun h59 => ?_) (fun h59 => ?_)
          · skip
            refine vskip ?_
            refine vblock ?_
            refine vregion ?_
            refine vone rfl (vxq (vmv rfl) rfl rfl ?_)
            refine vone rfl (vxq (vadd rfl rfl (by unfold InR; omega)) rfl rfl ?_)
            refine vone rfl (vxq (vas rfl) rfl rfl ?_)
            refine vnil ?_
            refine vinblock ?_
            exact vback (IH (a + 1) ⟨by omega, by omega⟩ (by show (_ : Int).toNat < (_ : Int).toNat; omega)) ⟨rfl, rfl, rfl, rfl, rfl, rfl, rfl, True.intro⟩ sb2
          · skip
            exact vback (hJ59 (by first | exact .inl (by omega) | exact .inr ⟨y, hy, by omega⟩)) ⟨rfl, rfl, rfl, rfl, rfl, rfl, rfl, True.intro⟩ sb2
        · skip
          refine vdno rfl rfl rfl rfl rfl ?_
          refine vdno rfl rfl rfl rfl rfl ?_
          refine vdno rfl rfl rfl rfl rfl ?_
          refine vdno rfl rfl rfl rfl rfl ?_
          refine vdno rfl rfl rfl rfl rfl ?_
          refine vdno rfl rfl rfl rfl rfl ?_
          refine vdno rfl rfl rfl rfl rfl ?_
          refine vdno rfl rfl rfl rfl rfl ?_
          refine vdno rfl rfl rfl rfl rfl ?_
          refine vdq (mone rfl) (vpkf rfl rfl) rfl rfl ?_
          refine vdend rfl ?_
          refine vcondf rfl ?_
          exact vback (hJ59 (by first | exact .inl (by omega) | exact .inr ⟨y, hy, by omega⟩)) ⟨rfl, rfl, rfl, rfl, rfl, rfl, rfl, True.intro⟩ sb2
      · intro hC59
        refine vexit (k' := _) rfl ?_
        refine vseq ?_
        refine vdrawP (G0 := H) (H0 := (b4, blk [.slice h.a1 s.ship.length h.c1, .slice h.a2 s.src.length h.c2, .slice h.a3 s.eyes.length h.c3, .slice h.a4 s.ears.length h.c4, .slice Option.none 0 0] 33) :: (BT ++ ((b3, blk (clSg x) 49) :: (b2, blk (clSc h s) 33) :: (b1, blk (clWn w) 23) :: []))) (pmN [(b4, blk [.slice h.a1 s.ship.length h.c1, .slice h.a2 s.src.length h.c2, .slice h.a3 s.eyes.length h.c3, .slice h.a4 s.ears.length h.c4, .slice Option.none 0 0] 33)] BT [(b3, blk (clSg x) 49), (b2, blk (clSc h s) 33), (b1, blk (clWn w) 23)] H) [(.q, 0), (.q, 1), (.q, 2), (.q, 3), (.q, 4), (.q, 5), (.q, 7), (.q, 10), (.q, 11), (.q, 12), (.q, 13), (.q, 15), (.s, 6), (.m, 8), (.s, 9), (.s, 14), (.c, 16)] Tryd.mixed (by kernel_rfl) (allocOk_of _ (by kernel_rfl)) ?_
        refine vdq (mone rfl) (vfa rfl) rfl rfl ?_
        refine vdq (mone rfl) (vld1 rfl rfl) rfl rfl ?_
        refine vdq (mone rfl) (vfa rfl) rfl rfl ?_
        refine vdq (mone rfl) (vld1 rfl rfl) rfl rfl ?_
        refine vdq (mone rfl) (vmv rfl) rfl rfl ?_
        refine vdq (mone rfl) (vslcH rfl rfl (by omega) (by omega)) rfl rfl ?_
        refine vdq (mone rfl) (vldn rfl rfl) rfl rfl ?_
        refine vdq (mone rfl) (vfa rfl) rfl rfl ?_
        refine vdq (mone rfl) (vld1 rfl rfl) rfl rfl ?_
        refine vdq (mone rfl) (vmv rfl) rfl rfl ?_
        refine vdq (mone rfl) (vslcLo rfl rfl (by omega) (by omega) (by omega)) rfl rfl ?_
        refine vdq (mone rfl) (vfa rfl) rfl rfl ?_
        refine vdsd (mone rfl) (vappL (enc := clSg) (l := s.sg.take a.toNat) (n := 0) (m := a.toNat) (size := 5) (bytes := 48) (xs := []) (B := []) (H0 := H) (fun X => X ++ H) (fun X => .refl _) rfl rfl OwnS.nil (SlO.tk hsc.sg a.toNat) (by rw [List.length_take]; omega) clSg_len (by decide) (one1 (enc := clSg) (fun _ => rfl) _) (by simp only [maxLen]; omega) (by omega)) rfl rfl ?_
        rintro _ _ ⟨D1, hP1, rfl⟩
        obtain ⟨p1, q1, rfl, _⟩ := hP1.shape
        refine vdm (mone rfl) (vbsP rfl rfl rfl rfl rfl rfl) rfl rfl (fun n5 => ?_)
        refine vdsd (mone rfl) (vappF (a := ⟨n5, 0, Option.none⟩) (m := 1) (c := 1) (size := 5) (bytes := 48) (F := fun X => (n5, blk (clSg x) 49) :: (X ++ H)) (H0 := (n5, blk (clSg x) 49) :: H) (B := D1) (xs := [] ++ (s.sg.take a.toNat).flatMap clSg) (news := clSg x) (fun X => perm_mid [(n5, blk (clSg x) 49)] X H) rfl rfl hP1 rfl (news_blk (b := n5) (List.Mem.head _)) (one1 (enc := clSg) (fun _ => rfl) [x] _ (by simp)) (by omega) (by simp only [maxLen]; omega) (by omega)) rfl rfl ?_
        rintro _ _ ⟨D2, hP2, _, rfl⟩
        obtain ⟨p2, q2, rfl, _⟩ := hP2.shape
        refine vdsd (mone rfl) (vappL (enc := clSg) (l := s.sg.drop a.toNat) (m := s.sg.length - a.toNat) (size := 5) (bytes := 48) (xs := [] ++ (s.sg.take a.toNat).flatMap clSg ++ clSg x) (B := D2) (H0 := (n5, blk (clSg x) 49) :: H) (fun X => (n5, blk (clSg x) 49) :: (X ++ H)) (fun X => perm_mid [(n5, blk (clSg x) 49)] X H) rfl rfl hP2 ((SlO.dr hsc.sg hc5 a.toNat).sub (fun e he => List.mem_cons_of_mem _ (List.mem_append_right _ he))) (List.length_drop) clSg_len (by decide) (one1 (enc := clSg) (fun _ => rfl) _) (by simp only [maxLen]; omega) (by omega)) rfl rfl ?_
        rintro _ _ ⟨D3, hP3, rfl⟩
        obtain ⟨p3, q3, rfl, _⟩ := hP3.shape
        refine vdcs (mone rfl) (vst1 rfl rfl rfl rfl) rfl ?_
        refine vdend (appHO_of _ _) ?_
        refine vseq ?_
        refine VRun.perm (H' := (b4, blk [.slice h.a1 s.ship.length h.c1, .slice h.a2 s.src.length h.c2, .slice h.a3 s.eyes.length h.c3, .slice h.a4 s.ears.length h.c4, .slice p3 (0 + a.toNat + 1 + (s.sg.length - a.toNat)) q3] 33) :: (n5, blk (clSg x) 49) :: (D3 ++ (BT ++ ((b3, blk (clSg x) 49) :: (b2, blk (clSc h s) 33) :: (b1, blk (clWn w) 23) :: H)))) (pmN2 [(n5, blk (clSg x) 49)] D3 H [(b4, blk [.slice h.a1 s.ship.length h.c1, .slice h.a2 s.src.length h.c2, .slice h.a3 s.eyes.length h.c3, .slice h.a4 s.ears.length h.c4, .slice p3 (0 + a.toNat + 1 + (s.sg.length - a.toNat)) q3] 33)] BT [(b3, blk (clSg x) 49), (b2, blk (clSc h s) 33), (b1, blk (clWn w) 23)]) ?_
        haveI hscM : ScO (D3 ++ (BT ++ ((b3, blk (clSg x) 49) :: (b2, blk (clSc h s) 33) :: (b1, blk (clWn w) 23) :: H))) (shM h p3 q3) (moreS s a.toNat x) := more_sc inferInstance hx2 h32 (by omega) (by rw [show (moreS s a.toNat x).sg.flatMap clSg = [] ++ (s.sg.take a.toNat).flatMap clSg ++ clSg x ++ (s.sg.drop a.toNat).flatMap clSg from by simp [moreS]]; exact hP3) (moreS_len (by omega))
        refine vregion ?_
        refine vone rfl (vxq (vldn rfl rfl) rfl rfl ?_)
        refine vone rfl (vxq (vldn rfl rfl) rfl rfl ?_)
        refine vone rfl (vxq (vfa rfl) rfl rfl ?_)
        refine vone rfl (vxq (vld1 rfl rfl) rfl rfl ?_)
        refine vone rfl (vxg (vcg rfl rfl rfl (d_TrackM w (shM h p3 q3) (moreS s a.toNat x) x.nm (moreS_len (by omega))) (fun o H' h => h)) rfl rfl ?_)
        rintro _ _ ⟨B2, rfl, ⟨oa3, c3, oa4, c4, rfl, hk3, hk4⟩⟩
        refine vone rfl (vxq (vmv rfl) rfl rfl ?_)
        refine vone rfl (vxq (vex rfl rfl) rfl rfl ?_)
        refine vone rfl (vxq (vex rfl rfl) rfl rfl ?_)
        refine vone rfl (vxq (vex rfl rfl) rfl rfl ?_)
        refine vone rfl (vxq (vas rfl) rfl rfl ?_)
        refine vone rfl (vxq (vas rfl) rfl rfl ?_)
        refine vone rfl (vxq (vas rfl) rfl rfl ?_)
        refine vnil ?_
        refine vseq ?_
        refine vseq ?_
        refine vregion ?_
        refine vone rfl (vxq (vmv rfl) rfl rfl ?_)
        refine vone rfl (vxq (vneq rfl rfl) rfl rfl ?_)
        refine vnil ?_
        refine vcondd rfl (fun h88 => ?_) (fun h88 => ?_)
        · skip
          refine vseq ?_
          refine vregion ?_
          refine vone rfl (vxq (vmv rfl) rfl rfl ?_)
          refine vone rfl (vxq (veql rfl rfl) rfl rfl ?_)
          refine vone rfl (vxq (vmv rfl) rfl rfl ?_)
          refine vsplitd (d := 91) rfl (fun h91 => ?_) (fun h91 => ?_)
          · skip
            refine vno rfl rfl rfl rfl rfl ?_
            refine vno rfl rfl rfl rfl rfl ?_
            refine vone rfl (vxq (vpkt rfl rfl) rfl rfl ?_)
            refine vone rfl (vxq (vmv rfl) rfl rfl ?_)
            refine vyes rfl rfl rfl (vxq (vcq rfl rfl rfl (c_works _)) rfl rfl ?_)
            refine vknow (d := 96) (b' := true) rfl rfl ?_
            refine vone rfl (vxq (vpkt rfl rfl) rfl rfl ?_)
            refine vone rfl (vxq (vas rfl) rfl rfl ?_)
            refine vnil ?_
            refine vret (vr1 (H' := H) Tryd.func7 rfl (.tmp rfl) sb2 ?_)
            exact ⟨rfl, rfl⟩
          · skip
            refine vyes rfl rfl rfl (vxq (vmv rfl) rfl rfl ?_)
            refine vyes rfl rfl rfl (vxq (veql rfl rfl) rfl rfl ?_)
            refine vknow (d := 93) (b' := true) rfl (decide_eq_true ((more_codes hw h88).resolve_left h91)) ?_
            refine vone rfl (vxq (vpkf rfl rfl) rfl rfl ?_)
            refine vone rfl (vxq (vmv rfl) rfl rfl ?_)
            refine vyes rfl rfl rfl (vxq (vcq rfl rfl rfl (c_works _)) rfl rfl ?_)
            refine vknow (d := 96) (b' := true) rfl rfl ?_
            refine vone rfl (vxq (vpkt rfl rfl) rfl rfl ?_)
            refine vone rfl (vxq (vas rfl) rfl rfl ?_)
            refine vnil ?_
            refine vret (vr1 (H' := H) Tryd.func7 rfl (.tmp rfl) sb2 ?_)
            exact ⟨rfl, rfl⟩
        · skip
          have hT1 := Classical.not_not.1 h88
          obtain ⟨m, r, hsi, hkn, hme, hmb⟩ := more_near hT0 (a := a.toNat) (by omega) hC59 ⟨hxb.1, by omega⟩ hT1
          obtain ⟨_, hs1, _, htr1⟩ := track_cases hT1
          have ht3 : (trackE w (moreS s a.toNat x) x.nm).1.length = s.ship.length := by rw [htr1]; exact knL_len _ _ _ _
          have ht4 : (trackE w (moreS s a.toNat x) x.nm).2.1.length = s.ship.length := by rw [htr1]; exact whL_len _ _ _ _
          have hlt : x.st.toNat < s.ship.length := by omega
          have hkt : (trackE w (moreS s a.toNat x) x.nm).1[x.st.toNat]? = some true := by rw [htr1]; show (knL w (moreS s a.toNat x) x.nm s.ship.length)[x.st.toNat]? = some true; rw [kn_at hlt, hkn]; rfl
          have hnt : (trackE w (moreS s a.toNat x) x.nm).2.1[x.st.toNat]? = some m := by rw [htr1]; show (whL w (moreS s a.toNat x) x.nm s.ship.length)[x.st.toNat]? = some m; rw [wh_at hlt, hkn]; rfl
          have hkk : (trackE w s x.nm).1[x.st.toNat]? = some (knAt w s x.nm (x.st.toNat + 1)).isSome := by rw [htr]; exact kn_at hlt
          have hll : (trackE w s x.nm).2.1[x.st.toNat]? = some ((knAt w s x.nm (x.st.toNat + 1)).getD (zR, 0)).1 := by rw [htr]; exact wh_at hlt
          refine vskip ?_
          refine vseq ?_
          refine vregion ?_
          refine vone rfl (vxq (vldn rfl rfl) rfl rfl ?_)
          refine vone rfl (vxq (vmv rfl) rfl rfl ?_)
          refine vone rfl (vxq (vcq rfl rfl rfl (c_SightedM (shM h p3 q3) (moreS s a.toNat x) (moreS_len (by omega)) (j := a.toNat) (by omega) hsi)) rfl rfl ?_)
          refine vone rfl (vxq (vmv rfl) rfl rfl ?_)
          refine vone rfl (vxq (vex rfl rfl) rfl rfl ?_)
          refine vone rfl (vxq (vex rfl rfl) rfl rfl ?_)
          refine vone rfl (vxa valloc rfl rfl (fun b5 => ?_))
          refine vone rfl (vxs (vstn rfl rfl rfl rfl rfl) rfl ?_)
          refine vone rfl (vxq (vas rfl) rfl rfl ?_)
          refine vnil ?_
          refine vseq ?_
          refine vseq ?_
          refine vregion ?_
          refine vone rfl (vxq (vmv rfl) rfl rfl ?_)
          refine vone rfl (vxq (vneq rfl rfl) rfl rfl ?_)
          refine vknow (d := 105) (b' := false) rfl (decide_eq_false (fun e => e (rfl))) ?_
          refine vone rfl (vxq (vmv rfl) rfl rfl ?_)
          refine vyes rfl rfl rfl (vxq (vmv rfl) rfl rfl ?_)
          refine vyes rfl rfl rfl (vxq (vlen rfl) rfl rfl ?_)
          refine vyes rfl rfl rfl (vxq (vfa rfl) rfl rfl ?_)
          refine vyes rfl rfl rfl (vxq (vld1 rfl rfl) rfl rfl ?_)
          refine vyes rfl rfl rfl (vxq (vlen rfl) rfl rfl ?_)
          refine vyes rfl rfl rfl (vxq (vneq rfl rfl) rfl rfl ?_)
          refine vknow (d := 112) (b' := false) rfl (decide_eq_false (fun e => e (by rw [ht1]))) ?_
          refine vone rfl (vxq (vpkf rfl rfl) rfl rfl ?_)
          refine vone rfl (vxq (vmv rfl) rfl rfl ?_)
          refine vyes rfl rfl rfl (vxq (vmv rfl) rfl rfl ?_)
          refine vyes rfl rfl rfl (vxq (vlen rfl) rfl rfl ?_)
          refine vyes rfl rfl rfl (vxq (vmv rfl) rfl rfl ?_)
          refine vyes rfl rfl rfl (vxq (vlen rfl) rfl rfl ?_)
          refine vyes rfl rfl rfl (vxq (vneq rfl rfl) rfl rfl ?_)
          refine vknow (d := 119) (b' := false) rfl (decide_eq_false (fun e => e (by rw [ht1, ht2]))) ?_
          refine vone rfl (vxq (vpkf rfl rfl) rfl rfl ?_)
          refine vone rfl (vxq (vmv rfl) rfl rfl ?_)
          refine vyes rfl rfl rfl (vxq (vmv rfl) rfl rfl ?_)
          refine vyes rfl rfl rfl (vxq (vlen rfl) rfl rfl ?_)
          refine vyes rfl rfl rfl (vxq (vmv rfl) rfl rfl ?_)
          refine vyes rfl rfl rfl (vxq (vlen rfl) rfl rfl ?_)
          refine vyes rfl rfl rfl (vxq (vneq rfl rfl) rfl rfl ?_)
          refine vknow (d := 126) (b' := false) rfl (decide_eq_false (fun e => e (by rw [ht1, ht3]))) ?_
          refine vone rfl (vxq (vpkf rfl rfl) rfl rfl ?_)
          refine vone rfl (vxq (vmv rfl) rfl rfl ?_)
          refine vyes rfl rfl rfl (vxq (vmv rfl) rfl rfl ?_)
          refine vyes rfl rfl rfl (vxq (vlen rfl) rfl rfl ?_)
          refine vyes rfl rfl rfl (vxq (vmv rfl) rfl rfl ?_)
          refine vyes rfl rfl rfl (vxq (vlen rfl) rfl rfl ?_)
          refine vyes rfl rfl rfl (vxq (vneq rfl rfl) rfl rfl ?_)
          refine vknow (d := 133) (b' := false) rfl (decide_eq_false (fun e => e (by rw [ht1, ht4]))) ?_
          refine vone rfl (vxq (vpkf rfl rfl) rfl rfl ?_)
          refine vone rfl (vxq (vmv rfl) rfl rfl ?_)
          refine vyes rfl rfl rfl (vxq (vmv rfl) rfl rfl ?_)
          refine vyes rfl rfl rfl (vxq (vfa rfl) rfl rfl ?_)
          refine vyes rfl rfl rfl (vxq (vld1 rfl rfl) rfl rfl ?_)
          refine vyes rfl rfl rfl (vxq (visg (enc := encB) rfl rfl (by omega) hkt) rfl rfl ?_)
          refine vyes rfl rfl rfl (vxq (vldS1 (enc := encB) rfl hkt rfl) rfl rfl ?_)
          refine vknow (d := 140) (b' := true) rfl rfl ?_
          refine vyes rfl rfl rfl (vxq (vnot rfl) rfl rfl ?_)
          refine vone rfl (vxq (vpkf rfl rfl) rfl rfl ?_)
          refine vnil ?_
          refine vcondf rfl ?_
          refine vskip ?_
          refine vseq ?_
          refine vseq ?_
          refine vdraw [(.q, 0), (.q, 1), (.q, 2), (.q, 3), (.q, 4), (.q, 5), (.q, 6), (.q, 7), (.q, 8), (.q, 9), (.a (blk [.int .i64 0, .int .i64 0, .int .i64 0, .int .i64 0, .int .i64 0, .int .i64 0, .int .i64 0, .int .i64 0] 55), 10), (.s, 11), (.q, 12)] Tryd.mixed (by kernel_rfl) ⟨⟨_, _, _, _, _, rfl, _, inferInstance, rfl⟩, True.intro⟩ ?_
          refine vdq (mone rfl) (vmv rfl) rfl rfl ?_
          refine vdq (mone rfl) (vfa rfl) rfl rfl ?_
          refine vdq (mone rfl) (vld1 rfl rfl) rfl rfl ?_
          refine vdq (mone rfl) (visg (enc := clR) rfl rfl (by omega) hnt) rfl rfl ?_
          refine vdq (mone rfl) (vldS (enc := clR) rfl hnt) rfl rfl ?_
          refine vdq (mone rfl) (vldn rfl rfl) rfl rfl ?_
          refine vdq (mone rfl) (vcp rfl rfl rfl (c_MeetY hme)) rfl rfl ?_
          refine vdq (mone rfl) (vmv rfl) rfl rfl ?_
          refine vdq (mone rfl) (vex rfl rfl) rfl rfl ?_
          refine vdq (mone rfl) (vex rfl rfl) rfl rfl ?_
          refine vda rfl rfl (fun b6 => ?_)
          refine vds (mone rfl) (vstn rfl rfl rfl rfl rfl) rfl ?_
          refine vdq (mone rfl) (vas rfl) rfl rfl ?_
          refine vdend rfl ?_
          refine vseq ?_
          refine vdraw0 [(.q, 0), (.q, 1), (.q, 2), (.q, 3), (.q, 4), (.q, 5), (.q, 6), (.q, 7), (.q, 8), (.q, 9), (.q, 10)] Tryd.mixed (by kernel_rfl) (by kernel_rfl) ?_
          refine vdq (mone rfl) (vmv rfl) rfl rfl ?_
          refine vdq (mone rfl) (vneq rfl rfl) rfl rfl ?_
          refine vdknow (d := 154) (b' := false) rfl (decide_eq_false (fun e => e (rfl))) ?_
          refine vdq (mone rfl) (vmv rfl) rfl rfl ?_
          refine vdq (myes rfl rfl rfl) (vldn rfl rfl) rfl rfl ?_
          refine vdq (myes rfl rfl rfl) (vmv rfl) rfl rfl ?_
          refine vdq (myes rfl rfl rfl) (vfa rfl) rfl rfl ?_
          refine vdq (myes rfl rfl rfl) (vld1 rfl rfl) rfl rfl ?_
          refine vdq (myes rfl rfl rfl) (visg (enc := clR) rfl rfl (by omega) hnt) rfl rfl ?_
          refine vdq (myes rfl rfl rfl) (vldS (enc := clR) rfl hnt) rfl rfl ?_
          refine vdq (myes rfl rfl rfl) (vnes rfl rfl rfl rfl rfl rfl) rfl rfl ?_
          refine vdknow (d := 162) (b' := false) rfl (decide_eq_false (fun h => h rfl)) ?_
          refine vdq (mone rfl) (vpkf rfl rfl) rfl rfl ?_
          refine vdend rfl ?_
          refine vcondf rfl ?_
          refine vskip ?_
          refine vseq ?_
          refine vseq ?_
          refine vregion ?_
          refine vone rfl (vxq (vmv rfl) rfl rfl ?_)
          refine vone rfl (vxq (vfa rfl) rfl rfl ?_)
          refine vone rfl (vxq (vld1 rfl rfl) rfl rfl ?_)
          refine vone rfl (vxq (visg (enc := encB) rfl rfl (by omega) hkk) rfl rfl ?_)
          refine vone rfl (vxq (vldS1 (enc := encB) rfl hkk rfl) rfl rfl ?_)
          refine vnil ?_
          refine vcond rfl (fun h168 => ?_) (fun h168 => ?_)
          · skip
            obtain ⟨b, hb⟩ := Option.isSome_iff_exists.1 h168
            rw [hb] at hll
            have hmb2 : meetE m (((some b : Kn).getD (zR, 0)).1) = (m, 0) := hmb b hb
            refine vseq ?_
            refine vdraw [(.q, 0), (.q, 1), (.q, 2), (.q, 3), (.q, 4), (.q, 5), (.q, 6), (.q, 7), (.q, 8), (.q, 9), (.q, 10), (.q, 11), (.q, 12), (.q, 13), (.a (blk [.int .i64 0, .int .i64 0, .int .i64 0, .int .i64 0, .int .i64 0, .int .i64 0, .int .i64 0, .int .i64 0] 55), 14), (.s, 15), (.q, 16)] Tryd.mixed (by kernel_rfl) ⟨⟨_, _, _, _, _, rfl, _, inferInstance, rfl⟩, True.intro⟩ ?_
            refine vdq (mone rfl) (vmv rfl) rfl rfl ?_
            refine vdq (mone rfl) (vfa rfl) rfl rfl ?_
            refine vdq (mone rfl) (vld1 rfl rfl) rfl rfl ?_
            refine vdq (mone rfl) (visg (enc := clR) rfl rfl (by omega) hnt) rfl rfl ?_
            refine vdq (mone rfl) (vldS (enc := clR) rfl hnt) rfl rfl ?_
            refine vdq (mone rfl) (vmv rfl) rfl rfl ?_
            refine vdq (mone rfl) (vfa rfl) rfl rfl ?_
            refine vdq (mone rfl) (vld1 rfl rfl) rfl rfl ?_
            refine vdq (mone rfl) (visg (enc := clR) rfl rfl (by omega) hll) rfl rfl ?_
            refine vdq (mone rfl) (vldS (enc := clR) rfl hll) rfl rfl ?_
            refine vdq (mone rfl) (vcp rfl rfl rfl (c_MeetY hmb2)) rfl rfl ?_
            refine vdq (mone rfl) (vmv rfl) rfl rfl ?_
            refine vdq (mone rfl) (vex rfl rfl) rfl rfl ?_
            refine vdq (mone rfl) (vex rfl rfl) rfl rfl ?_
            refine vda rfl rfl (fun b7 => ?_)
            refine vds (mone rfl) (vstn rfl rfl rfl rfl rfl) rfl ?_
            refine vdq (mone rfl) (vas rfl) rfl rfl ?_
            refine vdend rfl ?_
            refine vseq ?_
            refine vdraw0 [(.q, 0), (.q, 1), (.q, 2), (.q, 3), (.q, 4), (.q, 5), (.q, 6), (.q, 7), (.q, 8), (.q, 9), (.q, 10)] Tryd.mixed (by kernel_rfl) (by kernel_rfl) ?_
            refine vdq (mone rfl) (vmv rfl) rfl rfl ?_
            refine vdq (mone rfl) (vneq rfl rfl) rfl rfl ?_
            refine vdknow (d := 184) (b' := false) rfl (decide_eq_false (fun e => e (rfl))) ?_
            refine vdq (mone rfl) (vmv rfl) rfl rfl ?_
            refine vdq (myes rfl rfl rfl) (vldn rfl rfl) rfl rfl ?_
            refine vdq (myes rfl rfl rfl) (vmv rfl) rfl rfl ?_
            refine vdq (myes rfl rfl rfl) (vfa rfl) rfl rfl ?_
            refine vdq (myes rfl rfl rfl) (vld1 rfl rfl) rfl rfl ?_
            refine vdq (myes rfl rfl rfl) (visg (enc := clR) rfl rfl (by omega) hnt) rfl rfl ?_
            refine vdq (myes rfl rfl rfl) (vldS (enc := clR) rfl hnt) rfl rfl ?_
            refine vdq (myes rfl rfl rfl) (vnes rfl rfl rfl rfl rfl rfl) rfl rfl ?_
            refine vdknow (d := 192) (b' := false) rfl (decide_eq_false (fun h => h rfl)) ?_
            refine vdq (mone rfl) (vpkf rfl rfl) rfl rfl ?_
            refine vdend rfl ?_
            refine vcondf rfl ?_
            refine vskip ?_
            refine vseq ?_
            refine vregion ?_
            refine vone rfl (vxq (vcq rfl rfl rfl (c_works _)) rfl rfl ?_)
            refine vknow (d := 194) (b' := true) rfl rfl ?_
            refine vone rfl (vxq (vas rfl) rfl rfl ?_)
            refine vnil ?_
            refine vret (vr1 (H' := H) Tryd.func7 rfl (.tmp rfl) sb2 ?_)
            exact ⟨rfl, rfl⟩
          · skip
            refine vskip ?_
            refine vseq ?_
            refine vregion ?_
            refine vone rfl (vxq (vcq rfl rfl rfl (c_works _)) rfl rfl ?_)
            refine vknow (d := 194) (b' := true) rfl rfl ?_
            refine vone rfl (vxq (vas rfl) rfl rfl ?_)
            refine vnil ?_
            refine vret (vr1 (H' := H) Tryd.func7 rfl (.tmp rfl) sb2 ?_)
            exact ⟨rfl, rfl⟩
end Go.Proofs.YtaplkoimhecacaaDoor
