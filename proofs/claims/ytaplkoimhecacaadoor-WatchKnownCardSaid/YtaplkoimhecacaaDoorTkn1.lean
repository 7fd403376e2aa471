/-
  What the base lacks. Walks of the laws' own small functions: full, led. Walks of the laws' helpers: Rest, Pick, square, swum. The walk of WatchNearer. What single scenes come to, in plain Lean. The walk of WatchKnown.
-/
import Derived.Test.YtaplkoimhecacaaDoorB01
import Derived.Test.YtaplkoimhecacaaDoorB02
import Derived.Test.YtaplkoimhecacaaDoorB03
import Derived.Test.YtaplkoimhecacaaDoorB04
import Derived.Test.YtaplkoimhecacaaDoorB05
import Derived.Test.YtaplkoimhecacaaDoorB06
import Derived.Test.YtaplkoimhecacaaDoorB07
import Derived.Test.YtaplkoimhecacaaDoorB08
import Derived.Test.YtaplkoimhecacaaDoorB09
import Derived.Test.YtaplkoimhecacaaDoorB10
import Derived.Test.YtaplkoimhecacaaDoorB11
import Derived.Test.YtaplkoimhecacaaDoorB12
import Derived.Test.YtaplkoimhecacaaDoorB13
import Derived.Test.YtaplkoimhecacaaDoorB14
import Derived.Test.YtaplkoimhecacaaDoorB15
import Derived.Test.YtaplkoimhecacaaDoorB16
import Derived.Test.YtaplkoimhecacaaDoorB17
import Derived.Test.YtaplkoimhecacaaDoorB18
import Derived.Test.YtaplkoimhecacaaDoorB19
import Derived.Test.YtaplkoimhecacaaDoorB20
namespace Go.Proofs.YtaplkoimhecacaaDoor
open Go
set_option maxRecDepth 100000
section
open Go
/-- The search backwards for a whole soft start. -/
def ledN (w : Wn) (ms : List Int) (k : Nat) : Nat → Int → Int → Bool
  | 0, _, _ => false
  | i + 1, want, silent =>
    if mdAt ms i = 0 ∧ want = w.soft + 1 ∧ silent < w.pause ∧ i < k then ledN w ms k i want (silent + 1)
    else if mdAt ms i = w.soft + 1 ∧ want = w.soft + 1 then ledN w ms k i want 0
    else if mdAt ms i = w.soft ∧ want = w.soft + 1 ∧ silent = 0 then (if w.soft = 1 then true else ledN w ms k i (w.soft - 1) silent)
    else if mdAt ms i = want ∧ want ≤ w.soft then (if want = 1 then true else ledN w ms k i (want - 1) silent)
    else false
end
section
open Go
open Go.ChangeShapes Go.WideShapes Go.ChangeAt Go.RowKit

variable {HH : Type} (enc : TypeId × Value → HH) (P : Program) (W : World)

variable {enc P W}
theorem allH_emb (W : World) : Emb (allH W) W := by
  refine ⟨?_, fun e he => ?_⟩
  · have : (allH W).map Prod.fst = List.range W.heap.size := by
      unfold allH
      rw [List.map_map]
      have : (Prod.fst ∘ fun p : Obj × Nat => (p.2, p.1)) = Prod.snd := rfl
      rw [this, List.zipIdx_map_snd, List.range_eq_range']
      simp
    rw [this]; exact List.nodup_range
  · exact allH_mem.1 he

/-- A contract at all blocks, in the library's form. -/
theorem calls_of {P : Program} {k : FuncId} {args : Array Value} {W : World} {v : Value} (h : VCall P k args (allH W) (fun o H' => o = .val v ∧ ∃ B, H' = B ++ allH W)) :
    Calls P k args W (fun e w' => e = .returned v ∧ Below W.heap.size W w') := by
  intro cs
  obtain ⟨o, w', m', H', ⟨rfl, B, rfl⟩, hF, hs, _, fr', rfl, h1, h2⟩ := h W cs (allH_emb W)
  refine ⟨.returned v, w', fr', ⟨rfl, hF.os, hF.tape, hF.output, hF.size, fun i hi => ?_⟩, hs, h1, h2⟩
  have hg : W.heap[i]? = some W.heap[i] := Array.getElem?_eq_getElem hi
  rw [hg]
  exact hF.emb.at_ (i, W.heap[i]) (List.mem_append_right _ (allH_mem.2 hg))

end
end Go.Proofs.YtaplkoimhecacaaDoor
namespace Go.Proofs.YtaplkoimhecacaaDoor
open Go
set_option maxRecDepth 100000

attribute [local irreducible] tightP hullP rootP farP rows endsOf
section
variable {P : Program} {f : FuncId} {ro : Option Nat} {N : Nat} {k k' : List Item} {E E' : Env} {D : List Deferred} {H H' : Heap} {Q : Out → Heap → Prop}
end
/-- What the search backwards keeps. -/
structure LdI (w : Wn) (ms : List Int) (k zk : Int) (i want silent : Int) : Prop where
  ib : -1 ≤ i ∧ i ≤ k
  wtb : -1 ≤ want ∧ want ≤ w.soft + 1
  slb : 0 ≤ silent ∧ silent ≤ w.pause
  eb : ledN w ms k.toNat (i + 1).toNat want silent = ledN w ms k.toNat (k.toNat + 1) zk 0
end Go.Proofs.YtaplkoimhecacaaDoor
namespace Go.Proofs.YtaplkoimhecacaaDoor
open Go
set_option maxRecDepth 100000

attribute [local irreducible] tightP hullP rootP farP rows endsOf
end Go.Proofs.YtaplkoimhecacaaDoor
namespace Go.Proofs.YtaplkoimhecacaaDoor
open Go
set_option maxRecDepth 100000

attribute [local irreducible] tightP hullP rootP farP rows endsOf restP meetE
section
variable {P : Program} {N : Nat} {E : Env} {D : List Deferred} {H : Heap} {d : Nat} {x y : Operand} {T ty : TypeId} {pos : String} {af : Array Edge} {g : Option (Nat × Bool)}
end
section
end
end Go.Proofs.YtaplkoimhecacaaDoor
namespace Go.Proofs.YtaplkoimhecacaaDoor
open Go
set_option maxRecDepth 100000

def bobB : ByteArray := ByteArray.mk #[98, 111, 98]
def badW : Wn := { numW with soft := 0 }
def stillW : Wn := { numW with speed := 0 }
def sc1 (x : Sg) : Sc := { scP 8 with sg := [x] }
def sc2 (x y : Sg) : Sc := { scP 8 with sg := [x, y] }
def sc0 : Sc := ⟨[], [], [], [], []⟩
def lateS : Sg := ⟨8, annB, 0, 6, 10⟩
def deafS : Sg := ⟨0, annB, -1, 6, 10⟩
def farS : Sg := ⟨0, annB, 0, 6, 257⟩
def twiS : Sg := ⟨1, annB, 4, 6, 10⟩
def twoS : Sg := ⟨1, bobB, 4, 6, 10⟩
theorem ek_bad : chkW badW = 60 := chkW_f (by unfold okW badW numW; decide)
theorem ek_not {s : Sc} {x : Sg} (hx : x ∈ s.sg) (h : ¬ okSg s x) : chkS s = 61 := chkS_f (fun hs => h (hs.2.2.2.2.2.2.2.1 x hx))
theorem ek_late : chkS (sc1 lateS) = 61 := ek_not (List.mem_singleton.2 rfl) (fun h => by have := h.1.2; revert this; decide)
theorem ek_deaf : chkS (sc1 deafS) = 61 := ek_not (List.mem_singleton.2 rfl) (fun h => by
  rcases h.2.2.2 with ⟨h1, _⟩ | ⟨_, h2⟩
  · exact absurd h1.1 (by decide)
  · exact absurd h2 (by decide))
theorem ek_far : chkS (sc1 farS) = 61 := ek_not (List.mem_singleton.2 rfl) (fun h => absurd h.2.2.1.2.2 (by decide))
theorem ek_0 : chkS sc0 = 61 := chkS_f (fun h => absurd h.1.1 (by decide))
theorem ek_sight : sightedE (scP 8) 1 = (zR, 7) := sightedE_7 (by rw [chkS_scP]; simp) (by decide)
theorem ek_bob : trackE numW (scP 8) bobB = ([], [], 4) := track_4 both_num (by kernel_rfl)
theorem name_bob : nameP bobB := by
  refine ⟨by decide, fun j hj => ?_⟩
  have hj : j < 3 := hj
  have : j = 0 ∨ j = 1 ∨ j = 2 := by omega
  rcases this with rfl | rfl | rfl <;> exact .inl (by unfold letP; decide)
theorem ek_ok2 {y : Sg} (hy : okSg (scP 8) y) (h0 : 0 ≤ y.st) : okSc (sc2 annS y) := by
  obtain ⟨a1, a2, a3, a4, a5, a6, a7, a8, a9⟩ := okSc_scP (n := 8) (by omega)
  refine ⟨a1, a2, a3, a4, by simp [sc2], a6, a7, fun x hx => ?_, fun i x z hx hz => ?_⟩
  · rcases List.mem_cons.1 hx with rfl | hx
    · exact a8 _ (List.mem_singleton.2 rfl)
    · rw [List.mem_singleton.1 hx]; exact hy
  · rcases i with _ | i
    · cases hx; cases hz; exact h0
    · simp [sc2] at hz
theorem ek_twi : okSg (scP 8) twiS := ⟨by decide, name_ann, by decide, .inl ⟨by decide, by decide⟩⟩
theorem ek_two : okSg (scP 8) twoS := ⟨by decide, name_bob, by decide, .inl ⟨by decide, by decide⟩⟩
theorem ek_track2 : trackE numW (sc2 annS twiS) annB = ([], [], 62) := track_n (both_z okW_num (ek_ok2 ek_twi (by decide))) (by rw [show (ofS (sc2 annS twiS) annB).sg.length = 2 by kernel_rfl]; decide) (by kernel_rfl)
theorem ek_dang2 : dangerE numW (sc2 annS twiS) = ([], 62) := danger_n (both_z okW_num (ek_ok2 ek_twi (by decide))) (by kernel_rfl)
theorem ek_dang3 : dangerE numW (sc2 annS twoS) = ([false, true, true, true, true, false, false, false], 0) := danger_y (both_z okW_num (ek_ok2 ek_two (by decide))) (by kernel_rfl)
theorem ek_j1 : judgeE numW (scP 8) [0, 1, 2, 3, 3, 3, 3, 3] = (1, 1, 0) := by
  refine judge_y both_num (by decide) ev_dang0 ?_
  rw [ev_danger]
  show judgeF gNum 0 sta0 [0, 1, 2, 3, 3, 3, 3, 3] = _
  kernel_rfl
theorem ek_j2 : judgeE numW (scP 8) [0, 0, 0, 0, 0, 1, 3, 3] = (6, 4, 0) := by
  refine judge_y both_num (by decide) ev_dang0 ?_
  rw [ev_danger]
  show judgeF gNum 0 sta0 [0, 0, 0, 0, 0, 1, 3, 3] = _
  kernel_rfl
theorem ek_j3 : judgeE numW (scP 8) [0, 0, 0, 0, 0, 1, 2, 4] = (0, 0, 63) := judge_m both_num (by decide)
theorem ek_both12 : ¬ bothE numW (chkS (scP 12)) ≠ 0 := both_z okW_num (okSc_scP (by omega))
theorem ek_dang12 : dangerE numW (scP 12) = ([false, true, true, true, false, false, false, false, false, false, false, false], 0) := danger_y ek_both12 (by kernel_rfl)
theorem ek_d12 : ¬ (dangerE numW (scP 12)).2 ≠ 0 := by rw [ek_dang12]; simp
def gNum12 : Lg := ⟨numW, scP 12, [false, true, true, true, false, false, false, false, false, false, false, false]⟩
theorem ek_j4 : judgeE numW (scP 12) [0, 0, 0, 0, 0, 1, 2, 3, 0, 3, 0, 0] = (12, 0, 0) := by
  refine judge_y ek_both12 (by decide) ek_d12 ?_
  rw [ek_dang12]
  show judgeF gNum12 0 sta0 [0, 0, 0, 0, 0, 1, 2, 3, 0, 3, 0, 0] = _
  kernel_rfl
theorem ek_j5 : judgeE numW (scP 12) [0, 0, 0, 0, 0, 1, 2, 3, 0, 0, 3, 0] = (10, 4, 0) := by
  refine judge_y ek_both12 (by decide) ek_d12 ?_
  rw [ek_dang12]
  show judgeF gNum12 0 sta0 [0, 0, 0, 0, 0, 1, 2, 3, 0, 0, 3, 0] = _
  kernel_rfl
theorem ek_g1 : guardE numW 5 0 = (0, 4) := by kernel_rfl
theorem ek_g2 : guardE numW 20 1001 = (0, 7) := by kernel_rfl
theorem ek_g3 : guardE stillW 20 0 = (1000, 0) := by kernel_rfl

end Go.Proofs.YtaplkoimhecacaaDoor
namespace Go.Proofs.YtaplkoimhecacaaDoor
open Go
set_option maxRecDepth 100000

attribute [local irreducible] tightP hullP rootP farP rows endsOf
def scR (n : Nat) (H : Heap) (v : Value) (H' : Heap) : Prop := ∃ bs o1 k1 o2 k2 o3 k3 o4 k4 B, v = vSc ⟨o1, k1, o2, k2, o3, k3, o4, k4, some ⟨bs, 0, Option.none⟩, 1⟩ (scP n) ∧ H' = (bs, blk [I 0, .string annB, I 0, I 6, I 10] 49) :: (B ++ H) ∧ SlO B o1 8 clR (scP n).ship ∧ SlO B o2 8 clR (scP n).src ∧ SlO B o3 1 encB (scP n).eyes ∧ SlO B o4 1 encB (scP n).ears ∧ n ≤ k3 ∧ n ≤ k4
theorem d_sceneR (H : Heap) : VCall Tryd.prog 30 [I 8].toArray H (fun o H' => ∃ v, o = .val v ∧ scR 8 H v H') :=
  (d_scene 8 (by omega) H).mono fun o H' ⟨bs, o1, k1, o2, k2, o3, k3, o4, k4, B, h1, h2, h3, h4, h5, h6, h7, h8⟩ => ⟨_, h1, bs, o1, k1, o2, k2, o3, k3, o4, k4, B, rfl, h2, h3, h4, h5, h6, h7, h8⟩
theorem d_scene12 (H : Heap) : VCall Tryd.prog 30 [I 12].toArray H (fun o H' => ∃ v, o = .val v ∧ ∃ B, H' = B ++ H ∧ ∃ h, v = vSc h (scP 12) ∧ ScO B h (scP 12)) := by
  refine (d_scene 12 (by omega) H).mono fun o H' ⟨bs, o1, k1, o2, k2, o3, k3, o4, k4, B, h1, h2, h3, h4, h5, h6, h7, h8⟩ => ⟨_, h1, (bs, blk [I 0, .string annB, I 0, I 6, I 10] 49) :: B, h2, _, rfl, ?_⟩
  have h3 : SlO B o1 8 clR (scP 12).ship := h3
  have h4 : SlO B o2 8 clR (scP 12).src := h4
  have h5 : SlO B o3 1 encB (scP 12).eyes := h5
  have h6 : SlO B o4 1 encB (scP 12).ears := h6
  refine ⟨inferInstance, inferInstance, inferInstance, inferInstance, SlO.flat clSg_len rfl, ⟨h7, h8⟩, fun x hx => ?_, by decide⟩
  rw [List.mem_singleton.1 hx]; decide
theorem slo_pre {H : Heap} {b T : Nat} {cs rest : List Value} {l : List Sg} [h : HAt H b cs T] (hcs : cs = l.flatMap clSg ++ rest) : SlO H (some ⟨b, 0, Option.none⟩) 5 clSg l := by
  subst hcs
  refine ⟨fun i x hx => ⟨clSg_len x, ⟨b, 0, Option.none⟩, _, rfl, h.mem, fun j v hv => ?_⟩⟩
  have hj := (List.getElem?_eq_some_iff.1 hv).1
  have hl := (List.getElem?_eq_some_iff.1 hx).1
  rw [clSg_len x] at hj
  have hf : (l.flatMap clSg)[i * 5 + j]? = some v := by
    have e1 := flat_drop (enc := clSg) clSg_len l i
    have : (l.flatMap clSg)[i * 5 + j]? = ((l.flatMap clSg).drop (i * 5))[j]? := by rw [List.getElem?_drop]
    rw [this, e1, List.drop_eq_getElem_cons hl, List.flatMap_cons, List.getElem?_append_left (by rw [clSg_len]; exact hj)]
    rw [(List.getElem?_eq_some_iff.1 hx).2]; exact hv
  have hlt := (List.getElem?_eq_some_iff.1 hf).1
  have hg : (l.flatMap clSg ++ rest)[i * 5 + j]? = some v := by rw [List.getElem?_append_left hlt]; exact hf
  rw [show (⟨b, 0, Option.none⟩ : Addr).add (i * 5 + j) = ⟨b, i * 5 + j, Option.none⟩ from by have := atI_blk b (i * 5 + j); unfold atI at this; exact Option.some.inj this]
  simpa [oCell, blk] using hg
section
variable {H : Heap} {o1 : Option Addr} {k1 : Nat} {o2 : Option Addr} {k2 : Nat} {o3 : Option Addr} {k3 : Nat} {o4 : Option Addr} {k4 : Nat} {bs T : Nat} {cs : List Value} [SlO H o1 8 clR (scP 8).ship] [SlO H o2 8 clR (scP 8).src] [SlO H o3 1 encB (scP 8).eyes] [SlO H o4 1 encB (scP 8).ears]
theorem sc1_O (x : Sg) [HAt H bs cs T] (hcs : cs = [x].flatMap clSg) (h3 : 8 ≤ k3) (h4 : 8 ≤ k4) (hn : x.nm.size ≤ 9223372036854775807) : ScO H ⟨o1, k1, o2, k2, o3, k3, o4, k4, some ⟨bs, 0, Option.none⟩, 1⟩ (sc1 x) := by
  have a1 : SlO H o1 8 clR (sc1 x).ship := (inferInstance : SlO H o1 8 clR (scP 8).ship)
  have a2 : SlO H o2 8 clR (sc1 x).src := (inferInstance : SlO H o2 8 clR (scP 8).src)
  have a3 : SlO H o3 1 encB (sc1 x).eyes := (inferInstance : SlO H o3 1 encB (scP 8).eyes)
  have a4 : SlO H o4 1 encB (sc1 x).ears := (inferInstance : SlO H o4 1 encB (scP 8).ears)
  exact ⟨a1, a2, a3, a4, SlO.flat clSg_len hcs, ⟨h3, h4⟩, fun y hy => by rw [List.mem_singleton.1 hy]; exact hn, by show (8 : Nat) ≤ _; decide, by show (8 : Nat) ≤ _; decide, by show (8 : Nat) ≤ _; decide, by show (8 : Nat) ≤ _; decide, by show (1 : Nat) ≤ _; decide⟩
theorem sc2_O (x y : Sg) {rest : List Value} {q : Nat} [HAt H bs cs T] (hcs : cs = [x, y].flatMap clSg ++ rest) (h3 : 8 ≤ k3) (h4 : 8 ≤ k4) (hn : x.nm.size ≤ 9223372036854775807) (hm : y.nm.size ≤ 9223372036854775807) : ScO H ⟨o1, k1, o2, k2, o3, k3, o4, k4, some ⟨bs, 0, Option.none⟩, q⟩ (sc2 x y) := by
  have a1 : SlO H o1 8 clR (sc2 x y).ship := (inferInstance : SlO H o1 8 clR (scP 8).ship)
  have a2 : SlO H o2 8 clR (sc2 x y).src := (inferInstance : SlO H o2 8 clR (scP 8).src)
  have a3 : SlO H o3 1 encB (sc2 x y).eyes := (inferInstance : SlO H o3 1 encB (scP 8).eyes)
  have a4 : SlO H o4 1 encB (sc2 x y).ears := (inferInstance : SlO H o4 1 encB (scP 8).ears)
  refine ⟨a1, a2, a3, a4, slo_pre hcs, ⟨h3, h4⟩, fun z hz => ?_, by show (8 : Nat) ≤ _; decide, by show (8 : Nat) ≤ _; decide, by show (8 : Nat) ≤ _; decide, by show (8 : Nat) ≤ _; decide, by show (2 : Nat) ≤ _; decide⟩
  rcases List.mem_cons.1 hz with rfl | hz
  · exact hn
  · rw [List.mem_singleton.1 hz]; exact hm
end
theorem c_CS0 (H : Heap) : VHas Tryd.prog 32 [.agg [.slice Option.none 0 0, .slice Option.none 0 0, .slice Option.none 0 0, .slice Option.none 0 0, .slice Option.none 0 0].toArray] (I 61) H H := by
  haveI : ScO H ⟨Option.none, 0, Option.none, 0, Option.none, 0, Option.none, 0, Option.none, 0⟩ sc0 := ⟨SlO.nil, SlO.nil, SlO.nil, SlO.nil, SlO.nil, ⟨Nat.le_refl _, Nat.le_refl _⟩, (fun x hx => by cases hx), by decide⟩
  have := c_CheckScene ⟨Option.none, 0, Option.none, 0, Option.none, 0, Option.none, 0, Option.none, 0⟩ sc0 H
  rw [ek_0] at this; exact this
theorem c_CSe {h : SH} {s : Sc} {H : Heap} (hs : ScO H h s) {e : Int} (he : chkS s = e) : VHas Tryd.prog 32 [vSc h s] (I e) H H := by
  have := c_CheckScene h s H
  rw [he] at this; exact this
theorem w_Sight1 (h : SH) (H : Heap) [hsc : ScO H h (scP 8)] [hgl : Glob H] : VHas Tryd.prog 27 [vSc h (scP 8), I 1] (tup [vR zR, I 7]) H H := by
  have := c_Sighted h (scP 8) H 1
  rw [ek_sight] at this; exact this
theorem w_TrackE {w : Wn} {h : SH} {s : Sc} {H : Heap} (hs : ScO H h s) [hgl : Glob H] {nm : ByteArray} {e : Int} (he : trackE w s nm = ([], [], e)) : VCall Tryd.prog 26 [vWn w, vSc h s, .string nm].toArray H (fun o H' => ∃ v, o = .val v ∧ ∃ B, H' = B ++ H ∧ ∃ oa c oc cc, v = tup [.slice oa 0 c, .slice oc 0 cc, I e]) :=
  (d_Track w h s H nm).mono fun o H' ⟨v, h1, B, h2, oa, c, oc, cc, h3, _, _⟩ => ⟨v, h1, B, h2, oa, c, oc, cc, by rw [h3, he]; rfl⟩
theorem w_DangE {w : Wn} {h : SH} {s : Sc} {H : Heap} (hs : ScO H h s) [hgl : Glob H] {l : List Bool} {e : Int} {n : Nat} (he : dangerE w s = (l, e)) (hn : l.length = n) : VCall Tryd.prog 19 [vWn w, vSc h s].toArray H (fun o H' => ∃ v, o = .val v ∧ ∃ B, H' = B ++ H ∧ ∃ oa c, v = tup [.slice oa n c, I e] ∧ SlO B oa 1 encB l) := by
  subst hn
  refine (d_Danger w h s H).mono fun o H' ⟨v, h1, B, h2, oa, c, h3, _, h5⟩ => ⟨v, h1, B, h2, oa, c, by rw [h3, he], ?_⟩
  rw [he] at h5; exact h5
theorem w_JudgeK {h : SH} {m : Nat} {H : Heap} [hsc : ScO H h (scP m)] [hgl : Glob H] {b T : Nat} {cs : List Value} [ht : HAt H b cs T] (l : List Int) {n : Nat} {x y z : Int} (hj : judgeE numW (scP m) l = (x, y, z)) (hcs : cs = l.flatMap encI) (hn : l.length = n) (hm : n ≤ 1000) : VHas Tryd.prog 18 [vWn numW, vSc h (scP m), .slice (some ⟨b, 0, Option.none⟩) n n] (tup [I x, I y, I z]) H H := by
  subst hn
  haveI : SlO H (some ⟨b, 0, Option.none⟩) 1 encI l := SlO.flat encI_len hcs
  have := c_Judge numW h (scP m) H l (some ⟨b, 0, Option.none⟩) l.length (by omega)
  rw [hj] at this; exact this
theorem w_GuardK {w : Wn} {a b x y : Int} (h : guardE w a b = (x, y)) : VPure Tryd.prog 15 [vWn w, I a, I b] (tup [I x, I y]) := by
  have := c_Guard w a b
  rw [h] at this; exact this
theorem own1S {b : Nat} {cs : List Value} (h : cs.length = 5) : OwnS 49 5 (.slice (some ⟨b, 0, Option.none⟩) 1 1) 1 cs [(b, blk cs 49)] := .inr ⟨b, 1, cs, rfl, rfl, Nat.le_refl _, by simp [maxLen], by rw [h], by rw [Nat.one_mul, ← h, List.take_length]⟩
theorem own2S {u : Value} {xs : List Value} {B : Heap} (h : OwnS 49 5 u 2 xs B) : ∃ b c rest, u = .slice (some ⟨b, 0, Option.none⟩) 2 c ∧ B = [(b, blk (xs ++ rest) 49)] := by
  rcases h with ⟨_, h, _⟩ | ⟨b, c, cur, h1, h2, _, _, _, h5⟩
  · cases h
  · exact ⟨b, c, cur.drop (2 * 5), h1, by rw [h2, ← h5, List.take_append_drop]⟩

set_option maxHeartbeats 2000000 in
/-- paravane/paravanelaw06.WatchKnown -/
theorem w_Known (H : Heap) [hgl : Glob H] : VHas Tryd.prog 8 [] (.bool true) (H) (H) := by
  refine vcall_of_vrun Tryd.func8 rfl (N := 256) rfl rfl ?_
  refine vseq ?_
  refine vregion ?_
  refine vone rfl (vxq (vas rfl) rfl rfl ?_)
  refine vnil ?_
  refine vseq ?_
  refine vregion ?_
  refine vone rfl (vxq (vcp rfl rfl rfl (c_numbersOf )) rfl rfl ?_)
  refine vone rfl (vxg (vcg rfl rfl rfl (d_scene8 _) (fun o H' h => h)) rfl rfl ?_)
  rintro _ _ ⟨B0, rfl, ⟨h, rfl, hsc⟩⟩
  refine vone rfl (vxa valloc rfl rfl (fun b1 => ?_))
  refine vone rfl (vxa valloc rfl rfl (fun b2 => ?_))
  refine vone rfl (vxs (vstn rfl rfl rfl rfl rfl) rfl ?_)
  refine vone rfl (vxs (vstn rfl rfl rfl rfl rfl) rfl ?_)
  refine vnil ?_
  refine vseq ?_
  refine vregion ?_
  refine vone rfl (vxq (vldn rfl rfl) rfl rfl ?_)
  refine vone rfl (vxa valloc rfl rfl (fun b3 => ?_))
  refine vone rfl (vxs (vstn rfl rfl rfl rfl rfl) rfl ?_)
  refine vnil ?_
  refine vseq ?_
  refine vregion ?_
  refine vone rfl (vxq (vfa rfl) rfl rfl ?_)
  refine vone rfl (vxs (vst1 rfl rfl rfl rfl) rfl ?_)
  refine vnil ?_
  refine vseq ?_
  refine vregion ?_
  refine vone rfl (vxg (vcg (R := scR 8 _) rfl rfl rfl (d_sceneR _) (fun o H' h => h)) rfl rfl ?_)
  rintro _ _ ⟨bs1, oa1, ka1, ob1, kb1, oc1, kc1, od1, kd1, B1, rfl, rfl, ha1, hb1, hc1, hd1, he1, hf1⟩
  refine vone rfl (vxg (vcg (R := scR 8 _) rfl rfl rfl (d_sceneR _) (fun o H' h => h)) rfl rfl ?_)
  rintro _ _ ⟨bs2, oa2, ka2, ob2, kb2, oc2, kc2, od2, kd2, B2, rfl, rfl, ha2, hb2, hc2, hd2, he2, hf2⟩
  refine vone rfl (vxg (vcg (R := scR 8 _) rfl rfl rfl (d_sceneR _) (fun o H' h => h)) rfl rfl ?_)
  rintro _ _ ⟨bs3, oa3, ka3, ob3, kb3, oc3, kc3, od3, kd3, B3, rfl, rfl, ha3, hb3, hc3, hd3, he3, hf3⟩
  refine vone rfl (vxa valloc rfl rfl (fun b4 => ?_))
  refine vone rfl (vxa valloc rfl rfl (fun b5 => ?_))
  refine vone rfl (vxa valloc rfl rfl (fun b6 => ?_))
  refine vone rfl (vxs (vstn rfl rfl rfl rfl rfl) rfl ?_)
  refine vone rfl (vxs (vstn rfl rfl rfl rfl rfl) rfl ?_)
  refine vone rfl (vxs (vstn rfl rfl rfl rfl rfl) rfl ?_)
  refine vnil ?_
  refine vseq ?_
  refine vregion ?_
  refine vone rfl (vxq (vfa rfl) rfl rfl ?_)
  refine vone rfl (vxq (vld1 rfl rfl) rfl rfl ?_)
  refine vone rfl (vxq (vis rfl rfl (by decide)) rfl rfl ?_)
  refine vone rfl (vxq (vfa rfl) rfl rfl ?_)
  refine vone rfl (vxs (vst1 rfl rfl rfl rfl) rfl ?_)
  refine vnil ?_
  refine vseq ?_
  refine vregion ?_
  refine vone rfl (vxq (vfa rfl) rfl rfl ?_)
  refine vone rfl (vxq (vld1 rfl rfl) rfl rfl ?_)
  refine vone rfl (vxq (vis rfl rfl (by decide)) rfl rfl ?_)
  refine vone rfl (vxq (vfa rfl) rfl rfl ?_)
  refine vone rfl (vxs (vst1 rfl rfl rfl rfl) rfl ?_)
  refine vnil ?_
  refine vseq ?_
  refine vregion ?_
  refine vone rfl (vxq (vfa rfl) rfl rfl ?_)
  refine vone rfl (vxq (vld1 rfl rfl) rfl rfl ?_)
  refine vone rfl (vxq (vis rfl rfl (by decide)) rfl rfl ?_)
  refine vone rfl (vxq (vfa rfl) rfl rfl ?_)
  refine vone rfl (vxs (vst1 rfl rfl rfl rfl) rfl ?_)
  refine vnil ?_
  refine vseq ?_
  refine vseq ?_
  refine vregion ?_
  refine vone rfl (vxq (vldn rfl rfl) rfl rfl ?_)
  refine vone rfl (vxq (vcp rfl rfl rfl (c_CheckWatch badW)) rfl rfl ?_)
  refine vone rfl (vxq (vneq rfl rfl) rfl rfl ?_)
  refine vknow (d := 46) (b' := false) rfl (decide_eq_false (fun e => e ek_bad)) ?_
  refine vone rfl (vxq (vmv rfl) rfl rfl ?_)
  refine vyes rfl rfl rfl (vxq (vldn rfl rfl) rfl rfl ?_)
  refine vyes rfl rfl rfl (vxq (vcq rfl rfl rfl (c_CSe (sc1_O lateS (T := 49) rfl he1 hf1 (by decide)) ek_late)) rfl rfl ?_)
  refine vyes rfl rfl rfl (vxq (vneq rfl rfl) rfl rfl ?_)
  refine vknow (d := 50) (b' := false) rfl (decide_eq_false (fun e => e rfl)) ?_
  refine vone rfl (vxq (vpkf rfl rfl) rfl rfl ?_)
  refine vone rfl (vxq (vmv rfl) rfl rfl ?_)
  refine vyes rfl rfl rfl (vxq (vldn rfl rfl) rfl rfl ?_)
  refine vyes rfl rfl rfl (vxq (vcq rfl rfl rfl (c_CSe (sc1_O deafS (T := 49) rfl he2 hf2 (by decide)) ek_deaf)) rfl rfl ?_)
  refine vyes rfl rfl rfl (vxq (vneq rfl rfl) rfl rfl ?_)
  refine vknow (d := 55) (b' := false) rfl (decide_eq_false (fun e => e rfl)) ?_
  refine vone rfl (vxq (vpkf rfl rfl) rfl rfl ?_)
  refine vone rfl (vxq (vmv rfl) rfl rfl ?_)
  refine vyes rfl rfl rfl (vxq (vldn rfl rfl) rfl rfl ?_)
  refine vyes rfl rfl rfl (vxq (vcq rfl rfl rfl (c_CSe (sc1_O farS (T := 49) rfl he3 hf3 (by decide)) ek_far)) rfl rfl ?_)
  refine vyes rfl rfl rfl (vxq (vneq rfl rfl) rfl rfl ?_)
  refine vknow (d := 60) (b' := false) rfl (decide_eq_false (fun e => e rfl)) ?_
  refine vone rfl (vxq (vpkf rfl rfl) rfl rfl ?_)
  refine vone rfl (vxq (vmv rfl) rfl rfl ?_)
  refine vyes rfl rfl rfl (vxq (vbd rfl rfl) rfl rfl ?_)
  refine vyes rfl rfl rfl (vxq (vcq rfl rfl rfl (c_CS0 _)) rfl rfl ?_)
  refine vyes rfl rfl rfl (vxq (vneq rfl rfl) rfl rfl ?_)
  refine vknow (d := 65) (b' := false) rfl (decide_eq_false (fun e => e rfl)) ?_
  refine vone rfl (vxq (vpkf rfl rfl) rfl rfl ?_)
  refine vnil ?_
  refine vcondf rfl ?_
  refine vskip ?_
  refine vseq ?_
  refine vregion ?_
  refine vone rfl (vxq (vldn rfl rfl) rfl rfl ?_)
  refine vone rfl (vxq (vcq rfl rfl rfl (w_Sight1 h _)) rfl rfl ?_)
  refine vone rfl (vxq (vmv rfl) rfl rfl ?_)
  refine vone rfl (vxq (vex rfl rfl) rfl rfl ?_)
  refine vone rfl (vxq (vex rfl rfl) rfl rfl ?_)
  refine vone rfl (vxa valloc rfl rfl (fun b7 => ?_))
  refine vone rfl (vxs (vstn rfl rfl rfl rfl rfl) rfl ?_)
  refine vone rfl (vxq (vas rfl) rfl rfl ?_)
  refine vnil ?_
  refine vseq ?_
  refine vregion ?_
  refine vone rfl (vxq (vldn rfl rfl) rfl rfl ?_)
  refine vone rfl (vxq (vldn rfl rfl) rfl rfl ?_)
  refine vone rfl (vxg (vcg rfl rfl rfl (w_TrackE (h := h) (s := scP 8) inferInstance ek_bob) (fun o H' h => h)) rfl rfl ?_)
  rintro _ _ ⟨BT, rfl, ⟨ob, cb, ob', cb', rfl⟩⟩
  refine vone rfl (vxq (vmv rfl) rfl rfl ?_)
  refine vone rfl (vxq (vex rfl rfl) rfl rfl ?_)
  refine vone rfl (vxq (vex rfl rfl) rfl rfl ?_)
  refine vone rfl (vxq (vex rfl rfl) rfl rfl ?_)
  refine vone rfl (vxq (vas rfl) rfl rfl ?_)
  refine vone rfl (vxq (vas rfl) rfl rfl ?_)
  refine vone rfl (vxq (vas rfl) rfl rfl ?_)
  refine vnil ?_
  refine vseq ?_
  refine VRun.sub (H' := ((b2, blk (clSc h (scP 8)) 33) :: (b1, blk (clWn numW) 23) :: (B0 ++ H))) sb2 ?_
  refine vregion ?_
  refine vone rfl (vxg (vcg (R := scR 8 _) rfl rfl rfl (d_sceneR _) (fun o H' h => h)) rfl rfl ?_)
  rintro _ _ ⟨bs4, oa4, ka4, ob4, kb4, oc4, kc4, od4, kd4, B4, rfl, rfl, ha4, hb4, hc4, hd4, he4, hf4⟩
  refine vone rfl (vxa valloc rfl rfl (fun b8 => ?_))
  refine vone rfl (vxs (vstn rfl rfl rfl rfl rfl) rfl ?_)
  refine vnil ?_
  refine vseq ?_
  refine vregion ?_
  refine vone rfl (vxq (vfa rfl) rfl rfl ?_)
  refine vone rfl (vxq (vld1 rfl rfl) rfl rfl ?_)
  refine vone rfl (vxq (vbd rfl rfl) rfl rfl ?_)
  refine vone rfl (vxg (vbs rfl rfl rfl rfl rfl rfl) rfl rfl ?_)
  rintro _ _ ⟨b9, rfl, rfl⟩
  refine vone rfl (vxg (vappF (a := ⟨b9, 0, Option.none⟩) (m := 1) (c := 1) (size := 5) (bytes := 48) (F := fun X => (b9, blk (clSg twiS) 49) :: (b8, blk (clSc ⟨oa4, ka4, ob4, kb4, oc4, kc4, od4, kd4, some ⟨bs4, 0, Option.none⟩, 1⟩ (scP 8)) 33) :: (X ++ (B4 ++ ((b2, blk (clSc h (scP 8)) 33) :: (b1, blk (clWn numW) 23) :: (B0 ++ H))))) (H0 := (b9, blk (clSg twiS) 49) :: (b8, blk (clSc ⟨oa4, ka4, ob4, kb4, oc4, kc4, od4, kd4, some ⟨bs4, 0, Option.none⟩, 1⟩ (scP 8)) 33) :: (B4 ++ ((b2, blk (clSc h (scP 8)) 33) :: (b1, blk (clWn numW) 23) :: (B0 ++ H)))) (B := [(bs4, blk [I 0, .string annB, I 0, I 6, I 10] 49)]) (xs := [I 0, .string annB, I 0, I 6, I 10]) (news := clSg twiS) (fun X => perm_mid [(b9, blk (clSg twiS) 49), (b8, blk (clSc ⟨oa4, ka4, ob4, kb4, oc4, kc4, od4, kd4, some ⟨bs4, 0, Option.none⟩, 1⟩ (scP 8)) 33)] X (B4 ++ ((b2, blk (clSc h (scP 8)) 33) :: (b1, blk (clWn numW) 23) :: (B0 ++ H)))) rfl rfl (own1S rfl) rfl (news_blk (b := b9) (List.Mem.head _)) (one1 (enc := clSg) (fun _ => rfl) [twiS] _ (by simp)) (by omega) (by simp only [maxLen]; omega) (by omega)) rfl rfl ?_)
  rintro _ _ ⟨D1, hP1, _, rfl⟩
  obtain ⟨bd, cd, rest, rfl, rfl⟩ := own2S hP1
  refine vone rfl (vxq (vfa rfl) rfl rfl ?_)
  refine vone rfl (vxs (vst1 rfl rfl rfl rfl) rfl ?_)
  refine vnil ?_
  refine vseq ?_
  refine VRun.sub (H' := (b8, blk (clSc ⟨oa4, ka4, ob4, kb4, oc4, kc4, od4, kd4, some ⟨bd, 0, Option.none⟩, cd⟩ (sc2 annS twiS)) 33) :: (bd, blk ([annS, twiS].flatMap clSg ++ rest) 49) :: (B4 ++ ((b2, blk (clSc h (scP 8)) 33) :: (b1, blk (clWn numW) 23) :: (B0 ++ H)))) sb2 ?_
  refine vregion ?_
  refine vone rfl (vxq (vldn rfl rfl) rfl rfl ?_)
  refine vone rfl (vxq (vldn rfl rfl) rfl rfl ?_)
  refine vone rfl (vxg (vcg rfl rfl rfl (w_TrackE (sc2_O annS twiS (rest := rest) rfl he4 hf4 (by decide) (by decide)) ek_track2) (fun o H' h => h)) rfl rfl ?_)
  rintro _ _ ⟨BU, rfl, ⟨ou, cu, ou', cu', rfl⟩⟩
  refine vone rfl (vxq (vmv rfl) rfl rfl ?_)
  refine vone rfl (vxq (vex rfl rfl) rfl rfl ?_)
  refine vone rfl (vxq (vex rfl rfl) rfl rfl ?_)
  refine vone rfl (vxq (vex rfl rfl) rfl rfl ?_)
  refine vone rfl (vxq (vas rfl) rfl rfl ?_)
  refine vone rfl (vxq (vas rfl) rfl rfl ?_)
  refine vone rfl (vxq (vas rfl) rfl rfl ?_)
  refine vnil ?_
  refine vseq ?_
  refine vregion ?_
  refine vone rfl (vxq (vldn rfl rfl) rfl rfl ?_)
  refine vone rfl (vxq (vldn rfl rfl) rfl rfl ?_)
  refine vone rfl (vxg (vcg rfl rfl rfl (w_DangE (n := 0) (sc2_O annS twiS (rest := rest) rfl he4 hf4 (by decide) (by decide)) ek_dang2 rfl) (fun o H' h => h)) rfl rfl ?_)
  rintro _ _ ⟨BV, rfl, ⟨ov, cv, rfl, _⟩⟩
  refine vone rfl (vxq (vmv rfl) rfl rfl ?_)
  refine vone rfl (vxq (vex rfl rfl) rfl rfl ?_)
  refine vone rfl (vxq (vex rfl rfl) rfl rfl ?_)
  refine vone rfl (vxq (vas rfl) rfl rfl ?_)
  refine vone rfl (vxq (vas rfl) rfl rfl ?_)
  refine vnil ?_
  refine vseq ?_
  refine vregion ?_
  refine vone rfl (vxq (vfa rfl) rfl rfl ?_)
  refine vone rfl (vxq (vld1 rfl rfl) rfl rfl ?_)
  refine vone rfl (vxq (vis rfl rfl (by decide)) rfl rfl ?_)
  refine vone rfl (vxq (vfa rfl) rfl rfl ?_)
  refine vone rfl (vxs (vst1 rfl rfl rfl rfl) rfl ?_)
  refine vnil ?_
  refine vseq ?_
  refine vregion ?_
  refine vone rfl (vxq (vldn rfl rfl) rfl rfl ?_)
  refine vone rfl (vxq (vldn rfl rfl) rfl rfl ?_)
  refine vone rfl (vxg (vcg rfl rfl rfl (w_DangE (n := 8) (sc2_O annS twoS (rest := rest) rfl he4 hf4 (by decide) (by decide)) ek_dang3 rfl) (fun o H' h => h)) rfl rfl ?_)
  rintro _ _ ⟨BW, rfl, ⟨ow, cw, rfl, hkw⟩⟩
  refine vone rfl (vxq (vmv rfl) rfl rfl ?_)
  refine vone rfl (vxq (vex rfl rfl) rfl rfl ?_)
  refine vone rfl (vxq (vex rfl rfl) rfl rfl ?_)
  refine vone rfl (vxq (vas rfl) rfl rfl ?_)
  refine vone rfl (vxq (vas rfl) rfl rfl ?_)
  refine vnil ?_
  refine vseq ?_
  refine vseq ?_
  refine vregion ?_
  refine vone rfl (vxq (vmv rfl) rfl rfl ?_)
  refine vone rfl (vxq (vneq rfl rfl) rfl rfl ?_)
  refine vknow (d := 110) (b' := false) rfl (by decide) ?_
  refine vone rfl (vxq (vmv rfl) rfl rfl ?_)
  refine vyes rfl rfl rfl (vxq (vmv rfl) rfl rfl ?_)
  refine vyes rfl rfl rfl (vxq (vneq rfl rfl) rfl rfl ?_)
  refine vknow (d := 113) (b' := false) rfl (by decide) ?_
  refine vone rfl (vxq (vpkf rfl rfl) rfl rfl ?_)
  refine vone rfl (vxq (vmv rfl) rfl rfl ?_)
  refine vyes rfl rfl rfl (vxq (vmv rfl) rfl rfl ?_)
  refine vyes rfl rfl rfl (vxq (vneq rfl rfl) rfl rfl ?_)
  refine vknow (d := 117) (b' := false) rfl (by decide) ?_
  refine vone rfl (vxq (vpkf rfl rfl) rfl rfl ?_)
  refine vone rfl (vxq (vmv rfl) rfl rfl ?_)
  refine vyes rfl rfl rfl (vxq (vmv rfl) rfl rfl ?_)
  refine vyes rfl rfl rfl (vxq (vneq rfl rfl) rfl rfl ?_)
  refine vknow (d := 121) (b' := false) rfl (by decide) ?_
  refine vone rfl (vxq (vpkf rfl rfl) rfl rfl ?_)
  refine vone rfl (vxq (vmv rfl) rfl rfl ?_)
  refine vyes rfl rfl rfl (vxq (vmv rfl) rfl rfl ?_)
  refine vyes rfl rfl rfl (vxq (vneq rfl rfl) rfl rfl ?_)
  refine vknow (d := 125) (b' := false) rfl (by decide) ?_
  refine vone rfl (vxq (vpkf rfl rfl) rfl rfl ?_)
  refine vone rfl (vxq (vmv rfl) rfl rfl ?_)
  refine vyes rfl rfl rfl (vxq (vmv rfl) rfl rfl ?_)
  refine vyes rfl rfl rfl (vxg (vbs rfl rfl rfl rfl rfl rfl) rfl rfl ?_)
  rintro _ _ ⟨b9, rfl, rfl⟩
  refine vyes rfl rfl rfl (vxq (vcq rfl rfl rfl (w_AlikeB [false, true, true, true, true, false, false, false] _ 8 _ rfl rfl (by omega))) rfl rfl ?_)
  refine vknow (d := 130) (b' := true) rfl rfl ?_
  refine vyes rfl rfl rfl (vxq (vnot rfl) rfl rfl ?_)
  refine vone rfl (vxq (vpkf rfl rfl) rfl rfl ?_)
  refine vnil ?_
  refine vcondf rfl ?_
  refine vskip ?_
  refine vseq ?_
  refine VRun.sub (H' := ((b2, blk (clSc h (scP 8)) 33) :: (b1, blk (clWn numW) 23) :: (B0 ++ H))) sb2 ?_
  refine vregion ?_
  refine vone rfl (vxq (vldn rfl rfl) rfl rfl ?_)
  refine vone rfl (vxq (vldn rfl rfl) rfl rfl ?_)
  refine vone rfl (vxg (vbs rfl rfl rfl rfl rfl rfl) rfl rfl ?_)
  rintro _ _ ⟨b10, rfl, rfl⟩
  refine vone rfl (vxq (vcq rfl rfl rfl (w_JudgeK (m := 8) [0, 1, 2, 3, 3, 3, 3, 3] ek_j1 rfl (n := 8) rfl (by omega))) rfl rfl ?_)
  refine vone rfl (vxq (vmv rfl) rfl rfl ?_)
  refine vone rfl (vxq (vex rfl rfl) rfl rfl ?_)
  refine vone rfl (vxq (vex rfl rfl) rfl rfl ?_)
  refine vone rfl (vxq (vex rfl rfl) rfl rfl ?_)
  refine vone rfl (vxq (vas rfl) rfl rfl ?_)
  refine vone rfl (vxq (vas rfl) rfl rfl ?_)
  refine vone rfl (vxq (vas rfl) rfl rfl ?_)
  refine vnil ?_
  refine vseq ?_
  refine vseq ?_
  refine vregion ?_
  refine vone rfl (vxq (vmv rfl) rfl rfl ?_)
  refine vone rfl (vxq (vneq rfl rfl) rfl rfl ?_)
  refine vknow (d := 142) (b' := false) rfl (by decide) ?_
  refine vone rfl (vxq (vmv rfl) rfl rfl ?_)
  refine vyes rfl rfl rfl (vxq (vmv rfl) rfl rfl ?_)
  refine vyes rfl rfl rfl (vxq (vneq rfl rfl) rfl rfl ?_)
  refine vknow (d := 145) (b' := false) rfl (by decide) ?_
  refine vone rfl (vxq (vpkf rfl rfl) rfl rfl ?_)
  refine vone rfl (vxq (vmv rfl) rfl rfl ?_)
  refine vyes rfl rfl rfl (vxq (vmv rfl) rfl rfl ?_)
  refine vyes rfl rfl rfl (vxq (vneq rfl rfl) rfl rfl ?_)
  refine vknow (d := 149) (b' := false) rfl (by decide) ?_
  refine vone rfl (vxq (vpkf rfl rfl) rfl rfl ?_)
  refine vnil ?_
  refine vcondf rfl ?_
  refine vskip ?_
  refine vseq ?_
  refine vregion ?_
  refine vone rfl (vxq (vldn rfl rfl) rfl rfl ?_)
  refine vone rfl (vxq (vldn rfl rfl) rfl rfl ?_)
  refine vone rfl (vxg (vbs rfl rfl rfl rfl rfl rfl) rfl rfl ?_)
  rintro _ _ ⟨b11, rfl, rfl⟩
  refine vone rfl (vxq (vcq rfl rfl rfl (w_JudgeK (m := 8) [0, 0, 0, 0, 0, 1, 3, 3] ek_j2 rfl (n := 8) rfl (by omega))) rfl rfl ?_)
  refine vone rfl (vxq (vmv rfl) rfl rfl ?_)
  refine vone rfl (vxq (vex rfl rfl) rfl rfl ?_)
  refine vone rfl (vxq (vex rfl rfl) rfl rfl ?_)
  refine vone rfl (vxq (vex rfl rfl) rfl rfl ?_)
  refine vone rfl (vxq (vas rfl) rfl rfl ?_)
  refine vone rfl (vxq (vas rfl) rfl rfl ?_)
  refine vone rfl (vxq (vas rfl) rfl rfl ?_)
  refine vnil ?_
  refine vseq ?_
  refine vregion ?_
  refine vone rfl (vxq (vldn rfl rfl) rfl rfl ?_)
  refine vone rfl (vxq (vldn rfl rfl) rfl rfl ?_)
  refine vone rfl (vxg (vbs rfl rfl rfl rfl rfl rfl) rfl rfl ?_)
  rintro _ _ ⟨b12, rfl, rfl⟩
  refine vone rfl (vxq (vcq rfl rfl rfl (w_JudgeK (m := 8) [0, 0, 0, 0, 0, 1, 2, 4] ek_j3 rfl (n := 8) rfl (by omega))) rfl rfl ?_)
  refine vone rfl (vxq (vmv rfl) rfl rfl ?_)
  refine vone rfl (vxq (vex rfl rfl) rfl rfl ?_)
  refine vone rfl (vxq (vex rfl rfl) rfl rfl ?_)
  refine vone rfl (vxq (vex rfl rfl) rfl rfl ?_)
  refine vone rfl (vxq (vas rfl) rfl rfl ?_)
  refine vnil ?_
  refine vseq ?_
  refine vseq ?_
  refine vregion ?_
  refine vone rfl (vxq (vmv rfl) rfl rfl ?_)
  refine vone rfl (vxq (vneq rfl rfl) rfl rfl ?_)
  refine vknow (d := 168) (b' := false) rfl (by decide) ?_
  refine vone rfl (vxq (vmv rfl) rfl rfl ?_)
  refine vyes rfl rfl rfl (vxq (vmv rfl) rfl rfl ?_)
  refine vyes rfl rfl rfl (vxq (vneq rfl rfl) rfl rfl ?_)
  refine vknow (d := 171) (b' := false) rfl (by decide) ?_
  refine vone rfl (vxq (vpkf rfl rfl) rfl rfl ?_)
  refine vone rfl (vxq (vmv rfl) rfl rfl ?_)
  refine vyes rfl rfl rfl (vxq (vmv rfl) rfl rfl ?_)
  refine vyes rfl rfl rfl (vxq (vneq rfl rfl) rfl rfl ?_)
  refine vknow (d := 175) (b' := false) rfl (by decide) ?_
  refine vone rfl (vxq (vpkf rfl rfl) rfl rfl ?_)
  refine vone rfl (vxq (vmv rfl) rfl rfl ?_)
  refine vyes rfl rfl rfl (vxq (vmv rfl) rfl rfl ?_)
  refine vyes rfl rfl rfl (vxq (vneq rfl rfl) rfl rfl ?_)
  refine vknow (d := 179) (b' := false) rfl (by decide) ?_
  refine vone rfl (vxq (vpkf rfl rfl) rfl rfl ?_)
  refine vnil ?_
  refine vcondf rfl ?_
  refine vskip ?_
  refine vseq ?_
  refine vregion ?_
  refine vone rfl (vxg (vcg rfl rfl rfl (d_scene12 _) (fun o H' h => h)) rfl rfl ?_)
  rintro _ _ ⟨BL, rfl, ⟨h12, rfl, hsc12⟩⟩
  refine vone rfl (vxa valloc rfl rfl (fun b13 => ?_))
  refine vone rfl (vxs (vstn rfl rfl rfl rfl rfl) rfl ?_)
  refine vnil ?_
  refine vseq ?_
  refine vregion ?_
  refine vone rfl (vxq (vldn rfl rfl) rfl rfl ?_)
  refine vone rfl (vxq (vldn rfl rfl) rfl rfl ?_)
  refine vone rfl (vxg (vbs rfl rfl rfl rfl rfl rfl) rfl rfl ?_)
  rintro _ _ ⟨b14, rfl, rfl⟩
  refine vone rfl (vxq (vcq rfl rfl rfl (w_JudgeK (m := 12) [0, 0, 0, 0, 0, 1, 2, 3, 0, 3, 0, 0] ek_j4 rfl (n := 12) rfl (by omega))) rfl rfl ?_)
  refine vone rfl (vxq (vmv rfl) rfl rfl ?_)
  refine vone rfl (vxq (vex rfl rfl) rfl rfl ?_)
  refine vone rfl (vxq (vex rfl rfl) rfl rfl ?_)
  refine vone rfl (vxq (vex rfl rfl) rfl rfl ?_)
  refine vone rfl (vxq (vas rfl) rfl rfl ?_)
  refine vone rfl (vxq (vas rfl) rfl rfl ?_)
  refine vone rfl (vxq (vas rfl) rfl rfl ?_)
  refine vnil ?_
  refine vseq ?_
  refine vseq ?_
  refine vregion ?_
  refine vone rfl (vxq (vmv rfl) rfl rfl ?_)
  refine vone rfl (vxq (vneq rfl rfl) rfl rfl ?_)
  refine vknow (d := 191) (b' := false) rfl (by decide) ?_
  refine vone rfl (vxq (vmv rfl) rfl rfl ?_)
  refine vyes rfl rfl rfl (vxq (vmv rfl) rfl rfl ?_)
  refine vyes rfl rfl rfl (vxq (vneq rfl rfl) rfl rfl ?_)
  refine vknow (d := 194) (b' := false) rfl (by decide) ?_
  refine vone rfl (vxq (vpkf rfl rfl) rfl rfl ?_)
  refine vone rfl (vxq (vmv rfl) rfl rfl ?_)
  refine vyes rfl rfl rfl (vxq (vmv rfl) rfl rfl ?_)
  refine vyes rfl rfl rfl (vxq (vneq rfl rfl) rfl rfl ?_)
  refine vknow (d := 198) (b' := false) rfl (by decide) ?_
  refine vone rfl (vxq (vpkf rfl rfl) rfl rfl ?_)
  refine vnil ?_
  refine vcondf rfl ?_
  refine vskip ?_
  refine vseq ?_
  refine vregion ?_
  refine vone rfl (vxq (vldn rfl rfl) rfl rfl ?_)
  refine vone rfl (vxq (vldn rfl rfl) rfl rfl ?_)
  refine vone rfl (vxg (vbs rfl rfl rfl rfl rfl rfl) rfl rfl ?_)
  rintro _ _ ⟨b15, rfl, rfl⟩
  refine vone rfl (vxq (vcq rfl rfl rfl (w_JudgeK (m := 12) [0, 0, 0, 0, 0, 1, 2, 3, 0, 0, 3, 0] ek_j5 rfl (n := 12) rfl (by omega))) rfl rfl ?_)
  refine vone rfl (vxq (vmv rfl) rfl rfl ?_)
  refine vone rfl (vxq (vex rfl rfl) rfl rfl ?_)
  refine vone rfl (vxq (vex rfl rfl) rfl rfl ?_)
  refine vone rfl (vxq (vex rfl rfl) rfl rfl ?_)
  refine vone rfl (vxq (vas rfl) rfl rfl ?_)
  refine vone rfl (vxq (vas rfl) rfl rfl ?_)
  refine vone rfl (vxq (vas rfl) rfl rfl ?_)
  refine vnil ?_
  refine vseq ?_
  refine vregion ?_
  refine vone rfl (vxq (vldn rfl rfl) rfl rfl ?_)
  refine vone rfl (vxq (vcp rfl rfl rfl (w_GuardK (w := numW) ek_g1)) rfl rfl ?_)
  refine vone rfl (vxq (vmv rfl) rfl rfl ?_)
  refine vone rfl (vxq (vex rfl rfl) rfl rfl ?_)
  refine vone rfl (vxq (vex rfl rfl) rfl rfl ?_)
  refine vone rfl (vxq (vas rfl) rfl rfl ?_)
  refine vnil ?_
  refine vseq ?_
  refine vregion ?_
  refine vone rfl (vxq (vldn rfl rfl) rfl rfl ?_)
  refine vone rfl (vxq (vcp rfl rfl rfl (w_GuardK (w := numW) ek_g2)) rfl rfl ?_)
  refine vone rfl (vxq (vmv rfl) rfl rfl ?_)
  refine vone rfl (vxq (vex rfl rfl) rfl rfl ?_)
  refine vone rfl (vxq (vex rfl rfl) rfl rfl ?_)
  refine vone rfl (vxq (vas rfl) rfl rfl ?_)
  refine vnil ?_
  refine vseq ?_
  refine vregion ?_
  refine vone rfl (vxq (vldn rfl rfl) rfl rfl ?_)
  refine vone rfl (vxa valloc rfl rfl (fun b16 => ?_))
  refine vone rfl (vxs (vstn rfl rfl rfl rfl rfl) rfl ?_)
  refine vnil ?_
  refine vseq ?_
  refine vregion ?_
  refine vone rfl (vxq (vfa rfl) rfl rfl ?_)
  refine vone rfl (vxs (vst1 rfl rfl rfl rfl) rfl ?_)
  refine vnil ?_
  refine vseq ?_
  refine vregion ?_
  refine vone rfl (vxq (vldn rfl rfl) rfl rfl ?_)
  refine vone rfl (vxq (vcp rfl rfl rfl (w_GuardK (w := stillW) ek_g3)) rfl rfl ?_)
  refine vone rfl (vxq (vmv rfl) rfl rfl ?_)
  refine vone rfl (vxq (vex rfl rfl) rfl rfl ?_)
  refine vone rfl (vxq (vex rfl rfl) rfl rfl ?_)
  refine vone rfl (vxq (vas rfl) rfl rfl ?_)
  refine vone rfl (vxq (vas rfl) rfl rfl ?_)
  refine vnil ?_
  refine vseq ?_
  refine vregion ?_
  refine vone rfl (vxq (vmv rfl) rfl rfl ?_)
  refine vone rfl (vxq (veql rfl rfl) rfl rfl ?_)
  refine vknow (d := 226) (b' := true) rfl (by decide) ?_
  refine vone rfl (vxq (vmv rfl) rfl rfl ?_)
  refine vyes rfl rfl rfl (vxq (vmv rfl) rfl rfl ?_)
  refine vyes rfl rfl rfl (vxq (veql rfl rfl) rfl rfl ?_)
  refine vknow (d := 229) (b' := true) rfl (by decide) ?_
  refine vone rfl (vxq (vpkt rfl rfl) rfl rfl ?_)
  refine vone rfl (vxq (vmv rfl) rfl rfl ?_)
  refine vyes rfl rfl rfl (vxq (vmv rfl) rfl rfl ?_)
  refine vyes rfl rfl rfl (vxq (veql rfl rfl) rfl rfl ?_)
  refine vknow (d := 233) (b' := true) rfl (by decide) ?_
  refine vone rfl (vxq (vpkt rfl rfl) rfl rfl ?_)
  refine vone rfl (vxq (vmv rfl) rfl rfl ?_)
  refine vyes rfl rfl rfl (vxq (vmv rfl) rfl rfl ?_)
  refine vyes rfl rfl rfl (vxq (veql rfl rfl) rfl rfl ?_)
  refine vknow (d := 237) (b' := true) rfl (by decide) ?_
  refine vone rfl (vxq (vpkt rfl rfl) rfl rfl ?_)
  refine vone rfl (vxq (vmv rfl) rfl rfl ?_)
  refine vyes rfl rfl rfl (vxq (vmv rfl) rfl rfl ?_)
  refine vyes rfl rfl rfl (vxq (veql rfl rfl) rfl rfl ?_)
  refine vknow (d := 241) (b' := true) rfl (by decide) ?_
  refine vone rfl (vxq (vpkt rfl rfl) rfl rfl ?_)
  refine vone rfl (vxq (vmv rfl) rfl rfl ?_)
  refine vyes rfl rfl rfl (vxq (vmv rfl) rfl rfl ?_)
  refine vyes rfl rfl rfl (vxq (veql rfl rfl) rfl rfl ?_)
  refine vknow (d := 245) (b' := true) rfl (by decide) ?_
  refine vone rfl (vxq (vpkt rfl rfl) rfl rfl ?_)
  refine vone rfl (vxq (vmv rfl) rfl rfl ?_)
  refine vyes rfl rfl rfl (vxq (vmv rfl) rfl rfl ?_)
  refine vyes rfl rfl rfl (vxq (veql rfl rfl) rfl rfl ?_)
  refine vknow (d := 249) (b' := true) rfl (by decide) ?_
  refine vone rfl (vxq (vpkt rfl rfl) rfl rfl ?_)
  refine vone rfl (vxq (vmv rfl) rfl rfl ?_)
  refine vone rfl (vxq (vpkt rfl rfl) rfl rfl ?_)
  refine vone rfl (vxq (vmv rfl) rfl rfl ?_)
  refine vyes rfl rfl rfl (vxq (vcq rfl rfl rfl (c_works _)) rfl rfl ?_)
  refine vknow (d := 254) (b' := true) rfl rfl ?_
  refine vone rfl (vxq (vpkt rfl rfl) rfl rfl ?_)
  refine vone rfl (vxq (vas rfl) rfl rfl ?_)
  refine vnil ?_
  refine vret (vr1 (H' := H) Tryd.func8 rfl (.tmp rfl) sb2 ?_)
  exact ⟨rfl, rfl⟩
end Go.Proofs.YtaplkoimhecacaaDoor
