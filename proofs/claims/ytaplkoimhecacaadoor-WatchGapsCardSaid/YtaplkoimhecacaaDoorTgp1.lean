/-
  What the base lacks. Walks of the laws' helpers: Rest, Pick, square, swum. The walk of WatchGaps.
-/
import Derived.Test.YtaplkoimhecacaaDoorB01
import Derived.Test.YtaplkoimhecacaaDoorB02
import Derived.Test.YtaplkoimhecacaaDoorB03
import Derived.Test.YtaplkoimhecacaaDoorB04
import Derived.Test.YtaplkoimhecacaaDoorB05
import Derived.Test.YtaplkoimhecacaaDoorB06
import Derived.Test.YtaplkoimhecacaaDoorB07
import Derived.Test.YtaplkoimhecacaaDoorB08
import Derived.Test.YtaplkoimhecacaaDoorB09
import Derived.Test.YtaplkoimhecacaaDoorB10
import Derived.Test.YtaplkoimhecacaaDoorB11
import Derived.Test.YtaplkoimhecacaaDoorB12
import Derived.Test.YtaplkoimhecacaaDoorB13
import Derived.Test.YtaplkoimhecacaaDoorB14
import Derived.Test.YtaplkoimhecacaaDoorB15
import Derived.Test.YtaplkoimhecacaaDoorB16
import Derived.Test.YtaplkoimhecacaaDoorB17
import Derived.Test.YtaplkoimhecacaaDoorB18
import Derived.Test.YtaplkoimhecacaaDoorB19
import Derived.Test.YtaplkoimhecacaaDoorB20
namespace Go.Proofs.YtaplkoimhecacaaDoor
open Go
set_option maxRecDepth 100000
section
open Go

variable {P : Program} {f : FuncId} {ro : Option Nat} {N : Nat} {k : List Item} {D : List Deferred} {Q : Out → Heap → Prop} {ops : Array Oper}

variable {E : Env} {G H : Heap} {l : List (Kd × Oper)}

/-- An operation that adds blocks. -/
theorem vdgl {o : Oper} {d : Nat} {R : Value → Heap → Prop} {M : Heap} (hM : appHO G H = some M) (hm : Met ops N E o) (h : OG P N E D M o (fun v H' => ∃ B, H' = B ++ M ∧ R v B)) (ho : o.dst = some d) (hN : Nat.blt d N = true) (hL : ∀ v B, R v B → VD P f ro N ops l k ((d, v) :: E) D (B ++ G) H Q) :
    VD P f ro N ops ((.g, o) :: l) k E D G H Q := by
  intro t hA
  have hM := appHO_eq _ _ _ hM
  subst hM
  refine ⟨hm t hA, (h.st hA).mono fun v H' hR => ?_⟩
  obtain ⟨B, rfl, hR⟩ := hR
  refine ⟨B, rfl, fun _ => hL v B hR _ ?_⟩
  have := agree_pu hA (D := D) (o := o.dst) (fun d' hd' => by rw [ho] at hd'; cases hd'; exact Nat.le_of_ble_eq_true hN) v
  rwa [ho] at this ⊢
end
section
open Go
open Go.ChangeShapes Go.WideShapes Go.ChangeAt Go.RowKit

variable {HH : Type} (enc : TypeId × Value → HH) (P : Program) (W : World)

variable {enc P W}
theorem allH_emb (W : World) : Emb (allH W) W := by
  refine ⟨?_, fun e he => ?_⟩
  · have : (allH W).map Prod.fst = List.range W.heap.size := by
      unfold allH
      rw [List.map_map]
      have : (Prod.fst ∘ fun p : Obj × Nat => (p.2, p.1)) = Prod.snd := rfl
      rw [this, List.zipIdx_map_snd, List.range_eq_range']
      simp
    rw [this]; exact List.nodup_range
  · exact allH_mem.1 he

/-- A contract at all blocks, in the library's form. -/
theorem calls_of {P : Program} {k : FuncId} {args : Array Value} {W : World} {v : Value} (h : VCall P k args (allH W) (fun o H' => o = .val v ∧ ∃ B, H' = B ++ allH W)) :
    Calls P k args W (fun e w' => e = .returned v ∧ Below W.heap.size W w') := by
  intro cs
  obtain ⟨o, w', m', H', ⟨rfl, B, rfl⟩, hF, hs, _, fr', rfl, h1, h2⟩ := h W cs (allH_emb W)
  refine ⟨.returned v, w', fr', ⟨rfl, hF.os, hF.tape, hF.output, hF.size, fun i hi => ?_⟩, hs, h1, h2⟩
  have hg : W.heap[i]? = some W.heap[i] := Array.getElem?_eq_getElem hi
  rw [hg]
  exact hF.emb.at_ (i, W.heap[i]) (List.mem_append_right _ (allH_mem.2 hg))

end
end Go.Proofs.YtaplkoimhecacaaDoor
namespace Go.Proofs.YtaplkoimhecacaaDoor
open Go
set_option maxRecDepth 100000

attribute [local irreducible] tightP hullP rootP farP rows endsOf
end Go.Proofs.YtaplkoimhecacaaDoor
namespace Go.Proofs.YtaplkoimhecacaaDoor
open Go
set_option maxRecDepth 100000

attribute [local irreducible] tightP hullP rootP farP rows endsOf restP gapE
theorem rep_flatE {α : Type} (enc : α → List Value) (x : α) : ∀ n, (List.replicate n x).flatMap enc = rep n (enc x)
  | 0 => rfl
  | n + 1 => by rw [List.replicate_succ, List.flatMap_cons, rep_flatE enc x n, rep, app_eq]
class TMs (P : Program) (T : TypeId) (e esz by_ : outParam Nat) (zs : outParam (List Value)) : Prop where
  und : P.underlying T = some (.slice e)
  inf : ∃ i z, P.info? e = some i ∧ i.zero = some z ∧ z.cells = zs.toArray ∧ i.size = esz ∧ i.bytes = by_
theorem mkTMs {P : Program} {T e size bytes : Nat} {z : Value} {zs : List Value} (ht : P.underlying T = some (.slice e)) (hi : (P.info? e).map (fun i => (i.zero, i.size, i.bytes)) = some (some z, size, bytes)) (hz : z.cells = zs.toArray) : TMs P T e size bytes zs := by
  obtain ⟨i, h1, h2⟩ := Option.map_eq_some_iff.1 hi
  simp only [Prod.mk.injEq] at h2
  exact ⟨ht, i, z, h1, h2.1, hz, h2.2.1, h2.2.2⟩
instance tMsB : TMs Tryd.prog 30 4 1 1 [.bool false] := mkTMs (z := .bool false) (by kernel_rfl) (by kernel_rfl) rfl
section
variable {P : Program} {N : Nat} {E : Env} {D : List Deferred} {H : Heap} {d : Nat} {x y : Operand} {T ty : TypeId} {pos : String} {af : Array Edge} {g : Option (Nat × Bool)}
theorem vmksN {n e esz by_ : Nat} {zs : List Value} [hT : TMs P T e esz by_ zs] (hx : ev E x = some (.int .i64 (n : Int))) (hy : ev E y = some (.int .i64 (n : Int))) (hz : zs.length = esz) (h0 : 0 < esz) (hn : by_ * n ≤ 281474976710656) (h6 : n ≤ 9223372036854775807) :
    OG P N E D H ⟨some d, .makeSlice T x y, ty, pos, af, g⟩ (fun v H' => ∃ b, v = .slice (some ⟨b, 0, Option.none⟩) n n ∧ H' = (b, blk (rep n zs) e) :: H) := by
  obtain ⟨i, z, h1, h2, h3, h4, h5⟩ := hT.inf
  refine ⟨by simp, fun t w hA hE => ?_⟩
  have hb' : (i.bytes : Int) * (n : Int) ≤ 281474976710656 := by
    have h : ((i.bytes * n : Nat) : Int) ≤ 281474976710656 := by rw [h5]; omega
    rwa [Int.natCast_mul] at h
  have hr := run_make (P := P) w T e i z hT.und h1 h2 .i64 .i64 n n (by omega) (Int.le_refl _) hb' (by omega)
  have hm : madeCells z.cells (n * i.size) = (rep n zs).toArray := by
    unfold madeCells
    apply Array.ext'
    rw [h3, h4]
    refine List.ext_getElem? fun j => ?_
    by_cases hj : j < n * esz
    · have hp := Nat.mod_lt j h0
      simp only [Array.toList_map, Array.toList_range, List.getElem?_map, List.getElem?_range hj, Option.map_some]
      rw [rep_get _ _ _ (by rw [hz]; exact hj)]
      simp only [List.size_toArray, hz]
      rw [getElem!_pos _ _ (by simp [hz, hp])]
      simp [hz, hp]
    · have h5 : (rep n zs)[j]? = Option.none := List.getElem?_eq_none (by rw [rep_len, hz]; omega)
      have h6 : ((Array.range (n * esz)).map (fun i => zs.toArray[i % zs.toArray.size]!)).toList[j]? = Option.none := List.getElem?_eq_none (by simp; omega)
      rw [h6, h5]
  simp only [Int.toNat_natCast, hm] at hr
  refine ⟨.value _, w.alloc (.cells (rep n zs).toArray e), ?_, (w.heap.size, blk (rep n zs) e) :: H, Fr.new hE _, w.heap.size, rfl, rfl⟩
  simp [execOp, ev_eval hA hx, ev_eval hA hy, hr]
end
theorem vmksW {N : Nat} {E : Env} {D : List Deferred} {H : Heap} {d : Nat} {x y : Operand} {ty : TypeId} {pos : String} {af : Array Edge} {g : Option (Nat × Bool)} (w : Wn) (s : Sc) (hx : ev E x = some (I (s.ship.length : Int))) (hy : ev E y = some (I (s.ship.length : Int))) (h64 : s.ship.length ≤ 64) :
    OG Tryd.prog N E D H ⟨some d, .makeSlice 30 x y, ty, pos, af, g⟩ (fun v H' => ∃ b, v = .slice (some ⟨b, 0, Option.none⟩) s.ship.length s.ship.length ∧ H' = (b, blk ((wantL w s 0 0).flatMap encB) 4) :: H) := by
  have h := vmksN (P := Tryd.prog) (N := N) (T := 30) (D := D) (H := H) (d := d) (ty := ty) (pos := pos) (af := af) (g := g) hx hy rfl (by decide) (by omega) (by omega)
  rw [wantL_00, rep_flatE]; exact h
instance slB {H : Heap} {b T : Nat} {l : List Bool} [h : HAt H b (l.flatMap encB) T] : SlO H (some ⟨b, 0, Option.none⟩) 1 encB l := SlO.flat encB_len rfl
theorem put_set : ∀ {l : List Bool} {i : Nat} (z : Bool), i < l.length → put (l.flatMap encB) i [.bool z] = some ((l.set i z).flatMap encB)
  | x :: r, 0, z, _ => by
    show put (.bool x :: r.flatMap encB) 0 [.bool z] = _
    simp only [put]; rfl
  | x :: r, i + 1, z, h => by
    show put (.bool x :: r.flatMap encB) (i + 1) [.bool z] = _
    simp only [put, put_set (l := r) (i := i) z (by simpa using h)]; rfl
theorem gap_put {w : Wn} {s : Sc} {i t : Nat} {z : Bool} (ht : t < s.ship.length) (hz : z = wantP w s (i + 1) t) : put ((wantL w s i t).flatMap encB) (0 + t * 1) [.bool z] = some ((wantL w s i (t + 1)).flatMap encB) := by
  rw [Nat.zero_add, Nat.mul_one, put_set z (by rw [wantL_len]; exact ht), hz, wantL_set ht]
theorem risk_at {w : Wn} {s : Sc} {t : Nat} {k : Kn} (h : k.isSome = true) : riskAt w s t k = decide ((gapE (atR s.src t) (k.getD (zR, 0)).1).1.lo ≤ w.zone * w.zone) := by
  cases k with
  | none => cases h
  | some a => rw [risk_gapE rfl]; rfl
theorem kn_tgt {w : Wn} {s : Sc} (hw : okW w) (hs : okSc s) {nm : ByteArray} {n : Nat} (h : (knAt w s nm n).isSome = true) : Tgt1 ((knAt w s nm n).getD (zR, 0)).1 := by
  have hw' := hw
  unfold okW at hw'
  have ht := knAt_tgt (w := w) (s := s) (nm := nm) (by omega) hs.ships n
  cases hk : knAt w s nm n with
  | none => rw [hk] at h; cases h
  | some a => exact ht a hk
theorem d_TrackY (w : Wn) (h : SH) (s : Sc) (H : Heap) [hsc : ScO H h s] [hgl : Glob H] (x : Sg) (h0 : (dangerE w s).2 = 0) (hx : x ∈ s.sg) : VCall Tryd.prog 26 [vWn w, vSc h s, .string x.nm].toArray H (fun o H' => ∃ v, o = .val v ∧ ∃ B, H' = B ++ H ∧ ∃ oa c oc cc, v = tup [.slice oa s.ship.length c, .slice oc s.ship.length cc, I 0] ∧ SlO B oa 1 encB (knL w s x.nm s.ship.length) ∧ SlO B oc 8 clR (whL w s x.nm s.ship.length)) := by
  have ht := track_of h0 hx
  refine (d_Track w h s H x.nm).mono fun o H' ⟨v, h1, B, h2, oa, c, oc, cc, h3, h4, h5⟩ => ⟨v, h1, B, h2, oa, c, oc, cc, ?_, ?_, ?_⟩
  · rw [h3, ht]; simp only [knL_len, whL_len]
  · rw [ht] at h4; exact h4
  · rw [ht] at h5; exact h5
theorem skip_want {w : Wn} {s : Sc} {i t : Nat} {x : Sg} (hx : s.sg[i]? = some x) (h : (knAt w s x.nm (t + 1)).isSome = false) : wantP w s (i + 1) t = wantP w s i t := by
  rw [want_succ hx]
  cases hk : knAt w s x.nm (t + 1) with
  | none => rw [risk_none, Bool.or_false]
  | some a => rw [hk] at h; cases h

set_option maxHeartbeats 1000000 in
/-- paravane/paravanelaw06.WatchGaps -/
theorem w_Gaps (w : Wn) (h : SH) (s : Sc) (H : Heap) [hsc : ScO H h s] [hgl : Glob H] : VHas Tryd.prog 9 [vWn w, vSc h s] (.bool true) (H) (H) := by
  refine vcall_of_vrun Tryd.func9 rfl (N := 123) rfl rfl ?_
  refine vseq ?_
  refine vregion ?_
  refine vone rfl (vxa (vbox rfl rfl) rfl rfl (fun b1 => ?_))
  refine vone rfl (vxa (vbox rfl rfl) rfl rfl (fun b2 => ?_))
  refine vone rfl (vxq (vas rfl) rfl rfl ?_)
  refine vnil ?_
  refine vseq ?_
  refine vregion ?_
  refine vone rfl (vxq (vldn rfl rfl) rfl rfl ?_)
  refine vone rfl (vxq (vldn rfl rfl) rfl rfl ?_)
  refine vone rfl (vxg (vcg rfl rfl rfl (d_Danger w h s _) (fun o H' h => h)) rfl rfl ?_)
  rintro _ _ ⟨B1, rfl, ⟨oa1, c1, rfl, hle1, hk1⟩⟩
  refine vone rfl (vxq (vmv rfl) rfl rfl ?_)
  refine vone rfl (vxq (vex rfl rfl) rfl rfl ?_)
  refine vone rfl (vxq (vex rfl rfl) rfl rfl ?_)
  refine vone rfl (vxq (vas rfl) rfl rfl ?_)
  refine vone rfl (vxq (vas rfl) rfl rfl ?_)
  refine vnil ?_
  refine vseq ?_
  refine vseq ?_
  refine vregion ?_
  refine vone rfl (vxq (vmv rfl) rfl rfl ?_)
  refine vone rfl (vxq (vneq rfl rfl) rfl rfl ?_)
  refine vnil ?_
  refine vcondd rfl (fun h22 => ?_) (fun h22 => ?_)
  · skip
    refine vseq ?_
    refine vregion ?_
    refine vone rfl (vxq (vmv rfl) rfl rfl ?_)
    refine vone rfl (vxq (vlen rfl) rfl rfl ?_)
    refine vone rfl (vxq (veql rfl rfl) rfl rfl ?_)
    refine vknow (d := 25) (b' := true) rfl (decide_eq_true (by rw [danger_no h22]; rfl)) ?_
    refine vone rfl (vxq (vmv rfl) rfl rfl ?_)
    refine vyes rfl rfl rfl (vxq (vcq rfl rfl rfl (c_works _)) rfl rfl ?_)
    refine vknow (d := 27) (b' := true) rfl rfl ?_
    refine vone rfl (vxq (vpkt rfl rfl) rfl rfl ?_)
    refine vone rfl (vxq (vas rfl) rfl rfl ?_)
    refine vnil ?_
    refine vret (vr1 (H' := H) Tryd.func9 rfl (.tmp rfl) sb2 ?_)
    exact ⟨rfl, rfl⟩
  · skip
    have hd0 := Classical.not_not.1 h22
    obtain ⟨hw, hs0, _, hdl⟩ := danger_0 hd0
    have hw' := hw
    unfold okW at hw'
    have h64 := hs0.1.2
    have hsg := hs0.2.2.2.2.1
    have hzz := mul_bd hw'.1 hw'.1
    refine vskip ?_
    refine vseq ?_
    refine vseq ?_
    refine vregion ?_
    refine vone rfl (vxq (vmv rfl) rfl rfl ?_)
    refine vone rfl (vxq (vlen rfl) rfl rfl ?_)
    refine vone rfl (vxq (vfa rfl) rfl rfl ?_)
    refine vone rfl (vxq (vld1 rfl rfl) rfl rfl ?_)
    refine vone rfl (vxq (vlen rfl) rfl rfl ?_)
    refine vone rfl (vxq (vneq rfl rfl) rfl rfl ?_)
    refine vknow (d := 34) (b' := false) rfl (decide_eq_false (fun e => e (by rw [hdl, hs0.2.1]))) ?_
    refine vnil ?_
    refine vcondf rfl ?_
    refine vskip ?_
    refine vseq ?_
    refine vregion ?_
    refine vone rfl (vxq (vmv rfl) rfl rfl ?_)
    refine vone rfl (vxq (vlen rfl) rfl rfl ?_)
    refine vone rfl (vxg (vmksW w s (by rw [← hdl]; rfl) (by rw [← hdl]; rfl) h64) rfl rfl ?_)
    rintro _ _ ⟨b3, rfl, rfl⟩
    refine vone rfl (vxq (vas rfl) rfl rfl ?_)
    refine vnil ?_
    refine vseq ?_
    refine vseq ?_
    refine vregion ?_
    refine vone rfl (vxq (vas rfl) rfl rfl ?_)
    refine vnil ?_
    refine vblock ?_
    refine vwhile (σ := Int) (fun i => (s.sg.length - i).toNat) (fun i => [(2, ptr b1), (3, ptr b2), (5, .slice oa1 (dangerE w s).1.length c1), (7, (.slice (some ⟨b3, 0, Option.none⟩) s.ship.length s.ship.length)), (8, I i)]) (fun i => (b3, blk ((wantL w s i.toNat 0).flatMap encB) 4) :: (B1 ++ ((b2, blk (clSc h s) 33) :: (b1, blk (clWn w) 23) :: H))) (fun i => 0 ≤ i ∧ i ≤ s.sg.length) 0 ⟨by omega, by omega⟩ ⟨rfl, rfl, rfl, rfl, rfl, True.intro⟩ sb2 ?_
    rintro i ⟨hi0, hin⟩ IH
    change VRun _ _ _ _ _ [(2, ptr b1), (3, ptr b2), (5, .slice oa1 (dangerE w s).1.length c1), (7, (.slice (some ⟨b3, 0, Option.none⟩) s.ship.length s.ship.length)), (8, I i)] _ ((b3, blk ((wantL w s i.toNat 0).flatMap encB) 4) :: (B1 ++ ((b2, blk (clSc h s) 33) :: (b1, blk (clWn w) 23) :: H))) _
    refine vseq ?_
    refine vseq ?_
    refine vregion ?_
    refine vone rfl (vxq (vmv rfl) rfl rfl ?_)
    refine vone rfl (vxq (vfa rfl) rfl rfl ?_)
    refine vone rfl (vxq (vld1 rfl rfl) rfl rfl ?_)
    refine vone rfl (vxq (vlen rfl) rfl rfl ?_)
    refine vone rfl (vxq (vlss rfl rfl) rfl rfl ?_)
    refine vnil ?_
    refine vcondd rfl (fun h42 => ?_) (fun h42 => ?_)
    · skip
      obtain ⟨x, hx⟩ := get_of_lt s.sg (i := i.toNat) (by omega)
      refine vskip ?_
      refine vseq ?_
      refine vblock ?_
      refine vseq ?_
      refine vdraw0 [(.q, 0), (.q, 1), (.q, 2), (.q, 3), (.q, 4), (.q, 5), (.q, 6), (.q, 7), (.g, 8), (.q, 9), (.q, 10), (.q, 11), (.q, 12), (.q, 13), (.q, 14), (.q, 15)] Tryd.mixed (by kernel_rfl) (by kernel_rfl) ?_
      refine vdq (mone rfl) (vldn rfl rfl) rfl rfl ?_
      refine vdq (mone rfl) (vldn rfl rfl) rfl rfl ?_
      refine vdq (mone rfl) (vfa rfl) rfl rfl ?_
      refine vdq (mone rfl) (vld1 rfl rfl) rfl rfl ?_
      refine vdq (mone rfl) (vmv rfl) rfl rfl ?_
      refine vdq (mone rfl) (visg (enc := clSg) rfl rfl (by omega) hx) rfl rfl ?_
      refine vdq (mone rfl) (vfaS (enc := clSg) rfl hx) rfl rfl ?_
      refine vdq (mone rfl) (vldSf (enc := clSg) rfl hx rfl) rfl rfl ?_
      refine vdgl rfl (mone rfl) (vcg rfl rfl rfl (d_TrackY w h s _ x hd0 (List.mem_of_getElem? hx)) (fun o H' h => h)) rfl rfl ?_
      rintro _ BT ⟨oa2, c2, oa3, c3, rfl, hk2, hk3⟩
      refine vdq (mone rfl) (vmv rfl) rfl rfl ?_
      refine vdq (mone rfl) (vex rfl rfl) rfl rfl ?_
      refine vdq (mone rfl) (vex rfl rfl) rfl rfl ?_
      refine vdq (mone rfl) (vex rfl rfl) rfl rfl ?_
      refine vdq (mone rfl) (vas rfl) rfl rfl ?_
      refine vdq (mone rfl) (vas rfl) rfl rfl ?_
      refine vdq (mone rfl) (vas rfl) rfl rfl ?_
      refine vdend (appHO_of _ _) ?_
      refine vseq ?_
      refine vseq ?_
      refine vregion ?_
      refine vone rfl (vxq (vmv rfl) rfl rfl ?_)
      refine vone rfl (vxq (vneq rfl rfl) rfl rfl ?_)
      refine vknow (d := 59) (b' := false) rfl (decide_eq_false (fun e => e (rfl))) ?_
      refine vone rfl (vxq (vmv rfl) rfl rfl ?_)
      refine vyes rfl rfl rfl (vxq (vmv rfl) rfl rfl ?_)
      refine vyes rfl rfl rfl (vxq (vlen rfl) rfl rfl ?_)
      refine vyes rfl rfl rfl (vxq (vmv rfl) rfl rfl ?_)
      refine vyes rfl rfl rfl (vxq (vlen rfl) rfl rfl ?_)
      refine vyes rfl rfl rfl (vxq (vneq rfl rfl) rfl rfl ?_)
      refine vknow (d := 65) (b' := false) rfl (decide_eq_false (fun e => e (by rw [hdl]))) ?_
      refine vone rfl (vxq (vpkf rfl rfl) rfl rfl ?_)
      refine vone rfl (vxq (vmv rfl) rfl rfl ?_)
      refine vyes rfl rfl rfl (vxq (vmv rfl) rfl rfl ?_)
      refine vyes rfl rfl rfl (vxq (vlen rfl) rfl rfl ?_)
      refine vyes rfl rfl rfl (vxq (vmv rfl) rfl rfl ?_)
      refine vyes rfl rfl rfl (vxq (vlen rfl) rfl rfl ?_)
      refine vyes rfl rfl rfl (vxq (vneq rfl rfl) rfl rfl ?_)
      refine vknow (d := 72) (b' := false) rfl (decide_eq_false (fun e => e (by rw [hdl]))) ?_
      refine vone rfl (vxq (vpkf rfl rfl) rfl rfl ?_)
      refine vnil ?_
      refine vcondf rfl ?_
      refine vskip ?_
      refine vseq ?_
      refine vregion ?_
      refine vone rfl (vxq (vas rfl) rfl rfl ?_)
      refine vnil ?_
      refine vblock ?_
      refine vwhile (σ := Int) (fun t => (s.ship.length - t).toNat) (fun t => [(2, ptr b1), (3, ptr b2), (5, .slice oa1 (dangerE w s).1.length c1), (7, (.slice (some ⟨b3, 0, Option.none⟩) s.ship.length s.ship.length)), (8, I i), (9, .slice oa2 s.ship.length c2), (10, .slice oa3 s.ship.length c3), (12, I t)]) (fun t => BT ++ ((b3, blk ((wantL w s i.toNat t.toNat).flatMap encB) 4) :: (B1 ++ ((b2, blk (clSc h s) 33) :: (b1, blk (clWn w) 23) :: H)))) (fun t => 0 ≤ t ∧ t ≤ s.ship.length) 0 ⟨by omega, by omega⟩ ⟨rfl, rfl, rfl, rfl, rfl, rfl, rfl, rfl, True.intro⟩ (by rw [List.append_nil]; exact .refl _) ?_
      rintro t ⟨ht0, htn⟩ IH2
      change VRun _ _ _ _ _ [(2, ptr b1), (3, ptr b2), (5, .slice oa1 (dangerE w s).1.length c1), (7, (.slice (some ⟨b3, 0, Option.none⟩) s.ship.length s.ship.length)), (8, I i), (9, .slice oa2 s.ship.length c2), (10, .slice oa3 s.ship.length c3), (12, I t)] _ (BT ++ ((b3, blk ((wantL w s i.toNat t.toNat).flatMap encB) 4) :: (B1 ++ ((b2, blk (clSc h s) 33) :: (b1, blk (clWn w) 23) :: H)))) _
      refine vseq ?_
      refine vseq ?_
      refine vregion ?_
      refine vone rfl (vxq (vmv rfl) rfl rfl ?_)
      refine vone rfl (vxq (vmv rfl) rfl rfl ?_)
      refine vone rfl (vxq (vlen rfl) rfl rfl ?_)
      refine vone rfl (vxq (vlss rfl rfl) rfl rfl ?_)
      refine vnil ?_
      refine vcondd rfl (fun h77 => ?_) (fun h77 => ?_)
      · skip
        have hkn := kn_at (w := w) (s := s) (nm := x.nm) (n := s.ship.length) (t := t.toNat) (by omega)
        have hwh := wh_at (w := w) (s := s) (nm := x.nm) (n := s.ship.length) (t := t.toNat) (by omega)
        obtain ⟨r, hr, hsm, hra⟩ := src_small hs0 (t := t.toNat) (by omega)
        have hrl := (List.getElem?_eq_some_iff.1 hr).1
        have hwl := wantL_at (w := w) (i := i.toNat) (t := t.toNat) (u := t.toNat) (by omega : t.toNat < s.ship.length)
        rw [if_neg (by omega)] at hwl
        generalize hzw : wantP w s i.toNat t.toNat = zw at hwl
        refine vskip ?_
        refine vseq ?_
        refine vblock ?_
        refine vseq ?_
        refine vseq ?_
        refine vregion ?_
        refine vone rfl (vxq (vmv rfl) rfl rfl ?_)
        refine vone rfl (vxq (vmv rfl) rfl rfl ?_)
        refine vone rfl (vxq (visg (enc := encB) rfl rfl (by omega) hkn) rfl rfl ?_)
        refine vone rfl (vxq (vldS1 (enc := encB) rfl hkn rfl) rfl rfl ?_)
        refine vone rfl (vxq (vnot rfl) rfl rfl ?_)
        refine vnil ?_
        refine vcond rfl (fun h84 => ?_) (fun h84 => ?_)
        · skip
          have hks : (knAt w s x.nm (t.toNat + 1)).isSome = false := by simpa using h84
          refine vexit (k' := _) rfl ?_
          refine vregion ?_
          refine vone rfl (vxq (vmv rfl) rfl rfl ?_)
          refine vone rfl (vxq (vadd rfl rfl (by unfold InR; omega)) rfl rfl ?_)
          refine vone rfl (vxq (vas rfl) rfl rfl ?_)
          refine vnil ?_
          first
            | (rw [wantL_skip (w := w) (s := s) (i := i.toNat) (t := t.toNat) (by omega) (skip_want hx hks), show t.toNat + 1 = (t + 1).toNat by omega]; exact vback (IH2 (t + 1) ⟨by omega, by omega⟩ (by show (_ : Int).toNat < (_ : Int).toNat; omega)) ⟨rfl, rfl, rfl, rfl, rfl, rfl, rfl, rfl, True.intro⟩ sb2)
            | (rw [show t.toNat + 1 = (t + 1).toNat by omega]; exact vback (IH2 (t + 1) ⟨by omega, by omega⟩ (by show (_ : Int).toNat < (_ : Int).toNat; omega)) ⟨rfl, rfl, rfl, rfl, rfl, rfl, rfl, rfl, True.intro⟩ sb2)
        · skip
          have hks : (knAt w s x.nm (t.toNat + 1)).isSome = true := by simpa using h84
          have htg := kn_tgt hw hs0 hks
          have hrk := risk_at (w := w) (s := s) (t := t.toNat) hks
          have hws := want_succ (w := w) (t := t.toNat) hx
          refine vskip ?_
          refine vseq ?_
          refine vdraw [(.q, 0), (.q, 1), (.q, 2), (.q, 3), (.q, 4), (.q, 5), (.q, 6), (.q, 7), (.q, 8), (.q, 9), (.q, 10), (.q, 11), (.q, 12), (.a (blk [.int .i64 0, .int .i64 0] 53), 13), (.s, 14), (.q, 15)] Tryd.mixed (by kernel_rfl) ⟨⟨_, _, _, _, _, rfl, _, inferInstance, rfl⟩, True.intro⟩ ?_
          refine vdq (mone rfl) (vfa rfl) rfl rfl ?_
          refine vdq (mone rfl) (vld1 rfl rfl) rfl rfl ?_
          refine vdq (mone rfl) (vmv rfl) rfl rfl ?_
          refine vdq (mone rfl) (visg (enc := clR) rfl rfl (by omega) hr) rfl rfl ?_
          refine vdq (mone rfl) (vldS (enc := clR) rfl hr) rfl rfl ?_
          refine vdq (mone rfl) (vmv rfl) rfl rfl ?_
          refine vdq (mone rfl) (vmv rfl) rfl rfl ?_
          refine vdq (mone rfl) (visg (enc := clR) rfl rfl (by omega) hwh) rfl rfl ?_
          refine vdq (mone rfl) (vldS (enc := clR) rfl hwh) rfl rfl ?_
          refine vdq (mone rfl) (vcp rfl rfl rfl (c_Gap r ((knAt w s x.nm (t.toNat + 1)).getD (zR, 0)).1)) rfl rfl ?_
          refine vdq (mone rfl) (vmv rfl) rfl rfl ?_
          refine vdq (mone rfl) (vex rfl rfl) rfl rfl ?_
          refine vdq (mone rfl) (vex rfl rfl) rfl rfl ?_
          refine vda rfl rfl (fun b3 => ?_)
          refine vds (mone rfl) (vstn rfl rfl rfl rfl rfl) rfl ?_
          refine vdq (mone rfl) (vas rfl) rfl rfl ?_
          refine vdend rfl ?_
          refine vseq ?_
          refine vseq ?_
          refine vregion ?_
          refine vone rfl (vxq (vmv rfl) rfl rfl ?_)
          refine vone rfl (vxq (vneq rfl rfl) rfl rfl ?_)
          refine vknow (d := 99) (b' := false) rfl (decide_eq_false (fun e => e (gap_e0 hsm htg))) ?_
          refine vnil ?_
          refine vcondf rfl ?_
          refine vskip ?_
          refine vregion ?_
          refine vone rfl (vxq (vmv rfl) rfl rfl ?_)
          refine vone rfl (vxq (vmv rfl) rfl rfl ?_)
          refine vone rfl (vxq (vmv rfl) rfl rfl ?_)
          refine vone rfl (vxq (vmv rfl) rfl rfl ?_)
          refine vone rfl (vxq (visg (enc := encB) (xs := wantL w s i.toNat t.toNat) rfl rfl (by omega) hwl) rfl rfl ?_)
          refine vone rfl (vxq (vldS1 (enc := encB) (xs := wantL w s i.toNat t.toNat) rfl hwl rfl) rfl rfl ?_)
          rcases zw with _ | _
          · skip
            refine vone rfl (vxq (vmv rfl) rfl rfl ?_)
            refine vyes rfl rfl rfl (vxq (vfa rfl) rfl rfl ?_)
            refine vyes rfl rfl rfl (vxq (vld1 rfl rfl) rfl rfl ?_)
            refine vyes rfl rfl rfl (vxq (vfa rfl) rfl rfl ?_)
            refine vyes rfl rfl rfl (vxq (vld1 rfl rfl) rfl rfl ?_)
            refine vyes rfl rfl rfl (vxq (vfa rfl) rfl rfl ?_)
            refine vyes rfl rfl rfl (vxq (vld1 rfl rfl) rfl rfl ?_)
            refine vyes rfl rfl rfl (vxq (vmul rfl rfl (by unfold InR; omega)) rfl rfl ?_)
            refine vyes rfl rfl rfl (vxq (vleq rfl rfl) rfl rfl ?_)
            refine vone rfl (vxq (vpkf rfl rfl) rfl rfl ?_)
            refine vone rfl (vxq (vis rfl rfl (by omega)) rfl rfl ?_)
            refine vone rfl (vxs (vst1 rfl rfl rfl (by first | exact gap_put (z := true) (by omega) (by rw [hws, hzw]; rfl) | exact gap_put (by omega) (by rw [hws, hzw, hrk, hra]; rfl))) rfl ?_)
            refine vnil ?_
            refine vinblock ?_
            refine vregion ?_
            refine vone rfl (vxq (vmv rfl) rfl rfl ?_)
            refine vone rfl (vxq (vadd rfl rfl (by unfold InR; omega)) rfl rfl ?_)
            refine vone rfl (vxq (vas rfl) rfl rfl ?_)
            refine vnil ?_
            first
              | (rw [wantL_skip (w := w) (s := s) (i := i.toNat) (t := t.toNat) (by omega) (skip_want hx hks), show t.toNat + 1 = (t + 1).toNat by omega]; exact vback (IH2 (t + 1) ⟨by omega, by omega⟩ (by show (_ : Int).toNat < (_ : Int).toNat; omega)) ⟨rfl, rfl, rfl, rfl, rfl, rfl, rfl, rfl, True.intro⟩ sb2)
              | (rw [show t.toNat + 1 = (t + 1).toNat by omega]; exact vback (IH2 (t + 1) ⟨by omega, by omega⟩ (by show (_ : Int).toNat < (_ : Int).toNat; omega)) ⟨rfl, rfl, rfl, rfl, rfl, rfl, rfl, rfl, True.intro⟩ sb2)
          · skip
            refine vone rfl (vxq (vmv rfl) rfl rfl ?_)
            refine vno rfl rfl rfl rfl rfl ?_
            refine vno rfl rfl rfl rfl rfl ?_
            refine vno rfl rfl rfl rfl rfl ?_
            refine vno rfl rfl rfl rfl rfl ?_
            refine vno rfl rfl rfl rfl rfl ?_
            refine vno rfl rfl rfl rfl rfl ?_
            refine vno rfl rfl rfl rfl rfl ?_
            refine vno rfl rfl rfl rfl rfl ?_
            refine vone rfl (vxq (vpkt rfl rfl) rfl rfl ?_)
            refine vone rfl (vxq (vis rfl rfl (by omega)) rfl rfl ?_)
            refine vone rfl (vxs (vst1 rfl rfl rfl (by first | exact gap_put (z := true) (by omega) (by rw [hws, hzw]; rfl) | exact gap_put (by omega) (by rw [hws, hzw, hrk, hra]; rfl))) rfl ?_)
            refine vnil ?_
            refine vinblock ?_
            refine vregion ?_
            refine vone rfl (vxq (vmv rfl) rfl rfl ?_)
            refine vone rfl (vxq (vadd rfl rfl (by unfold InR; omega)) rfl rfl ?_)
            refine vone rfl (vxq (vas rfl) rfl rfl ?_)
            refine vnil ?_
            first
              | (rw [wantL_skip (w := w) (s := s) (i := i.toNat) (t := t.toNat) (by omega) (skip_want hx hks), show t.toNat + 1 = (t + 1).toNat by omega]; exact vback (IH2 (t + 1) ⟨by omega, by omega⟩ (by show (_ : Int).toNat < (_ : Int).toNat; omega)) ⟨rfl, rfl, rfl, rfl, rfl, rfl, rfl, rfl, True.intro⟩ sb2)
              | (rw [show t.toNat + 1 = (t + 1).toNat by omega]; exact vback (IH2 (t + 1) ⟨by omega, by omega⟩ (by show (_ : Int).toNat < (_ : Int).toNat; omega)) ⟨rfl, rfl, rfl, rfl, rfl, rfl, rfl, rfl, True.intro⟩ sb2)
      · skip
        refine vexit (k' := _) rfl ?_
        refine vinblock ?_
        refine vregion ?_
        refine vone rfl (vxq (vmv rfl) rfl rfl ?_)
        refine vone rfl (vxq (vadd rfl rfl (by unfold InR; omega)) rfl rfl ?_)
        refine vone rfl (vxq (vas rfl) rfl rfl ?_)
        refine vnil ?_
        rw [show t.toNat = s.ship.length by omega, wantL_next, show i.toNat + 1 = (i + 1).toNat by omega]
        exact vback (IH (i + 1) ⟨by omega, by omega⟩ (by show (_ : Int).toNat < (_ : Int).toNat; omega)) ⟨rfl, rfl, rfl, rfl, rfl, True.intro⟩ sb2
    · skip
      refine vexit (k' := _) rfl ?_
      refine vseq ?_
      refine vregion ?_
      refine vone rfl (vxq (vmv rfl) rfl rfl ?_)
      refine vone rfl (vxq (vmv rfl) rfl rfl ?_)
      refine vone rfl (vxq (vcq rfl rfl rfl (c_AlikeB (dangerE w s).1 (wantL w s i.toNat 0) oa1 (some ⟨b3, 0, Option.none⟩) (dangerE w s).1.length s.ship.length c1 s.ship.length rfl (wantL_len _ _ _ _) (by omega) _)) rfl rfl ?_)
      refine vknow (d := 119) (b' := true) rfl (decide_eq_true (by rw [want_end hd0]; exact congrArg (fun j => wantL w s j 0) (by omega))) ?_
      refine vone rfl (vxq (vmv rfl) rfl rfl ?_)
      refine vyes rfl rfl rfl (vxq (vcq rfl rfl rfl (c_works _)) rfl rfl ?_)
      refine vknow (d := 121) (b' := true) rfl rfl ?_
      refine vone rfl (vxq (vpkt rfl rfl) rfl rfl ?_)
      refine vone rfl (vxq (vas rfl) rfl rfl ?_)
      refine vnil ?_
      refine vret (vr1 (H' := H) Tryd.func9 rfl (.tmp rfl) sb2 ?_)
      exact ⟨rfl, rfl⟩
end Go.Proofs.YtaplkoimhecacaaDoor
