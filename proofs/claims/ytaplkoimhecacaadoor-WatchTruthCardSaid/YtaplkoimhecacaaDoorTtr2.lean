/-
  The walk of seen. The walk of WatchKnown. The walk of WatchTruth.
-/
import Derived.Test.YtaplkoimhecacaaDoorTtr1
namespace Go.Proofs.YtaplkoimhecacaaDoor
open Go
set_option maxRecDepth 100000
attribute [local irreducible] tightP hullP rootP farP rows endsOf restP pickP swW sqW octW innF outF aroundR seeS newP rootE

theorem newP_t {w : Wn} {lb : List Int} {t i : Nat} {p : Pt} (h : 0 < (t : Int)) : newP w lb t i p = swW p w.speed lb (7 * t + 3 * i) := by
  unfold newP; rw [if_neg (by omega)]
theorem newP_0 {w : Wn} {lb : List Int} {t i : Nat} {p : Pt} (h : ¬ (t : Int) > 0) : newP w lb t i p = p := by
  unfold newP; rw [if_pos (by omega)]
instance (priority := low) HOut.appR {A H H0 : Heap} {b : Nat} {o : Obj} [h : HOut H b o H0] : HOut (A ++ H) b o (A ++ H0) := ⟨(h.perm.append_left A).trans List.perm_middle⟩
theorem snoc_flat {α : Type} {f : α → List Value} {l : List α} {z : α} : (l ++ [z]).flatMap f = l.flatMap f ++ f z := by simp
section
variable {P : Program} {f : FuncId} {ro : Option Nat} {N : Nat} {k k' : List Item} {E E' : Env} {D : List Deferred} {H : Heap} {Q : Out → Heap → Prop}
theorem vjoinA {α : Type} {C : α → Prop} {H' : α → Heap} (h2 : (∀ a, C a → VRun P f ro N k' E' D (H' a) Q) → VRun P f ro N k E D H Q) (h1 : ∀ a, C a → VRun P f ro N k' E' D (H' a) Q) : VRun P f ro N k E D H Q := h2 h1
end
theorem snocP {l : List Pt} {z : Pt} : (l ++ [z]).flatMap encP = l.flatMap encP ++ encP z := by simp
theorem snocS {l : List Sg} {z : Sg} : (l ++ [z]).flatMap clSg = l.flatMap clSg ++ clSg z := by simp
theorem snocD {L : List Dn} {d : Dn} : (L ++ [d]).flatMap encD = L.flatMap encD ++ encD d := by simp


theorem snocB {l : List Bool} {z : Bool} : (l ++ [z]).flatMap encB = l.flatMap encB ++ encB z := by simp
theorem dn_snoc {L : List Dn} {d d' : Dn} {M C : Heap} (h : ∀ d ∈ L, SlO M d.oa 2 encP d.l) (h2 : SlO C d'.oa 2 encP d'.l) (hd : d ∈ L ++ [d']) : SlO (C ++ M) d.oa 2 encP d.l := by
  rcases List.mem_append.1 hd with hd | hd
  · exact (h d hd).sub (fun e he => List.mem_append_right _ he)
  · rw [List.mem_singleton.1 hd]; exact h2.sub (fun e he => List.mem_append_left _ he)

set_option maxHeartbeats 8000000 in
/-- paravane/paravanelaw06.seen -/
theorem d_seen (w : Wn) (o1 : Option Addr) (c1 : Nat) (ls : List Pt) (o2 : Option Addr) (c2 : Nat) (la : List Pt) (o3 : Option Addr) (c3 : Nat) (lb : List Int) (wd : Int) (H : Heap) [hs1 : SlO H o1 2 encP ls] [hs2 : SlO H o2 2 encP la] [hs3 : SlO H o3 1 encI lb] (hm1 : ls.length ≤ 9223372036854775807) (hm2 : la.length ≤ 9223372036854775807) (hm3 : lb.length ≤ 9223372036854775807) (hc2 : la.length ≤ c2) (hgs : ∀ p ∈ ls, InR p.x ∧ InR p.y) (hb : ∀ n ∈ lb, InR n) (hwd : InR wd) : VCall Tryd.prog 40 [vWn w, .agg (clLf o1 ls.length c1 o2 la.length c2 o3 lb.length c3 wd).toArray].toArray H (fun o H' => ∃ v, o = .val v ∧ ∃ B, H' = B ++ H ∧ SeenR w ls (la.take (min 3 (la.length : Int)).toNat) lb wd v B) := by
 have hrb4 := rest_bd (n := wd) (m := 4) (by omega)
 have hrb3 := rest_bd (n := wd) (m := 3) (by omega)
 have hrb5 := rest_bd (n := wd) (m := 5) (by omega)
 refine vcall_of_vrun Tryd.func40 rfl (N := 261) rfl rfl ?_
 refine vseq ?_
 refine vregion ?_
 refine vone rfl (vxa (vbox rfl rfl) rfl rfl (fun b1 => ?_))
 refine vone rfl (vxa (vbox rfl rfl) rfl rfl (fun b2 => ?_))
 refine vone rfl (vxa valloc rfl rfl (fun b3 => ?_))
 refine vone rfl (vxq (vas rfl) rfl rfl ?_)
 refine vone rfl (vxq (vas rfl) rfl rfl ?_)
 refine vone rfl (vxq (vas rfl) rfl rfl ?_)
 refine vnil ?_
 refine vseq ?_
 refine vregion ?_
 refine vone rfl (vxa valloc rfl rfl (fun b4 => ?_))
 refine vnil ?_
 refine vseq ?_
 refine vregion ?_
 refine vone rfl (vxq (vas rfl) rfl rfl ?_)
 refine vnil ?_
 refine vseq ?_
 refine vregion ?_
 refine vone rfl (vxq (vas rfl) rfl rfl ?_)
 refine vnil ?_
 refine vseq ?_
 refine vregion ?_
 refine vone rfl (vxg (vbs rfl rfl rfl rfl rfl rfl) rfl rfl ?_)
 rintro _ _ ⟨b5, rfl, rfl⟩
 refine vone rfl (vxq (vas rfl) rfl rfl ?_)
 refine vnil ?_
 refine vseq ?_
 refine vregion ?_
 refine vone rfl (vxg vbs0 rfl rfl ?_)
 rintro _ _ ⟨b6, rfl, rfl⟩
 refine vone rfl (vxq (vfa rfl) rfl rfl ?_)
 refine vone rfl (vxq (vld1 rfl rfl) rfl rfl ?_)
 refine vone rfl (vxq (vfa rfl) rfl rfl ?_)
 refine vone rfl (vxq (vld1 rfl rfl) rfl rfl ?_)
 refine vone rfl (vxq (vlen rfl) rfl rfl ?_)
 refine vone rfl (vxq (vmin2 rfl rfl) rfl rfl ?_)
 refine vone rfl (vxq (vslcH rfl rfl (by omega) (by omega)) rfl rfl ?_)
 refine vone rfl (vxg (vappL (enc := encP) (l := (la.take (min 3 (la.length : Int)).toNat)) (n := 0) (m := (min 3 (la.length : Int)).toNat) (size := 2) (bytes := 16) (xs := []) (B := [(b6, blk [] 73)]) (fun X => X ++ ((b5, blk [.string annB, .string bobB, .string calB] 9) :: (b4, blk [.slice Option.none 0 0, .slice Option.none 0 0, .slice Option.none 0 0, .slice Option.none 0 0, .slice Option.none 0 0] 33) :: (b3, blk [.slice Option.none 0 0, .slice Option.none 0 0, .slice Option.none 0 0, .slice Option.none 0 0, .slice Option.none 0 0] 33) :: (b2, blk (clLf o1 ls.length c1 o2 la.length c2 o3 lb.length c3 wd) 71) :: (b1, blk (clWn w) 23) :: H)) (fun X => .refl _) rfl rfl OwnS.empty ((SlO.tk hs2 _).sub (fun e he => by simp [he])) (by rw [List.length_take]; omega) (fun _ => rfl) (by decide) (one1 (enc := encP) (fun _ => rfl) _) (by simp only [maxLen]; omega) (by omega)) rfl rfl ?_)
 rintro _ _ ⟨U8, hU8, rfl⟩
 obtain ⟨u8, v8, rfl, _⟩ := hU8.shape
 rw [Nat.zero_add, List.nil_append] at hU8
 rw [Nat.zero_add (min 3 (la.length : Int)).toNat]
 refine vone rfl (vxq (vas rfl) rfl rfl ?_)
 refine vnil ?_
 refine vseq ?_
 refine vseq ?_
 refine VRun.perm (H' := (b4, blk [.slice Option.none 0 0, .slice Option.none 0 0, .slice Option.none 0 0, .slice Option.none 0 0, .slice Option.none 0 0] 33) :: (U8 ++ ((b5, blk [.string annB, .string bobB, .string calB] 9) :: (b3, blk [.slice Option.none 0 0, .slice Option.none 0 0, .slice Option.none 0 0, .slice Option.none 0 0, .slice Option.none 0 0] 33) :: (b2, blk (clLf o1 ls.length c1 o2 la.length c2 o3 lb.length c3 wd) 71) :: (b1, blk (clWn w) 23) :: H))) (pmS0 U8 [(b5, _)] [(b4, _)] _) ?_
 haveI hnames : SlO ((b5, blk [.string annB, .string bobB, .string calB] 9) :: (b3, blk [.slice Option.none 0 0, .slice Option.none 0 0, .slice Option.none 0 0, .slice Option.none 0 0, .slice Option.none 0 0] 33) :: (b2, blk (clLf o1 ls.length c1 o2 la.length c2 o3 lb.length c3 wd) 71) :: (b1, blk (clWn w) 23) :: H) (some ⟨b5, 0, Option.none⟩) 1 encN nmL := SlO.flat (fun _ => rfl) rfl
 refine vregion ?_
 refine vone rfl (vxq (vas rfl) rfl rfl ?_)
 refine vnil ?_
 refine vblock ?_
 refine vwhile (σ := Nat × STt × Option Addr × Nat × Option Addr × Nat × Option Addr × Nat × Option Addr × Nat × Option Addr × Nat × Option Addr × Nat × Option Addr × Nat × Option Addr × Nat × Heap × Heap × Heap × Heap × Heap × Heap × Heap × Heap × Heap × List Dn) (fun ⟨t, S, p1, k1, p2, k2, p3, k3, p4, k4, p5, k5, p6, k6, p7, k7, p8, k8, C1, C2, C3, C4, C5, C6, C7, C8, M, L⟩ => 20 - t) (fun ⟨t, S, p1, k1, p2, k2, p3, k3, p4, k4, p5, k5, p6, k6, p7, k7, p8, k8, C1, C2, C3, C4, C5, C6, C7, C8, M, L⟩ => [(2, ptr b1), (3, ptr b2), (4, ptr b3), (8, ptr b4), (9, .slice p7 t k7), (10, .slice p6 t k6), (11, (.slice (some ⟨b5, 0, Option.none⟩) 3 3)), (12, .slice p8 (min 3 (la.length : Int)).toNat k8), (13, I (t : Int))]) (fun ⟨t, S, p1, k1, p2, k2, p3, k3, p4, k4, p5, k5, p6, k6, p7, k7, p8, k8, C1, C2, C3, C4, C5, C6, C7, C8, M, L⟩ => (b4, blk [.slice p1 t k1, .slice p2 t k2, .slice p3 t k3, .slice p4 t k4, .slice p5 S.sg.length k5] 33) :: (C8 ++ (C5 ++ ((C1 ++ (C2 ++ (C3 ++ C4))) ++ (C6 ++ (C7 ++ (M ++ ((b5, blk [.string annB, .string bobB, .string calB] 9) :: (b3, blk [.slice Option.none 0 0, .slice Option.none 0 0, .slice Option.none 0 0, .slice Option.none 0 0, .slice Option.none 0 0] 33) :: (b2, blk (clLf o1 ls.length c1 o2 la.length c2 o3 lb.length c3 wd) 71) :: (b1, blk (clWn w) 23) :: H)))))))) (fun ⟨t, S, p1, k1, p2, k2, p3, k3, p4, k4, p5, k5, p6, k6, p7, k7, p8, k8, C1, C2, C3, C4, C5, C6, C7, C8, M, L⟩ => SnI w ls (la.take (min 3 (la.length : Int)).toNat) lb wd (min 3 (la.length : Int)).toNat t S p1 k1 p2 k2 p3 k3 p4 k4 p5 k5 p6 k6 p7 k7 p8 k8 C1 C2 C3 C4 C5 C6 C7 C8 M L) (0, ⟨[], [], [], [], [], [], [], (la.take (min 3 (la.length : Int)).toNat)⟩, Option.none, 0, Option.none, 0, Option.none, 0, Option.none, 0, Option.none, 0, Option.none, 0, Option.none, 0, u8, v8, [], [], [], [], [], [], [], U8, [], []) ⟨by unfold outF; rfl, by omega, by rw [List.length_take]; omega, OwnS.nil, OwnS.nil, OwnS.nil, OwnS.nil, OwnS.nil, OwnS.nil, OwnS.nil, hU8, rfl, fun d hd => by cases hd⟩ ⟨rfl, rfl, rfl, rfl, rfl, rfl, rfl, rfl, rfl, True.intro⟩ sb ?_
 rintro ⟨t, S, p1, k1, p2, k2, p3, k3, p4, k4, p5, k5, p6, k6, p7, k7, p8, k8, C1, C2, C3, C4, C5, C6, C7, C8, M, L⟩ hI IH
 change VRun _ _ _ _ _ [(2, ptr b1), (3, ptr b2), (4, ptr b3), (8, ptr b4), (9, .slice p7 t k7), (10, .slice p6 t k6), (11, (.slice (some ⟨b5, 0, Option.none⟩) 3 3)), (12, .slice p8 (min 3 (la.length : Int)).toNat k8), (13, I (t : Int))] _ ((b4, blk [.slice p1 t k1, .slice p2 t k2, .slice p3 t k3, .slice p4 t k4, .slice p5 S.sg.length k5] 33) :: (C8 ++ (C5 ++ ((C1 ++ (C2 ++ (C3 ++ C4))) ++ (C6 ++ (C7 ++ (M ++ ((b5, blk [.string annB, .string bobB, .string calB] 9) :: (b3, blk [.slice Option.none 0 0, .slice Option.none 0 0, .slice Option.none 0 0, .slice Option.none 0 0, .slice Option.none 0 0] 33) :: (b2, blk (clLf o1 ls.length c1 o2 la.length c2 o3 lb.length c3 wd) 71) :: (b1, blk (clWn w) 23) :: H)))))))) _
 have hL := outF_len hI.e
 obtain ⟨ht20, htl⟩ := hI.tb
 have hma := hI.ma
 have ht1 := hL.l1
 refine vseq ?_
 refine vseq ?_
 refine vregion ?_
 refine vone rfl (vxq (vmv rfl) rfl rfl ?_)
 refine vone rfl (vxq (vfa rfl) rfl rfl ?_)
 refine vone rfl (vxq (vld1 rfl rfl) rfl rfl ?_)
 refine vone rfl (vxq (vlen rfl) rfl rfl ?_)
 refine vone rfl (vxq (vlss rfl rfl) rfl rfl ?_)
 refine vone rfl (vxq (vmv rfl) rfl rfl ?_)
 refine vsplitd (d := 40) rfl (fun h40 => ?_) (fun h40 => ?_)
 ·
  refine vyes rfl rfl rfl (vxq (vmv rfl) rfl rfl ?_)
  refine vyes rfl rfl rfl (vxq (vlss rfl rfl) rfl rfl ?_)
  refine vone rfl (vxq (vpkt rfl rfl) rfl rfl ?_)
  refine vnil ?_
  refine vcondd rfl (fun h43 => ?_) (fun h43 => ?_)
  ·
   obtain ⟨o, ho⟩ := get_of_lt ls (i := t) (by omega)
   have hoR := hgs o (List.mem_of_getElem? ho)
   refine vskip ?_
   refine vseq ?_
   refine vblock ?_
   refine vseq ?_
   refine vregion ?_
   refine vone rfl (vxq (vfa rfl) rfl rfl ?_)
   refine vone rfl (vxq (vld1 rfl rfl) rfl rfl ?_)
   refine vone rfl (vxq (vmv rfl) rfl rfl ?_)
   refine vone rfl (vxq (visg (enc := encP) rfl rfl (by omega) (z := o) ho) rfl rfl ?_)
   refine vone rfl (vxq (vldS (enc := encP) rfl (z := o) ho) rfl rfl ?_)
   refine vone rfl (vxa valloc rfl rfl (fun b7 => ?_))
   refine vone rfl (vxs (vstn rfl rfl rfl rfl rfl) rfl ?_)
   refine vnil ?_
   refine vseq ?_
   refine vregion ?_
   refine vone rfl (vxq (vfa rfl) rfl rfl ?_)
   refine vone rfl (vxq (vld1 rfl rfl) rfl rfl ?_)
   refine vone rfl (vxq (vsubw rfl rfl) rfl rfl ?_)
   refine vone rfl (vxq (vfa rfl) rfl rfl ?_)
   refine vone rfl (vxq (vld1 rfl rfl) rfl rfl ?_)
   refine vone rfl (vxq (vbd rfl rfl) rfl rfl ?_)
   refine vone rfl (vxa valloc rfl rfl (fun b8 => ?_))
   refine vone rfl (vxs (vstn rfl rfl rfl rfl rfl) rfl ?_)
   refine vnil ?_
   refine vseq ?_
   refine vseq ?_
   refine vregion ?_
   refine vone rfl (vxq (vfa rfl) rfl rfl ?_)
   refine vone rfl (vxq (vld1 rfl rfl) rfl rfl ?_)
   refine vone rfl (vxq (vcp rfl rfl rfl (c_ref00_Between _ _ _)) rfl rfl ?_)
   refine vone rfl (vxq (vnotd rfl) rfl rfl ?_)
   refine vone rfl (vxq (vmv rfl) rfl rfl ?_)
   refine vsplitd (d := 61) rfl (fun h61 => ?_) (fun h61 => ?_)
   ·
    refine vno rfl rfl rfl rfl rfl ?_
    refine vno rfl rfl rfl rfl rfl ?_
    refine vno rfl rfl rfl rfl rfl ?_
    refine vno rfl rfl rfl rfl rfl ?_
    refine vone rfl (vxq (vpkt rfl rfl) rfl rfl ?_)
    refine vnil ?_
    refine vcondt rfl ?_
    refine vseq ?_
    refine vregion ?_
    refine vone rfl (vxq (vldn rfl rfl) rfl rfl ?_)
    refine vone rfl (vxs (vstn rfl rfl rfl rfl rfl) rfl ?_)
    refine vone rfl (vxq (vas rfl) rfl rfl ?_)
    refine vone rfl (vxq (vas rfl) rfl rfl ?_)
    refine vone rfl (vxq (vas rfl) rfl rfl ?_)
    refine vnil ?_
    refine vret (vr4 (H' := H) Tryd.func40 rfl (.celln rfl rfl) (.tmp rfl) (.tmp rfl) (.tmp rfl) sb2 ?_)
    first | (exact seen_fin hI (nm_small hI.e)) | (exact ⟨_, rfl, [], rfl, .inl ⟨_, _, _, _, _, _, _, _, _, _, _, _, _, _, _, _, _, rfl⟩⟩)
   ·
    refine vyes rfl rfl rfl (vxq (vfa rfl) rfl rfl ?_)
    refine vyes rfl rfl rfl (vxq (vld1 rfl rfl) rfl rfl ?_)
    refine vyes rfl rfl rfl (vxq (vcp rfl rfl rfl (c_ref00_Between _ _ _)) rfl rfl ?_)
    refine vyes rfl rfl rfl (vxq (vnotd rfl) rfl rfl ?_)
    refine vone rfl (vxq (vpkf rfl rfl) rfl rfl ?_)
    refine vnil ?_
    refine vcondd rfl (fun h66 => ?_) (fun h66 => ?_)
    ·
     refine vseq ?_
     refine vregion ?_
     refine vone rfl (vxq (vldn rfl rfl) rfl rfl ?_)
     refine vone rfl (vxs (vstn rfl rfl rfl rfl rfl) rfl ?_)
     refine vone rfl (vxq (vas rfl) rfl rfl ?_)
     refine vone rfl (vxq (vas rfl) rfl rfl ?_)
     refine vone rfl (vxq (vas rfl) rfl rfl ?_)
     refine vnil ?_
     refine vret (vr4 (H' := H) Tryd.func40 rfl (.celln rfl rfl) (.tmp rfl) (.tmp rfl) (.tmp rfl) sb2 ?_)
     first | (exact seen_fin hI (nm_small hI.e)) | (exact ⟨_, rfl, [], rfl, .inl ⟨_, _, _, _, _, _, _, _, _, _, _, _, _, _, _, _, _, rfl⟩⟩)
    ·
     have hok : ok20 o := by unfold ok20; omega
     have hwq : IntKind.i64.wrap (o.x - 10) = o.x - 10 := wrap_id (by unfold ok20 at hok; unfold InR; omega)
     rw [hwq]
     refine vskip ?_
     refine vseq ?_
     refine vdraw [(.q, 0), (.q, 1), (.q, 2), (.q, 3), (.q, 4), (.q, 5), (.q, 6), (.q, 7), (.a (blk [.int .i64 0, .int .i64 0, .int .i64 0, .int .i64 0, .int .i64 0, .int .i64 0, .int .i64 0, .int .i64 0] 55), 8), (.s, 9), (.q, 10)] Tryd.mixed (by kernel_rfl) ⟨⟨_, _, _, _, _, rfl, _, inferInstance, rfl⟩, True.intro⟩ ?_
     refine vdq (mone rfl) (vldn rfl rfl) rfl rfl ?_
     refine vdq (mone rfl) (vfa rfl) rfl rfl ?_
     refine vdq (mone rfl) (vld1 rfl rfl) rfl rfl ?_
     refine vdq (mone rfl) (vcp rfl rfl rfl (c_Rest wd 4 hwd (by unfold InR; omega))) rfl rfl ?_
     refine vdq (mone rfl) (vcq rfl rfl rfl (c_around o (restP wd 4) (by omega) (ok20_ptB hok).1 _)) rfl rfl ?_
     refine vdq (mone rfl) (vmv rfl) rfl rfl ?_
     refine vdq (mone rfl) (vex rfl rfl) rfl rfl ?_
     refine vdq (mone rfl) (vex rfl rfl) rfl rfl ?_
     refine vda rfl rfl (fun b9 => ?_)
     refine vds (mone rfl) (vstn rfl rfl rfl rfl rfl) rfl ?_
     refine vdq (mone rfl) (vas rfl) rfl rfl ?_
     refine vdend rfl ?_
     refine vseq ?_
     refine vdraw [(.q, 0), (.q, 1), (.q, 2), (.q, 3), (.q, 4), (.q, 5), (.q, 6), (.q, 7), (.a (blk [.int .i64 0, .int .i64 0, .int .i64 0, .int .i64 0, .int .i64 0, .int .i64 0, .int .i64 0, .int .i64 0] 55), 8), (.s, 9), (.q, 10)] Tryd.mixed (by kernel_rfl) ⟨⟨_, _, _, _, _, rfl, _, inferInstance, rfl⟩, True.intro⟩ ?_
     refine vdq (mone rfl) (vldn rfl rfl) rfl rfl ?_
     refine vdq (mone rfl) (vfa rfl) rfl rfl ?_
     refine vdq (mone rfl) (vld1 rfl rfl) rfl rfl ?_
     refine vdq (mone rfl) (vcp rfl rfl rfl (c_Rest wd 3 hwd (by unfold InR; omega))) rfl rfl ?_
     refine vdq (mone rfl) (vcq rfl rfl rfl (c_around ⟨o.x - 10, o.y⟩ (restP wd 3) (by omega) (ok20_ptB hok).2.1 _)) rfl rfl ?_
     refine vdq (mone rfl) (vmv rfl) rfl rfl ?_
     refine vdq (mone rfl) (vex rfl rfl) rfl rfl ?_
     refine vdq (mone rfl) (vex rfl rfl) rfl rfl ?_
     refine vda rfl rfl (fun b10 => ?_)
     refine vds (mone rfl) (vstn rfl rfl rfl rfl rfl) rfl ?_
     refine vdq (mone rfl) (vas rfl) rfl rfl ?_
     refine vdend rfl ?_
     refine vseq ?_
     refine vdrawP (G0 := (C1 ++ (C2 ++ (C3 ++ C4)))) (H0 := (b10, blk (clR (aroundR ⟨o.x - 10, o.y⟩ (restP wd 3))) 55) :: (b9, blk (clR (aroundR o (restP wd 4))) 55) :: (b8, blk (encP ⟨o.x - 10, o.y⟩) 73) :: (b7, blk (encP o) 73) :: (b4, blk [.slice p1 t k1, .slice p2 t k2, .slice p3 t k3, .slice p4 t k4, .slice p5 S.sg.length k5] 33) :: (C8 ++ (C5 ++ (C6 ++ (C7 ++ (M ++ ((b5, blk [.string annB, .string bobB, .string calB] 9) :: (b3, blk [.slice Option.none 0 0, .slice Option.none 0 0, .slice Option.none 0 0, .slice Option.none 0 0, .slice Option.none 0 0] 33) :: (b2, blk (clLf o1 ls.length c1 o2 la.length c2 o3 lb.length c3 wd) 71) :: (b1, blk (clWn w) 23) :: H))))))) (pq3 [(b10, blk (clR (aroundR ⟨o.x - 10, o.y⟩ (restP wd 3))) 55), (b9, blk (clR (aroundR o (restP wd 4))) 55), (b8, blk (encP ⟨o.x - 10, o.y⟩) 73), (b7, blk (encP o) 73), (b4, blk [.slice p1 t k1, .slice p2 t k2, .slice p3 t k3, .slice p4 t k4, .slice p5 S.sg.length k5] 33)] C8 C5 (C1 ++ (C2 ++ (C3 ++ C4))) (C6 ++ (C7 ++ (M ++ ((b5, blk [.string annB, .string bobB, .string calB] 9) :: (b3, blk [.slice Option.none 0 0, .slice Option.none 0 0, .slice Option.none 0 0, .slice Option.none 0 0, .slice Option.none 0 0] 33) :: (b2, blk (clLf o1 ls.length c1 o2 la.length c2 o3 lb.length c3 wd) 71) :: (b1, blk (clWn w) 23) :: H))))) [(.q, 0), (.q, 1), (.q, 2), (.q, 5), (.q, 6), (.q, 7), (.q, 10), (.q, 11), (.q, 14), (.q, 15), (.q, 16), (.q, 17), (.q, 18), (.m, 3), (.s, 4), (.q, 21), (.m, 8), (.s, 9), (.m, 12), (.s, 13), (.m, 19), (.s, 20), (.c, 22), (.q, 23), (.c, 24), (.q, 25), (.c, 26), (.q, 27), (.c, 28)] Tryd.mixed (by kernel_rfl) (allocOk_of _ (by kernel_rfl)) ?_
     refine vdq (mone rfl) (vfa rfl) rfl rfl ?_
     refine vdq (mone rfl) (vld1 rfl rfl) rfl rfl ?_
     refine vdq (mone rfl) (vldn rfl rfl) rfl rfl ?_
     refine vdq (mone rfl) (vfa rfl) rfl rfl ?_
     refine vdq (mone rfl) (vld1 rfl rfl) rfl rfl ?_
     refine vdq (mone rfl) (vldn rfl rfl) rfl rfl ?_
     refine vdq (mone rfl) (vfa rfl) rfl rfl ?_
     refine vdq (mone rfl) (vld1 rfl rfl) rfl rfl ?_
     refine vdq (mone rfl) (vfa rfl) rfl rfl ?_
     refine vdq (mone rfl) (vld1 rfl rfl) rfl rfl ?_
     refine vdq (mone rfl) (vmv rfl) rfl rfl ?_
     refine vdq (mone rfl) (vremp rfl rfl (by omega) (by omega)) rfl rfl ?_
     refine vdq (mone rfl) (veql rfl rfl) rfl rfl ?_
     refine vdm (mone rfl) (vbsP rfl rfl rfl rfl rfl rfl) rfl rfl (fun n1 => ?_)
     refine vdsd (mone rfl) (vappF (a := ⟨n1, 0, Option.none⟩) (m := 1) (c := 1) (size := 8) (bytes := 64) (F := fun X => (n1, blk (clR (aroundR o (restP wd 4))) 55) :: (X ++ (C2 ++ (C3 ++ C4)))) (B := C1) (xs := S.ship.flatMap clR) (news := clR (aroundR o (restP wd 4))) (fun X => perm_mid [(n1, blk (clR (aroundR o (restP wd 4))) 55)] X (C2 ++ (C3 ++ C4))) rfl rfl hI.h1 rfl (news_blk (b := n1) (List.Mem.head _)) (one1 (enc := clR) (fun _ => rfl) [(aroundR o (restP wd 4))] _ (by simp)) (by omega) (by simp only [maxLen]; omega) (by omega)) rfl rfl ?_
     rintro _ _ ⟨D1, hP1, _, rfl⟩
     obtain ⟨r1, j1, rfl, _⟩ := hP1.shape
     refine vdq (mone rfl) (vfa rfl) rfl rfl ?_
     refine vdm (mone rfl) (vbsP rfl rfl rfl rfl rfl rfl) rfl rfl (fun n2 => ?_)
     refine vdsd (mone rfl) (vappF (a := ⟨n2, 0, Option.none⟩) (m := 1) (c := 1) (size := 8) (bytes := 64) (F := fun X => (n2, blk (clR (aroundR ⟨o.x - 10, o.y⟩ (restP wd 3))) 55) :: (n1, blk (clR (aroundR o (restP wd 4))) 55) :: (D1 ++ (X ++ (C3 ++ C4)))) (B := C2) (xs := S.src.flatMap clR) (news := clR (aroundR ⟨o.x - 10, o.y⟩ (restP wd 3))) (fun X => perm_mid ((n2, blk (clR (aroundR ⟨o.x - 10, o.y⟩ (restP wd 3))) 55) :: (n1, blk (clR (aroundR o (restP wd 4))) 55) :: D1) X (C3 ++ C4)) rfl rfl hI.h2 rfl (news_blk (b := n2) (List.Mem.head _)) (one1 (enc := clR) (fun _ => rfl) [(aroundR ⟨o.x - 10, o.y⟩ (restP wd 3))] _ (by simp)) (by omega) (by simp only [maxLen]; omega) (by omega)) rfl rfl ?_
     rintro _ _ ⟨D2, hP2, _, rfl⟩
     obtain ⟨r2, j2, rfl, _⟩ := hP2.shape
     refine vdm (mone rfl) (vbsP rfl rfl rfl rfl rfl rfl) rfl rfl (fun n3 => ?_)
     refine vdsd (mone rfl) (vappF (a := ⟨n3, 0, Option.none⟩) (m := 1) (c := 1) (size := 1) (bytes := 1) (F := fun X => (n3, blk [.bool true] 4) :: (n2, blk (clR (aroundR ⟨o.x - 10, o.y⟩ (restP wd 3))) 55) :: (n1, blk (clR (aroundR o (restP wd 4))) 55) :: (D1 ++ (D2 ++ (X ++ C4)))) (B := C3) (xs := S.eyes.flatMap encB) (news := [.bool true]) (fun X => perm_mid2 ((n3, blk [.bool true] 4) :: (n2, blk (clR (aroundR ⟨o.x - 10, o.y⟩ (restP wd 3))) 55) :: (n1, blk (clR (aroundR o (restP wd 4))) 55) :: D1) D2 X C4) rfl rfl hI.h3 rfl (news_blk (b := n3) (List.Mem.head _)) (one1 (enc := encB) (fun _ => rfl) [true] _ (by simp)) (by omega) (by simp only [maxLen]; omega) (by omega)) rfl rfl ?_
     rintro _ _ ⟨D3, hP3, _, rfl⟩
     obtain ⟨r3, j3, rfl, _⟩ := hP3.shape
     refine vdm (mone rfl) (vbsP rfl rfl rfl rfl rfl rfl) rfl rfl (fun n4 => ?_)
     refine vdsd (mone rfl) (vappF (a := ⟨n4, 0, Option.none⟩) (m := 1) (c := 1) (size := 1) (bytes := 1) (F := fun X => (n4, blk [.bool (decide ((t : Int) % 2 = 0))] 4) :: (n3, blk [.bool true] 4) :: (n2, blk (clR (aroundR ⟨o.x - 10, o.y⟩ (restP wd 3))) 55) :: (n1, blk (clR (aroundR o (restP wd 4))) 55) :: (D1 ++ (D2 ++ (D3 ++ X)))) (B := C4) (xs := S.ears.flatMap encB) (news := [.bool (decide ((t : Int) % 2 = 0))]) (fun X => perm_mid3 ((n4, blk [.bool (decide ((t : Int) % 2 = 0))] 4) :: (n3, blk [.bool true] 4) :: (n2, blk (clR (aroundR ⟨o.x - 10, o.y⟩ (restP wd 3))) 55) :: (n1, blk (clR (aroundR o (restP wd 4))) 55) :: D1) D2 D3 X) rfl rfl hI.h4 rfl (news_blk (b := n4) (List.Mem.head _)) (one1 (enc := encB) (fun _ => rfl) [(decide ((t : Int) % 2 = 0))] _ (by simp)) (by omega) (by simp only [maxLen]; omega) (by omega)) rfl rfl ?_
     rintro _ _ ⟨D4, hP4, _, rfl⟩
     obtain ⟨r4, j4, rfl, _⟩ := hP4.shape
     refine vdcs (mone rfl) (vst1 rfl rfl rfl rfl) rfl ?_
     refine vdq (mone rfl) (vfa rfl) rfl rfl ?_
     refine vdcs (mone rfl) (vst1 rfl rfl rfl rfl) rfl ?_
     refine vdq (mone rfl) (vfa rfl) rfl rfl ?_
     refine vdcs (mone rfl) (vst1 rfl rfl rfl rfl) rfl ?_
     refine vdq (mone rfl) (vfa rfl) rfl rfl ?_
     refine vdcs (mone rfl) (vst1 rfl rfl rfl rfl) rfl ?_
     refine vdend (appHO_of _ _) ?_
     refine vseq ?_
     refine VRun.perm (H' := ((b10, blk (clR (aroundR ⟨o.x - 10, o.y⟩ (restP wd 3))) 55) :: (b9, blk (clR (aroundR o (restP wd 4))) 55) :: (b8, blk (encP ⟨o.x - 10, o.y⟩) 73) :: (b7, blk (encP o) 73) :: (b4, blk [.slice r1 (t + 1) j1, .slice r2 (t + 1) j2, .slice r3 (t + 1) j3, .slice r4 (t + 1) j4, .slice p5 S.sg.length k5] 33) :: (C8 ++ (C5 ++ ((D1 ++ (D2 ++ (D3 ++ D4))) ++ (C6 ++ (C7 ++ (M ++ ((b5, blk [.string annB, .string bobB, .string calB] 9) :: (b3, blk [.slice Option.none 0 0, .slice Option.none 0 0, .slice Option.none 0 0, .slice Option.none 0 0, .slice Option.none 0 0] 33) :: (b2, blk (clLf o1 ls.length c1 o2 la.length c2 o3 lb.length c3 wd) 71) :: (b1, blk (clWn w) 23) :: H)))))))) ++ [(n4, blk [.bool (decide ((t : Int) % 2 = 0))] 4), (n3, blk [.bool true] 4), (n2, blk (clR (aroundR ⟨o.x - 10, o.y⟩ (restP wd 3))) 55), (n1, blk (clR (aroundR o (restP wd 4))) 55)]) (pq4 [(n4, blk [.bool (decide ((t : Int) % 2 = 0))] 4), (n3, blk [.bool true] 4), (n2, blk (clR (aroundR ⟨o.x - 10, o.y⟩ (restP wd 3))) 55), (n1, blk (clR (aroundR o (restP wd 4))) 55)] (D1 ++ (D2 ++ (D3 ++ D4))) [(b10, blk (clR (aroundR ⟨o.x - 10, o.y⟩ (restP wd 3))) 55), (b9, blk (clR (aroundR o (restP wd 4))) 55), (b8, blk (encP ⟨o.x - 10, o.y⟩) 73), (b7, blk (encP o) 73), (b4, blk [.slice r1 (t + 1) j1, .slice r2 (t + 1) j2, .slice r3 (t + 1) j3, .slice r4 (t + 1) j4, .slice p5 S.sg.length k5] 33)] C8 C5 (C6 ++ (C7 ++ (M ++ ((b5, blk [.string annB, .string bobB, .string calB] 9) :: (b3, blk [.slice Option.none 0 0, .slice Option.none 0 0, .slice Option.none 0 0, .slice Option.none 0 0, .slice Option.none 0 0] 33) :: (b2, blk (clLf o1 ls.length c1 o2 la.length c2 o3 lb.length c3 wd) 71) :: (b1, blk (clWn w) 23) :: H))))) ?_
     refine VRun.sub (List.sublist_append_left _ _) ?_
     refine vregion ?_
     refine vone rfl (vxq (vmv rfl) rfl rfl ?_)
     refine vone rfl (vxq (vldn rfl rfl) rfl rfl ?_)
     refine vone rfl (vxg (vbs rfl rfl rfl rfl rfl rfl) rfl rfl ?_)
     rintro _ _ ⟨n15, rfl, rfl⟩
     refine vone rfl (vxg (vappF (a := ⟨n15, 0, Option.none⟩) (m := 1) (c := 1) (size := 2) (bytes := 16) (F := fun X => (n15, blk (encP ⟨o.x - 10, o.y⟩) 73) :: (b10, blk (clR (aroundR ⟨o.x - 10, o.y⟩ (restP wd 3))) 55) :: (b9, blk (clR (aroundR o (restP wd 4))) 55) :: (b8, blk (encP ⟨o.x - 10, o.y⟩) 73) :: (b7, blk (encP o) 73) :: (b4, blk [.slice r1 (t + 1) j1, .slice r2 (t + 1) j2, .slice r3 (t + 1) j3, .slice r4 (t + 1) j4, .slice p5 S.sg.length k5] 33) :: (C8 ++ (C5 ++ ((D1 ++ (D2 ++ (D3 ++ D4))) ++ (X ++ (C7 ++ (M ++ ((b5, blk [.string annB, .string bobB, .string calB] 9) :: (b3, blk [.slice Option.none 0 0, .slice Option.none 0 0, .slice Option.none 0 0, .slice Option.none 0 0, .slice Option.none 0 0] 33) :: (b2, blk (clLf o1 ls.length c1 o2 la.length c2 o3 lb.length c3 wd) 71) :: (b1, blk (clWn w) 23) :: H)))))))) (B := C6) (xs := S.guns.flatMap encP) (news := encP ⟨o.x - 10, o.y⟩) (fun X => pf4 [(n15, blk (encP ⟨o.x - 10, o.y⟩) 73), (b10, blk (clR (aroundR ⟨o.x - 10, o.y⟩ (restP wd 3))) 55), (b9, blk (clR (aroundR o (restP wd 4))) 55), (b8, blk (encP ⟨o.x - 10, o.y⟩) 73), (b7, blk (encP o) 73), (b4, blk [.slice r1 (t + 1) j1, .slice r2 (t + 1) j2, .slice r3 (t + 1) j3, .slice r4 (t + 1) j4, .slice p5 S.sg.length k5] 33)] C8 C5 (D1 ++ (D2 ++ (D3 ++ D4))) X (C7 ++ (M ++ ((b5, blk [.string annB, .string bobB, .string calB] 9) :: (b3, blk [.slice Option.none 0 0, .slice Option.none 0 0, .slice Option.none 0 0, .slice Option.none 0 0, .slice Option.none 0 0] 33) :: (b2, blk (clLf o1 ls.length c1 o2 la.length c2 o3 lb.length c3 wd) 71) :: (b1, blk (clWn w) 23) :: H)))) rfl rfl hI.h6 rfl (news_blk (b := n15) (List.Mem.head _)) (one1 (enc := encP) (fun _ => rfl) [⟨o.x - 10, o.y⟩] _ (by simp)) (by omega) (by simp only [maxLen]; omega) (by omega)) rfl rfl ?_)
     rintro _ _ ⟨D6, hP6, _, rfl⟩
     obtain ⟨r6, j6, rfl, _⟩ := hP6.shape
     refine vone rfl (vxq (vas rfl) rfl rfl ?_)
     refine vnil ?_
     refine vseq ?_
     refine vregion ?_
     refine vone rfl (vxq (vas rfl) rfl rfl ?_)
     refine vnil ?_
     refine vseq ?_
     refine vseq ?_
     refine vregion ?_
     refine vone rfl (vxq (vas rfl) rfl rfl ?_)
     refine vnil ?_
     refine vblock ?_
     refine vwhile (σ := Nat × List Pt × List Sg × Option Addr × Nat × Option Addr × Nat × Option Addr × Nat × Heap × Heap × Heap) (fun ⟨i, now, sg, p9, k9, q8, l8, q5, l5, C9, E8, E5⟩ => (min 3 (la.length : Int)).toNat - i) (fun ⟨i, now, sg, p9, k9, q8, l8, q5, l5, C9, E8, E5⟩ => [(2, ptr b1), (3, ptr b2), (4, ptr b3), (8, ptr b4), (9, .slice p7 t k7), (10, .slice r6 (t + 1) j6), (11, (.slice (some ⟨b5, 0, Option.none⟩) 3 3)), (12, .slice q8 (min 3 (la.length : Int)).toNat l8), (13, I (t : Int)), (14, ptr b7), (20, .slice p9 i k9), (21, I (i : Int))]) (fun ⟨i, now, sg, p9, k9, q8, l8, q5, l5, C9, E8, E5⟩ => (b7, blk (encP o) 73) :: (b4, blk [.slice r1 (t + 1) j1, .slice r2 (t + 1) j2, .slice r3 (t + 1) j3, .slice r4 (t + 1) j4, .slice q5 sg.length l5] 33) :: (C9 ++ (E8 ++ (E5 ++ ((D1 ++ (D2 ++ (D3 ++ D4))) ++ (D6 ++ (C7 ++ (M ++ ((b5, blk [.string annB, .string bobB, .string calB] 9) :: (b3, blk [.slice Option.none 0 0, .slice Option.none 0 0, .slice Option.none 0 0, .slice Option.none 0 0, .slice Option.none 0 0] 33) :: (b2, blk (clLf o1 ls.length c1 o2 la.length c2 o3 lb.length c3 wd) 71) :: (b1, blk (clWn w) 23) :: H))))))))) (fun ⟨i, now, sg, p9, k9, q8, l8, q5, l5, C9, E8, E5⟩ => InI w lb wd t o S.an S.sg (min 3 (la.length : Int)).toNat i now sg p9 k9 q8 l8 q5 l5 C9 E8 E5) (0, [], S.sg, Option.none, 0, p8, k8, p5, k5, [], C8, C5) ⟨by unfold innF; rfl, by omega, rfl, hL.l8, OwnS.nil, by simpa using hI.h8, hI.h5⟩ ⟨rfl, rfl, rfl, rfl, rfl, rfl, rfl, rfl, rfl, rfl, rfl, rfl, True.intro⟩ sb2 ?_
     rintro ⟨i, now, sg, p9, k9, q8, l8, q5, l5, C9, E8, E5⟩ hN IH2
     change VRun _ _ _ _ _ [(2, ptr b1), (3, ptr b2), (4, ptr b3), (8, ptr b4), (9, .slice p7 t k7), (10, .slice r6 (t + 1) j6), (11, (.slice (some ⟨b5, 0, Option.none⟩) 3 3)), (12, .slice q8 (min 3 (la.length : Int)).toNat l8), (13, I (t : Int)), (14, ptr b7), (20, .slice p9 i k9), (21, I (i : Int))] _ ((b7, blk (encP o) 73) :: (b4, blk [.slice r1 (t + 1) j1, .slice r2 (t + 1) j2, .slice r3 (t + 1) j3, .slice r4 (t + 1) j4, .slice q5 sg.length l5] 33) :: (C9 ++ (E8 ++ (E5 ++ ((D1 ++ (D2 ++ (D3 ++ D4))) ++ (D6 ++ (C7 ++ (M ++ ((b5, blk [.string annB, .string bobB, .string calB] 9) :: (b3, blk [.slice Option.none 0 0, .slice Option.none 0 0, .slice Option.none 0 0, .slice Option.none 0 0, .slice Option.none 0 0] 33) :: (b2, blk (clLf o1 ls.length c1 o2 la.length c2 o3 lb.length c3 wd) 71) :: (b1, blk (clWn w) 23) :: H))))))))) _
     have hnl := hN.nl
     have hib := hN.ib
     have hs32 := hN.s32
     refine vseq ?_
     refine vseq ?_
     refine vregion ?_
     refine vone rfl (vxq (vmv rfl) rfl rfl ?_)
     refine vone rfl (vxq (vmv rfl) rfl rfl ?_)
     refine vone rfl (vxq (vlen rfl) rfl rfl ?_)
     refine vone rfl (vxq (vlss rfl rfl) rfl rfl ?_)
     refine vnil ?_
     refine vcondd rfl (fun h116 => ?_) (fun h116 => ?_)
     ·
      obtain ⟨p, hp⟩ := get_of_lt S.an (i := i) (by omega)
      have hcur := cur_at hnl hp
      have hl1 : (now ++ S.an.drop i).length = (min 3 (la.length : Int)).toNat := by simp [hnl, hma]; omega
      have hO8 := hN.h8
      obtain ⟨g, cur, hqe, hEe, hcc, hcm, hcl, htk⟩ := own_pos hO8 (by omega)
      subst hqe
      subst hEe
      haveI hs8 : SlO [(g, blk cur 73)] (some ⟨g, 0, Option.none⟩) 2 encP (now ++ S.an.drop i) := hO8.slo (enc := encP) (fun _ => rfl) (by decide) rfl hl1
      refine vskip ?_
      refine vseq ?_
      refine vblock ?_
      refine vseq ?_
      refine vseq ?_
      refine vregion ?_
      refine vone rfl (vxq (vmv rfl) rfl rfl ?_)
      refine vone rfl (vxq (vmv rfl) rfl rfl ?_)
      refine vone rfl (vxq (visg (enc := encP) rfl rfl (by omega) hcur) rfl rfl ?_)
      refine vone rfl (vxq (vfaS (enc := encP) rfl hcur) rfl rfl ?_)
      refine vone rfl (vxq (vldSf (enc := encP) rfl hcur rfl) rfl rfl ?_)
      refine vone rfl (vxq (vcp rfl rfl rfl (c_ref00_Between _ _ _)) rfl rfl ?_)
      refine vone rfl (vxq (vnotd rfl) rfl rfl ?_)
      refine vone rfl (vxq (vmv rfl) rfl rfl ?_)
      refine vsplitd (d := 126) rfl (fun h126 => ?_) (fun h126 => ?_)
      ·
       refine vno rfl rfl rfl rfl rfl ?_
       refine vno rfl rfl rfl rfl rfl ?_
       refine vno rfl rfl rfl rfl rfl ?_
       refine vno rfl rfl rfl rfl rfl ?_
       refine vno rfl rfl rfl rfl rfl ?_
       refine vno rfl rfl rfl rfl rfl ?_
       refine vno rfl rfl rfl rfl rfl ?_
       refine vone rfl (vxq (vpkt rfl rfl) rfl rfl ?_)
       refine vnil ?_
       refine vcondt rfl ?_
       refine vseq ?_
       refine vregion ?_
       refine vone rfl (vxq (vldn rfl rfl) rfl rfl ?_)
       refine vone rfl (vxs (vstn rfl rfl rfl rfl rfl) rfl ?_)
       refine vone rfl (vxq (vas rfl) rfl rfl ?_)
       refine vone rfl (vxq (vas rfl) rfl rfl ?_)
       refine vone rfl (vxq (vas rfl) rfl rfl ?_)
       refine vnil ?_
       refine vret (vr4 (H' := H) Tryd.func40 rfl (.celln rfl rfl) (.tmp rfl) (.tmp rfl) (.tmp rfl) sb2 ?_)
       first | (exact seen_fin hI (nm_small hI.e)) | (exact ⟨_, rfl, [], rfl, .inl ⟨_, _, _, _, _, _, _, _, _, _, _, _, _, _, _, _, _, rfl⟩⟩)
      ·
       refine vyes rfl rfl rfl (vxq (vmv rfl) rfl rfl ?_)
       refine vyes rfl rfl rfl (vxq (vmv rfl) rfl rfl ?_)
       refine vyes rfl rfl rfl (vxq (visg (enc := encP) rfl rfl (by omega) hcur) rfl rfl ?_)
       refine vyes rfl rfl rfl (vxq (vfaS (enc := encP) rfl hcur) rfl rfl ?_)
       refine vyes rfl rfl rfl (vxq (vldSf (enc := encP) rfl hcur rfl) rfl rfl ?_)
       refine vyes rfl rfl rfl (vxq (vcp rfl rfl rfl (c_ref00_Between _ _ _)) rfl rfl ?_)
       refine vyes rfl rfl rfl (vxq (vnotd rfl) rfl rfl ?_)
       refine vone rfl (vxq (vpkf rfl rfl) rfl rfl ?_)
       refine vnil ?_
       refine vcondd rfl (fun h134 => ?_) (fun h134 => ?_)
       ·
        refine vseq ?_
        refine vregion ?_
        refine vone rfl (vxq (vldn rfl rfl) rfl rfl ?_)
        refine vone rfl (vxs (vstn rfl rfl rfl rfl rfl) rfl ?_)
        refine vone rfl (vxq (vas rfl) rfl rfl ?_)
        refine vone rfl (vxq (vas rfl) rfl rfl ?_)
        refine vone rfl (vxq (vas rfl) rfl rfl ?_)
        refine vnil ?_
        refine vret (vr4 (H' := H) Tryd.func40 rfl (.celln rfl rfl) (.tmp rfl) (.tmp rfl) (.tmp rfl) sb2 ?_)
        first | (exact seen_fin hI (nm_small hI.e)) | (exact ⟨_, rfl, [], rfl, .inl ⟨_, _, _, _, _, _, _, _, _, _, _, _, _, _, _, _, _, rfl⟩⟩)
       ·
        have hin : inB p := by unfold inB; omega
        refine vskip ?_
        refine vseq ?_
        refine vseq ?_
        obtain ⟨pn, hpn⟩ : ∃ pn, pn = (newP w lb t i p) := ⟨_, rfl⟩
        apply vjoinA (C := fun F8 : Heap => OwnS 73 2 (.slice (some ⟨g, 0, Option.none⟩) (min 3 (la.length : Int)).toNat l8) (min 3 (la.length : Int)).toNat ((now ++ [pn] ++ S.an.drop (i + 1)).flatMap encP) F8) (E' := [(2, ptr b1), (3, ptr b2), (4, ptr b3), (8, ptr b4), (9, .slice p7 t k7), (10, .slice r6 (t + 1) j6), (11, (.slice (some ⟨b5, 0, Option.none⟩) 3 3)), (12, .slice (some ⟨g, 0, Option.none⟩) (min 3 (la.length : Int)).toNat l8), (13, I (t : Int)), (14, ptr b7), (20, .slice p9 i k9), (21, I (i : Int))]) (H' := fun F8 : Heap => (b7, blk (encP o) 73) :: (b4, blk [.slice r1 (t + 1) j1, .slice r2 (t + 1) j2, .slice r3 (t + 1) j3, .slice r4 (t + 1) j4, .slice q5 sg.length l5] 33) :: (C9 ++ (F8 ++ (E5 ++ ((D1 ++ (D2 ++ (D3 ++ D4))) ++ (D6 ++ (C7 ++ (M ++ ((b5, blk [.string annB, .string bobB, .string calB] 9) :: (b3, blk [.slice Option.none 0 0, .slice Option.none 0 0, .slice Option.none 0 0, .slice Option.none 0 0, .slice Option.none 0 0] 33) :: (b2, blk (clLf o1 ls.length c1 o2 la.length c2 o3 lb.length c3 wd) 71) :: (b1, blk (clWn w) 23) :: H)))))))))
        ·
         intro hJ23
         refine vregion ?_
         refine vone rfl (vxq (vmv rfl) rfl rfl ?_)
         refine vone rfl (vxq (vgtr rfl rfl) rfl rfl ?_)
         refine vnil ?_
         refine vcondd rfl (fun h137 => ?_) (fun h137 => ?_)
         ·
          obtain ⟨cur2, hput, hcl2, htk2⟩ := put_el (enc := encP) (esz := 2) (fun _ => rfl) (swW p w.speed lb (7 * t + 3 * i)) hl1 (by rw [hcl]; exact Nat.mul_le_mul_right _ hcc) htk (i := i) (by omega)
          rw [show i * 2 = 0 + i * 2 by omega] at hput
          refine vdraw0 [(.q, 0), (.q, 1), (.q, 2), (.q, 3), (.q, 4), (.q, 5), (.q, 6), (.q, 7), (.q, 8), (.q, 9), (.q, 10), (.q, 11), (.q, 12), (.q, 13), (.q, 14), (.q, 15), (.q, 16), (.c, 17)] Tryd.mixed (by kernel_rfl) (by kernel_rfl) ?_
          refine vdq (mone rfl) (vmv rfl) rfl rfl ?_
          refine vdq (mone rfl) (vmv rfl) rfl rfl ?_
          refine vdq (mone rfl) (vmv rfl) rfl rfl ?_
          refine vdq (mone rfl) (vmv rfl) rfl rfl ?_
          refine vdq (mone rfl) (visg (enc := encP) rfl rfl (by omega) hcur) rfl rfl ?_
          refine vdq (mone rfl) (vldS (enc := encP) rfl hcur) rfl rfl ?_
          refine vdq (mone rfl) (vfa rfl) rfl rfl ?_
          refine vdq (mone rfl) (vld1 rfl rfl) rfl rfl ?_
          refine vdq (mone rfl) (vfa rfl) rfl rfl ?_
          refine vdq (mone rfl) (vld1 rfl rfl) rfl rfl ?_
          refine vdq (mone rfl) (vmv rfl) rfl rfl ?_
          refine vdq (mone rfl) (vmul rfl rfl (by unfold InR; omega)) rfl rfl ?_
          refine vdq (mone rfl) (vmv rfl) rfl rfl ?_
          refine vdq (mone rfl) (vmul rfl rfl (by unfold InR; omega)) rfl rfl ?_
          refine vdq (mone rfl) (vadd rfl rfl (by unfold InR; omega)) rfl rfl ?_
          refine vdq (mone rfl) (vcq rfl rfl rfl (c_swumW p w.speed lb o3 c3 _ hm3 hb (7 * t + 3 * i) (by omega))) rfl rfl ?_
          refine vdq (mone rfl) (vis rfl rfl (by omega)) rfl rfl ?_
          refine vdcs (mone rfl) (vstn rfl rfl rfl rfl hput) rfl ?_
          refine vdend rfl ?_
          refine vseq ?_
          first
           | (obtain ⟨F8, hF8, hO8n⟩ : ∃ F8 : Heap, F8 = [(g, blk cur2 73)] ∧ OwnS 73 2 (.slice (some ⟨g, 0, Option.none⟩) (min 3 (la.length : Int)).toNat l8) (min 3 (la.length : Int)).toNat ((now ++ [pn] ++ S.an.drop (i + 1)).flatMap encP) F8 := ⟨_, rfl, .inr ⟨g, l8, cur2, rfl, rfl, hcc, hcm, by rw [hcl2, hcl], by rw [htk2, hpn, newP_t (by omega), cur_set hnl hp]⟩⟩; rw [← hF8])
           | (obtain ⟨F8, hF8, hO8n⟩ : ∃ F8 : Heap, F8 = [(g, blk cur 73)] ∧ OwnS 73 2 (.slice (some ⟨g, 0, Option.none⟩) (min 3 (la.length : Int)).toNat l8) (min 3 (la.length : Int)).toNat ((now ++ [pn] ++ S.an.drop (i + 1)).flatMap encP) F8 := ⟨_, rfl, .inr ⟨g, l8, cur, rfl, rfl, hcc, hcm, hcl, by rw [htk, hpn, newP_0 (by omega), ← cur_same hnl hp]⟩⟩; rw [← hF8])
          exact vback (hJ23 F8 hO8n) ⟨rfl, rfl, rfl, rfl, rfl, rfl, rfl, rfl, rfl, rfl, rfl, rfl, True.intro⟩ sb2
         ·
          refine vskip ?_
          refine vseq ?_
          first
           | (obtain ⟨F8, hF8, hO8n⟩ : ∃ F8 : Heap, F8 = [(g, blk cur2 73)] ∧ OwnS 73 2 (.slice (some ⟨g, 0, Option.none⟩) (min 3 (la.length : Int)).toNat l8) (min 3 (la.length : Int)).toNat ((now ++ [pn] ++ S.an.drop (i + 1)).flatMap encP) F8 := ⟨_, rfl, .inr ⟨g, l8, cur2, rfl, rfl, hcc, hcm, by rw [hcl2, hcl], by rw [htk2, hpn, newP_t (by omega), cur_set hnl hp]⟩⟩; rw [← hF8])
           | (obtain ⟨F8, hF8, hO8n⟩ : ∃ F8 : Heap, F8 = [(g, blk cur 73)] ∧ OwnS 73 2 (.slice (some ⟨g, 0, Option.none⟩) (min 3 (la.length : Int)).toNat l8) (min 3 (la.length : Int)).toNat ((now ++ [pn] ++ S.an.drop (i + 1)).flatMap encP) F8 := ⟨_, rfl, .inr ⟨g, l8, cur, rfl, rfl, hcc, hcm, hcl, by rw [htk, hpn, newP_0 (by omega), ← cur_same hnl hp]⟩⟩; rw [← hF8])
          exact vback (hJ23 F8 hO8n) ⟨rfl, rfl, rfl, rfl, rfl, rfl, rfl, rfl, rfl, rfl, rfl, rfl, True.intro⟩ sb2
        ·
         intro F8 hO8n
         have hcur2 := cur_at2 (now := now) (an := S.an) (q := pn) hnl
         have hl2 : (now ++ [pn] ++ S.an.drop (i + 1)).length = (min 3 (la.length : Int)).toNat := by simp [hnl, hma]; omega
         haveI hs8n : SlO F8 (some ⟨g, 0, Option.none⟩) 2 encP (now ++ [pn] ++ S.an.drop (i + 1)) := hO8n.slo (enc := encP) (fun _ => rfl) (by decide) rfl hl2
         have hnm := nmL_at (i := i) (by omega)
         have hr0 := root_nn (sqW o pn)
         have hpn2 : now ++ [pn] ++ S.an.drop (i + 1) = (now ++ [pn]) ++ S.an.drop (i + 1) := rfl
         refine vregion ?_
         refine vone rfl (vxq (vmv rfl) rfl rfl ?_)
         refine vone rfl (vxq (vmv rfl) rfl rfl ?_)
         refine vone rfl (vxq (vmv rfl) rfl rfl ?_)
         refine vone rfl (vxq (visg (enc := encP) rfl rfl (by omega) hcur2) rfl rfl ?_)
         refine vone rfl (vxq (vldS (enc := encP) rfl hcur2) rfl rfl ?_)
         refine vone rfl (vxg (vbs rfl rfl rfl rfl rfl rfl) rfl rfl ?_)
         rintro _ _ ⟨n16, rfl, rfl⟩
         refine vone rfl (vxg (vappF (a := ⟨n16, 0, Option.none⟩) (m := 1) (c := 1) (size := 2) (bytes := 16) (F := fun X => (n16, blk (encP pn) 73) :: (b7, blk (encP o) 73) :: (b4, blk [.slice r1 (t + 1) j1, .slice r2 (t + 1) j2, .slice r3 (t + 1) j3, .slice r4 (t + 1) j4, .slice q5 sg.length l5] 33) :: (X ++ (F8 ++ (E5 ++ ((D1 ++ (D2 ++ (D3 ++ D4))) ++ (D6 ++ (C7 ++ (M ++ ((b5, blk [.string annB, .string bobB, .string calB] 9) :: (b3, blk [.slice Option.none 0 0, .slice Option.none 0 0, .slice Option.none 0 0, .slice Option.none 0 0, .slice Option.none 0 0] 33) :: (b2, blk (clLf o1 ls.length c1 o2 la.length c2 o3 lb.length c3 wd) 71) :: (b1, blk (clWn w) 23) :: H))))))))) (B := C9) (xs := now.flatMap encP) (news := encP pn) (fun X => perm_mid [(n16, blk (encP pn) 73), (b7, blk (encP o) 73), (b4, blk [.slice r1 (t + 1) j1, .slice r2 (t + 1) j2, .slice r3 (t + 1) j3, .slice r4 (t + 1) j4, .slice q5 sg.length l5] 33)] X (F8 ++ (E5 ++ ((D1 ++ (D2 ++ (D3 ++ D4))) ++ (D6 ++ (C7 ++ (M ++ ((b5, blk [.string annB, .string bobB, .string calB] 9) :: (b3, blk [.slice Option.none 0 0, .slice Option.none 0 0, .slice Option.none 0 0, .slice Option.none 0 0, .slice Option.none 0 0] 33) :: (b2, blk (clLf o1 ls.length c1 o2 la.length c2 o3 lb.length c3 wd) 71) :: (b1, blk (clWn w) 23) :: H)))))))) rfl rfl hN.h9 rfl (news_blk (b := n16) (List.Mem.head _)) (one1 (enc := encP) (fun _ => rfl) [pn] _ (by simp)) (by omega) (by simp only [maxLen]; omega) (by omega)) rfl rfl ?_)
         rintro _ _ ⟨D9, hP9, _, rfl⟩
         obtain ⟨r9, j9, rfl, _⟩ := hP9.shape
         refine vone rfl (vxq (vas rfl) rfl rfl ?_)
         refine vnil ?_
         refine vseq ?_
         refine vdraw0 [(.q, 0), (.q, 1), (.q, 2), (.q, 3), (.q, 4), (.q, 5), (.q, 6), (.q, 7), (.q, 8), (.q, 9), (.q, 10), (.q, 11)] Tryd.mixed (by kernel_rfl) (by kernel_rfl) ?_
         refine vdq (mone rfl) (vldn rfl rfl) rfl rfl ?_
         refine vdq (mone rfl) (vmv rfl) rfl rfl ?_
         refine vdq (mone rfl) (vmv rfl) rfl rfl ?_
         refine vdq (mone rfl) (visg (enc := encP) rfl rfl (by omega) hcur2) rfl rfl ?_
         refine vdq (mone rfl) (vldS (enc := encP) rfl hcur2) rfl rfl ?_
         refine vdq (mone rfl) (vcp rfl rfl rfl (c_sqrW o pn)) rfl rfl ?_
         refine vdq (mone rfl) (vcp rfl rfl rfl (c_Root (sqW o pn))) rfl rfl ?_
         refine vdq (mone rfl) (vmv rfl) rfl rfl ?_
         refine vdq (mone rfl) (vex rfl rfl) rfl rfl ?_
         refine vdq (mone rfl) (vex rfl rfl) rfl rfl ?_
         refine vdq (mone rfl) (vas rfl) rfl rfl ?_
         refine vdq (mone rfl) (vas rfl) rfl rfl ?_
         refine vdend rfl ?_
         refine vseq ?_
         refine vseq ?_
         refine vregion ?_
         refine vone rfl (vxq (vmv rfl) rfl rfl ?_)
         refine vone rfl (vxq (vneq rfl rfl) rfl rfl ?_)
         refine vone rfl (vxq (vmv rfl) rfl rfl ?_)
         refine vsplitd (d := 174) rfl (fun h174 => ?_) (fun h174 => ?_)
         ·
          refine vno rfl rfl rfl rfl rfl ?_
          refine vno rfl rfl rfl rfl rfl ?_
          refine vone rfl (vxq (vpkt rfl rfl) rfl rfl ?_)
          refine vone rfl (vxq (vmv rfl) rfl rfl ?_)
          refine vno rfl rfl rfl rfl rfl ?_
          refine vno rfl rfl rfl rfl rfl ?_
          refine vno rfl rfl rfl rfl rfl ?_
          refine vno rfl rfl rfl rfl rfl ?_
          refine vno rfl rfl rfl rfl rfl ?_
          refine vno rfl rfl rfl rfl rfl ?_
          refine vno rfl rfl rfl rfl rfl ?_
          refine vno rfl rfl rfl rfl rfl ?_
          refine vno rfl rfl rfl rfl rfl ?_
          refine vone rfl (vxq (vpkt rfl rfl) rfl rfl ?_)
          refine vone rfl (vxq (vmv rfl) rfl rfl ?_)
          refine vno rfl rfl rfl rfl rfl ?_
          refine vno rfl rfl rfl rfl rfl ?_
          refine vno rfl rfl rfl rfl rfl ?_
          refine vno rfl rfl rfl rfl rfl ?_
          refine vone rfl (vxq (vpkt rfl rfl) rfl rfl ?_)
          refine vnil ?_
          refine vcondt rfl ?_
          refine vexit (k' := _) rfl ?_
          refine vregion ?_
          refine vone rfl (vxq (vmv rfl) rfl rfl ?_)
          refine vone rfl (vxq (vadd rfl rfl (by unfold InR; omega)) rfl rfl ?_)
          refine vone rfl (vxq (vas rfl) rfl rfl ?_)
          refine vnil ?_
          exact vback (IH2 (i + 1, now ++ [pn], sg, r9, j9, some ⟨g, 0, Option.none⟩, l8, q5, l5, D9, F8, E5) ⟨by have hst := innF_step hN.e hp hin (ys := none) (by rw [← hpn]; first | exact see_no (.inl h174) | exact see_no (.inr (.inl h178)) | exact see_no (.inr (.inr (.inl h189))) | exact see_no (.inr (.inr (.inr (by omega))))); rw [← hpn] at hst; simpa using hst, by omega, by simp [hnl], by first | exact hs32 | (rw [List.length_append]; simp only [List.length_cons, List.length_nil]; omega), by rw [snocP]; exact hP9, by rw [← hpn2]; exact hO8n, hN.h5⟩ (by show (min 3 (la.length : Int)).toNat - (i + 1) < (min 3 (la.length : Int)).toNat - i; omega)) ⟨rfl, rfl, rfl, rfl, rfl, rfl, rfl, rfl, rfl, rfl, rfl, rfl, True.intro⟩ sb2
         ·
          refine vyes rfl rfl rfl (vxq (vmv rfl) rfl rfl ?_)
          refine vyes rfl rfl rfl (vxq (vgtr rfl rfl) rfl rfl ?_)
          refine vone rfl (vxq (vpkf rfl rfl) rfl rfl ?_)
          refine vone rfl (vxq (vmv rfl) rfl rfl ?_)
          refine vsplitd (d := 178) rfl (fun h178 => ?_) (fun h178 => ?_)
          ·
           refine vno rfl rfl rfl rfl rfl ?_
           refine vno rfl rfl rfl rfl rfl ?_
           refine vno rfl rfl rfl rfl rfl ?_
           refine vno rfl rfl rfl rfl rfl ?_
           refine vno rfl rfl rfl rfl rfl ?_
           refine vno rfl rfl rfl rfl rfl ?_
           refine vno rfl rfl rfl rfl rfl ?_
           refine vno rfl rfl rfl rfl rfl ?_
           refine vno rfl rfl rfl rfl rfl ?_
           refine vone rfl (vxq (vpkt rfl rfl) rfl rfl ?_)
           refine vone rfl (vxq (vmv rfl) rfl rfl ?_)
           refine vno rfl rfl rfl rfl rfl ?_
           refine vno rfl rfl rfl rfl rfl ?_
           refine vno rfl rfl rfl rfl rfl ?_
           refine vno rfl rfl rfl rfl rfl ?_
           refine vone rfl (vxq (vpkt rfl rfl) rfl rfl ?_)
           refine vnil ?_
           refine vcondt rfl ?_
           refine vexit (k' := _) rfl ?_
           refine vregion ?_
           refine vone rfl (vxq (vmv rfl) rfl rfl ?_)
           refine vone rfl (vxq (vadd rfl rfl (by unfold InR; omega)) rfl rfl ?_)
           refine vone rfl (vxq (vas rfl) rfl rfl ?_)
           refine vnil ?_
           exact vback (IH2 (i + 1, now ++ [pn], sg, r9, j9, some ⟨g, 0, Option.none⟩, l8, q5, l5, D9, F8, E5) ⟨by have hst := innF_step hN.e hp hin (ys := none) (by rw [← hpn]; first | exact see_no (.inl h174) | exact see_no (.inr (.inl h178)) | exact see_no (.inr (.inr (.inl h189))) | exact see_no (.inr (.inr (.inr (by omega))))); rw [← hpn] at hst; simpa using hst, by omega, by simp [hnl], by first | exact hs32 | (rw [List.length_append]; simp only [List.length_cons, List.length_nil]; omega), by rw [snocP]; exact hP9, by rw [← hpn2]; exact hO8n, hN.h5⟩ (by show (min 3 (la.length : Int)).toNat - (i + 1) < (min 3 (la.length : Int)).toNat - i; omega)) ⟨rfl, rfl, rfl, rfl, rfl, rfl, rfl, rfl, rfl, rfl, rfl, rfl, True.intro⟩ sb2
          ·
           refine vyes rfl rfl rfl (vxq (vfa rfl) rfl rfl ?_)
           refine vyes rfl rfl rfl (vxq (vld1 rfl rfl) rfl rfl ?_)
           refine vyes rfl rfl rfl (vxq (vmv rfl) rfl rfl ?_)
           refine vyes rfl rfl rfl (vxq (vmul rfl rfl (by unfold InR; omega)) rfl rfl ?_)
           refine vyes rfl rfl rfl (vxq (vmv rfl) rfl rfl ?_)
           refine vyes rfl rfl rfl (vxq (vadd rfl rfl (by unfold InR; omega)) rfl rfl ?_)
           refine vyes rfl rfl rfl (vxq (vcq rfl rfl rfl (c_Pick lb o3 c3 _ hm3 (5 * t + i) (by unfold InR; omega))) rfl rfl ?_)
           refine vyes rfl rfl rfl (vxq (vcp rfl rfl rfl (c_Rest _ 3 (pick_in hb) (by unfold InR; omega))) rfl rfl ?_)
           refine vyes rfl rfl rfl (vxq (vgtr rfl rfl) rfl rfl ?_)
           refine vone rfl (vxq (vpkf rfl rfl) rfl rfl ?_)
           refine vone rfl (vxq (vmv rfl) rfl rfl ?_)
           refine vsplitd (d := 189) rfl (fun h189 => ?_) (fun h189 => ?_)
           ·
            refine vno rfl rfl rfl rfl rfl ?_
            refine vno rfl rfl rfl rfl rfl ?_
            refine vno rfl rfl rfl rfl rfl ?_
            refine vno rfl rfl rfl rfl rfl ?_
            refine vone rfl (vxq (vpkt rfl rfl) rfl rfl ?_)
            refine vnil ?_
            refine vcondt rfl ?_
            refine vexit (k' := _) rfl ?_
            refine vregion ?_
            refine vone rfl (vxq (vmv rfl) rfl rfl ?_)
            refine vone rfl (vxq (vadd rfl rfl (by unfold InR; omega)) rfl rfl ?_)
            refine vone rfl (vxq (vas rfl) rfl rfl ?_)
            refine vnil ?_
            exact vback (IH2 (i + 1, now ++ [pn], sg, r9, j9, some ⟨g, 0, Option.none⟩, l8, q5, l5, D9, F8, E5) ⟨by have hst := innF_step hN.e hp hin (ys := none) (by rw [← hpn]; first | exact see_no (.inl h174) | exact see_no (.inr (.inl h178)) | exact see_no (.inr (.inr (.inl h189))) | exact see_no (.inr (.inr (.inr (by omega))))); rw [← hpn] at hst; simpa using hst, by omega, by simp [hnl], by first | exact hs32 | (rw [List.length_append]; simp only [List.length_cons, List.length_nil]; omega), by rw [snocP]; exact hP9, by rw [← hpn2]; exact hO8n, hN.h5⟩ (by show (min 3 (la.length : Int)).toNat - (i + 1) < (min 3 (la.length : Int)).toNat - i; omega)) ⟨rfl, rfl, rfl, rfl, rfl, rfl, rfl, rfl, rfl, rfl, rfl, rfl, True.intro⟩ sb2
           ·
            refine vyes rfl rfl rfl (vxq (vfa rfl) rfl rfl ?_)
            refine vyes rfl rfl rfl (vxq (vld1 rfl rfl) rfl rfl ?_)
            refine vyes rfl rfl rfl (vxq (vlen rfl) rfl rfl ?_)
            refine vyes rfl rfl rfl (vxq (veql rfl rfl) rfl rfl ?_)
            refine vone rfl (vxq (vpkf rfl rfl) rfl rfl ?_)
            refine vnil ?_
            refine vcondd rfl (fun h194 => ?_) (fun h194 => ?_)
            ·
             refine vexit (k' := _) rfl ?_
             refine vregion ?_
             refine vone rfl (vxq (vmv rfl) rfl rfl ?_)
             refine vone rfl (vxq (vadd rfl rfl (by unfold InR; omega)) rfl rfl ?_)
             refine vone rfl (vxq (vas rfl) rfl rfl ?_)
             refine vnil ?_
             exact vback (IH2 (i + 1, now ++ [pn], sg, r9, j9, some ⟨g, 0, Option.none⟩, l8, q5, l5, D9, F8, E5) ⟨by have hst := innF_step hN.e hp hin (ys := none) (by rw [← hpn]; first | exact see_no (.inl h174) | exact see_no (.inr (.inl h178)) | exact see_no (.inr (.inr (.inl h189))) | exact see_no (.inr (.inr (.inr (by omega))))); rw [← hpn] at hst; simpa using hst, by omega, by simp [hnl], by first | exact hs32 | (rw [List.length_append]; simp only [List.length_cons, List.length_nil]; omega), by rw [snocP]; exact hP9, by rw [← hpn2]; exact hO8n, hN.h5⟩ (by show (min 3 (la.length : Int)).toNat - (i + 1) < (min 3 (la.length : Int)).toNat - i; omega)) ⟨rfl, rfl, rfl, rfl, rfl, rfl, rfl, rfl, rfl, rfl, rfl, rfl, True.intro⟩ sb2
            ·
             refine vskip ?_
             refine vseq ?_
             refine vdraw [(.q, 0), (.q, 1), (.q, 2), (.q, 3), (.q, 4), (.q, 5), (.q, 6), (.q, 7), (.q, 8), (.q, 9), (.q, 10), (.q, 11), (.q, 12), (.q, 13), (.q, 14), (.q, 15), (.q, 16), (.q, 17), (.q, 18), (.q, 19), (.q, 20), (.q, 21), (.q, 22), (.q, 23), (.q, 24), (.q, 25), (.q, 26), (.q, 27), (.q, 28), (.q, 29), (.q, 30), (.q, 31), (.q, 32), (.q, 33), (.q, 34), (.a (blk [.int .i64 0, .string ByteArray.empty, .int .i64 0, .int .i64 0, .int .i64 0] 49), 35), (.s, 36)] Tryd.mixed (by kernel_rfl) (by exact ⟨⟨_, _, _, _, _, rfl, _, inferInstance, rfl⟩, True.intro⟩) ?_
             refine vdq (mone rfl) (vmv rfl) rfl rfl ?_
             refine vdq (mone rfl) (vmv rfl) rfl rfl ?_
             refine vdq (mone rfl) (vmv rfl) rfl rfl ?_
             refine vdq (mone rfl) (visg (enc := encN) (xs := nmL) rfl rfl (by omega) (z := nmI i) hnm) rfl rfl ?_
             refine vdq (mone rfl) (vldS1 (enc := encN) (xs := nmL) rfl (z := nmI i) hnm rfl) rfl rfl ?_
             refine vdq (mone rfl) (vmv rfl) rfl rfl ?_
             refine vdq (mone rfl) (vmv rfl) rfl rfl ?_
             refine vdq (mone rfl) (visg (enc := encP) rfl rfl (by omega) hcur2) rfl rfl ?_
             refine vdq (mone rfl) (vfaS (enc := encP) rfl hcur2) rfl rfl ?_
             refine vdq (mone rfl) (vldSf (enc := encP) rfl hcur2 rfl) rfl rfl ?_
             refine vdq (mone rfl) (vfa rfl) rfl rfl ?_
             refine vdq (mone rfl) (vld1 rfl rfl) rfl rfl ?_
             refine vdq (mone rfl) (vsubw rfl rfl) rfl rfl ?_
             refine vdq (mone rfl) (vmv rfl) rfl rfl ?_
             refine vdq (mone rfl) (vmv rfl) rfl rfl ?_
             refine vdq (mone rfl) (visg (enc := encP) rfl rfl (by omega) hcur2) rfl rfl ?_
             refine vdq (mone rfl) (vfaS (enc := encP) rfl hcur2) rfl rfl ?_
             refine vdq (mone rfl) (vldSf (enc := encP) rfl hcur2 rfl) rfl rfl ?_
             refine vdq (mone rfl) (vfa rfl) rfl rfl ?_
             refine vdq (mone rfl) (vld1 rfl rfl) rfl rfl ?_
             refine vdq (mone rfl) (vsubw rfl rfl) rfl rfl ?_
             refine vdq (mone rfl) (vcp rfl rfl rfl (c_octant6 _ _)) rfl rfl ?_
             refine vdq (mone rfl) (vmv rfl) rfl rfl ?_
             refine vdq (mone rfl) (vfa rfl) rfl rfl ?_
             refine vdq (mone rfl) (vld1 rfl rfl) rfl rfl ?_
             refine vdq (mone rfl) (vcp rfl rfl rfl (c_Rest wd 5 hwd (by unfold InR; omega))) rfl rfl ?_
             refine vdq (mone rfl) (vsub rfl rfl (by unfold InR; omega)) rfl rfl ?_
             refine vdq (mone rfl) (vmax2 rfl rfl) rfl rfl ?_
             refine vdq (mone rfl) (vmv rfl) rfl rfl ?_
             refine vdq (mone rfl) (vadd rfl rfl (by unfold InR; omega)) rfl rfl ?_
             refine vdq (mone rfl) (vfa rfl) rfl rfl ?_
             refine vdq (mone rfl) (vld1 rfl rfl) rfl rfl ?_
             refine vdq (mone rfl) (vcp rfl rfl rfl (c_Rest wd 5 hwd (by unfold InR; omega))) rfl rfl ?_
             refine vdq (mone rfl) (vadd rfl rfl (by unfold InR; omega)) rfl rfl ?_
             refine vdq (mone rfl) (vbd rfl rfl) rfl rfl ?_
             refine vda rfl rfl (fun b17 => ?_)
             refine vds (mone rfl) (vstn rfl rfl rfl rfl rfl) rfl ?_
             refine vdend rfl ?_
             refine vseq ?_
             refine vseq ?_
             refine vregion ?_
             refine vone rfl (vxq (vfa rfl) rfl rfl ?_)
             refine vone rfl (vxq (vld1 rfl rfl) rfl rfl ?_)
             refine vone rfl (vxq (vmv rfl) rfl rfl ?_)
             refine vone rfl (vxq (vmv rfl) rfl rfl ?_)
             refine vone rfl (vxq (vadd rfl rfl (by unfold InR; omega)) rfl rfl ?_)
             refine vone rfl (vxq (vcq rfl rfl rfl (c_Pick lb o3 c3 _ hm3 (t + i) (by unfold InR; omega))) rfl rfl ?_)
             refine vone rfl (vxq (vcp rfl rfl rfl (c_Rest _ 2 (pick_in hb) (by unfold InR; omega))) rfl rfl ?_)
             refine vone rfl (vxq (veql rfl rfl) rfl rfl ?_)
             refine vone rfl (vxq (vmv rfl) rfl rfl ?_)
             refine vsplitd (d := 238) rfl (fun h238 => ?_) (fun h238 => ?_)
             ·
              refine vyes rfl rfl rfl (vxq (vmv rfl) rfl rfl ?_)
              refine vyes rfl rfl rfl (vxq (vremp rfl rfl (by omega) (by omega)) rfl rfl ?_)
              refine vyes rfl rfl rfl (vxq (veql rfl rfl) rfl rfl ?_)
              refine vone rfl (vxq (vpkt rfl rfl) rfl rfl ?_)
              refine vnil ?_
              refine vcondd rfl (fun h242 => ?_) (fun h242 => ?_)
              ·
               refine vregion ?_
               refine vone rfl (vxq (vfa rfl) rfl rfl ?_)
               refine vone rfl (vxs (vst1 rfl rfl rfl rfl) rfl ?_)
               refine vnil ?_
               refine vregion ?_
               refine vone rfl (vxq (vfa rfl) rfl rfl ?_)
               refine vone rfl (vxq (vld1 rfl rfl) rfl rfl ?_)
               refine vone rfl (vxq (vldn rfl rfl) rfl rfl ?_)
               refine vone rfl (vxg (vbs rfl rfl rfl rfl rfl rfl) rfl rfl ?_)
               rintro _ _ ⟨n18, rfl, rfl⟩
               refine vone rfl (vxg (vappF (a := ⟨n18, 0, Option.none⟩) (m := 1) (c := 1) (size := 5) (bytes := 48) (F := fun X => (n18, blk (clSg (⟨t, nmI i, (-1), max 0 ((rootE (sqW o pn)).1 - restP wd 5), (rootE (sqW o pn)).1 + 1 + restP wd 5⟩ : Sg)) 49) :: (b17, blk (clSg (⟨t, nmI i, (-1), max 0 ((rootE (sqW o pn)).1 - restP wd 5), (rootE (sqW o pn)).1 + 1 + restP wd 5⟩ : Sg)) 49) :: (n16, blk (encP pn) 73) :: (b7, blk (encP o) 73) :: (b4, blk [.slice r1 (t + 1) j1, .slice r2 (t + 1) j2, .slice r3 (t + 1) j3, .slice r4 (t + 1) j4, .slice q5 sg.length l5] 33) :: (D9 ++ (F8 ++ (X ++ ((D1 ++ (D2 ++ (D3 ++ D4))) ++ (D6 ++ (C7 ++ (M ++ ((b5, blk [.string annB, .string bobB, .string calB] 9) :: (b3, blk [.slice Option.none 0 0, .slice Option.none 0 0, .slice Option.none 0 0, .slice Option.none 0 0, .slice Option.none 0 0] 33) :: (b2, blk (clLf o1 ls.length c1 o2 la.length c2 o3 lb.length c3 wd) 71) :: (b1, blk (clWn w) 23) :: H))))))))) (B := E5) (xs := sg.flatMap clSg) (news := clSg (⟨t, nmI i, (-1), max 0 ((rootE (sqW o pn)).1 - restP wd 5), (rootE (sqW o pn)).1 + 1 + restP wd 5⟩ : Sg)) (fun X => pf3 [(n18, blk (clSg (⟨t, nmI i, (-1), max 0 ((rootE (sqW o pn)).1 - restP wd 5), (rootE (sqW o pn)).1 + 1 + restP wd 5⟩ : Sg)) 49), (b17, blk (clSg (⟨t, nmI i, (-1), max 0 ((rootE (sqW o pn)).1 - restP wd 5), (rootE (sqW o pn)).1 + 1 + restP wd 5⟩ : Sg)) 49), (n16, blk (encP pn) 73), (b7, blk (encP o) 73), (b4, blk [.slice r1 (t + 1) j1, .slice r2 (t + 1) j2, .slice r3 (t + 1) j3, .slice r4 (t + 1) j4, .slice q5 sg.length l5] 33)] D9 F8 X ((D1 ++ (D2 ++ (D3 ++ D4))) ++ (D6 ++ (C7 ++ (M ++ ((b5, blk [.string annB, .string bobB, .string calB] 9) :: (b3, blk [.slice Option.none 0 0, .slice Option.none 0 0, .slice Option.none 0 0, .slice Option.none 0 0, .slice Option.none 0 0] 33) :: (b2, blk (clLf o1 ls.length c1 o2 la.length c2 o3 lb.length c3 wd) 71) :: (b1, blk (clWn w) 23) :: H)))))) rfl rfl hN.h5 rfl (news_blk (b := n18) (List.Mem.head _)) (one1 (enc := clSg) (fun _ => rfl) [(⟨t, nmI i, (-1), max 0 ((rootE (sqW o pn)).1 - restP wd 5), (rootE (sqW o pn)).1 + 1 + restP wd 5⟩ : Sg)] _ (by simp)) (by omega) (by simp only [maxLen]; omega) (by omega)) rfl rfl ?_)
               rintro _ _ ⟨D5, hP5, _, rfl⟩
               obtain ⟨r5, j5, rfl, _⟩ := hP5.shape
               refine vone rfl (vxq (vfa rfl) rfl rfl ?_)
               refine vone rfl (vxs (vst1 rfl rfl rfl rfl) rfl ?_)
               refine vnil ?_
               refine vinblock ?_
               refine vregion ?_
               refine vone rfl (vxq (vmv rfl) rfl rfl ?_)
               refine vone rfl (vxq (vadd rfl rfl (by unfold InR; omega)) rfl rfl ?_)
               refine vone rfl (vxq (vas rfl) rfl rfl ?_)
               refine vnil ?_
               rw [show sg.length + 1 = (sg ++ [(⟨t, nmI i, (-1), max 0 ((rootE (sqW o pn)).1 - restP wd 5), (rootE (sqW o pn)).1 + 1 + restP wd 5⟩ : Sg)]).length by simp]; exact vback (IH2 (i + 1, now ++ [pn], sg ++ [(⟨t, nmI i, (-1), max 0 ((rootE (sqW o pn)).1 - restP wd 5), (rootE (sqW o pn)).1 + 1 + restP wd 5⟩ : Sg)], r9, j9, some ⟨g, 0, Option.none⟩, l8, r5, j5, D9, F8, D5) ⟨by have hst := innF_step hN.e hp hin (ys := (some (⟨t, nmI i, (-1), max 0 ((rootE (sqW o pn)).1 - restP wd 5), (rootE (sqW o pn)).1 + 1 + restP wd 5⟩ : Sg))) (by rw [← hpn]; exact see_yes h174 h178 h189 (by omega) (if_pos ⟨h238, by omega⟩)); rw [← hpn] at hst; simpa using hst, by omega, by simp [hnl], by first | exact hs32 | (rw [List.length_append]; simp only [List.length_cons, List.length_nil]; omega), by rw [snocP]; exact hP9, by rw [← hpn2]; exact hO8n, by rw [snocS]; rw [List.length_append]; exact hP5⟩ (by show (min 3 (la.length : Int)).toNat - (i + 1) < (min 3 (la.length : Int)).toNat - i; omega)) ⟨rfl, rfl, rfl, rfl, rfl, rfl, rfl, rfl, rfl, rfl, rfl, rfl, True.intro⟩ sb2
              ·
               refine vskip ?_
               refine vregion ?_
               refine vone rfl (vxq (vfa rfl) rfl rfl ?_)
               refine vone rfl (vxq (vld1 rfl rfl) rfl rfl ?_)
               refine vone rfl (vxq (vldn rfl rfl) rfl rfl ?_)
               refine vone rfl (vxg (vbs rfl rfl rfl rfl rfl rfl) rfl rfl ?_)
               rintro _ _ ⟨n18, rfl, rfl⟩
               refine vone rfl (vxg (vappF (a := ⟨n18, 0, Option.none⟩) (m := 1) (c := 1) (size := 5) (bytes := 48) (F := fun X => (n18, blk (clSg (⟨t, nmI i, (octW (IntKind.i64.wrap (pn.x - o.x)) (IntKind.i64.wrap (pn.y - o.y))), max 0 ((rootE (sqW o pn)).1 - restP wd 5), (rootE (sqW o pn)).1 + 1 + restP wd 5⟩ : Sg)) 49) :: (b17, blk (clSg (⟨t, nmI i, (octW (IntKind.i64.wrap (pn.x - o.x)) (IntKind.i64.wrap (pn.y - o.y))), max 0 ((rootE (sqW o pn)).1 - restP wd 5), (rootE (sqW o pn)).1 + 1 + restP wd 5⟩ : Sg)) 49) :: (n16, blk (encP pn) 73) :: (b7, blk (encP o) 73) :: (b4, blk [.slice r1 (t + 1) j1, .slice r2 (t + 1) j2, .slice r3 (t + 1) j3, .slice r4 (t + 1) j4, .slice q5 sg.length l5] 33) :: (D9 ++ (F8 ++ (X ++ ((D1 ++ (D2 ++ (D3 ++ D4))) ++ (D6 ++ (C7 ++ (M ++ ((b5, blk [.string annB, .string bobB, .string calB] 9) :: (b3, blk [.slice Option.none 0 0, .slice Option.none 0 0, .slice Option.none 0 0, .slice Option.none 0 0, .slice Option.none 0 0] 33) :: (b2, blk (clLf o1 ls.length c1 o2 la.length c2 o3 lb.length c3 wd) 71) :: (b1, blk (clWn w) 23) :: H))))))))) (B := E5) (xs := sg.flatMap clSg) (news := clSg (⟨t, nmI i, (octW (IntKind.i64.wrap (pn.x - o.x)) (IntKind.i64.wrap (pn.y - o.y))), max 0 ((rootE (sqW o pn)).1 - restP wd 5), (rootE (sqW o pn)).1 + 1 + restP wd 5⟩ : Sg)) (fun X => pf3 [(n18, blk (clSg (⟨t, nmI i, (octW (IntKind.i64.wrap (pn.x - o.x)) (IntKind.i64.wrap (pn.y - o.y))), max 0 ((rootE (sqW o pn)).1 - restP wd 5), (rootE (sqW o pn)).1 + 1 + restP wd 5⟩ : Sg)) 49), (b17, blk (clSg (⟨t, nmI i, (octW (IntKind.i64.wrap (pn.x - o.x)) (IntKind.i64.wrap (pn.y - o.y))), max 0 ((rootE (sqW o pn)).1 - restP wd 5), (rootE (sqW o pn)).1 + 1 + restP wd 5⟩ : Sg)) 49), (n16, blk (encP pn) 73), (b7, blk (encP o) 73), (b4, blk [.slice r1 (t + 1) j1, .slice r2 (t + 1) j2, .slice r3 (t + 1) j3, .slice r4 (t + 1) j4, .slice q5 sg.length l5] 33)] D9 F8 X ((D1 ++ (D2 ++ (D3 ++ D4))) ++ (D6 ++ (C7 ++ (M ++ ((b5, blk [.string annB, .string bobB, .string calB] 9) :: (b3, blk [.slice Option.none 0 0, .slice Option.none 0 0, .slice Option.none 0 0, .slice Option.none 0 0, .slice Option.none 0 0] 33) :: (b2, blk (clLf o1 ls.length c1 o2 la.length c2 o3 lb.length c3 wd) 71) :: (b1, blk (clWn w) 23) :: H)))))) rfl rfl hN.h5 rfl (news_blk (b := n18) (List.Mem.head _)) (one1 (enc := clSg) (fun _ => rfl) [(⟨t, nmI i, (octW (IntKind.i64.wrap (pn.x - o.x)) (IntKind.i64.wrap (pn.y - o.y))), max 0 ((rootE (sqW o pn)).1 - restP wd 5), (rootE (sqW o pn)).1 + 1 + restP wd 5⟩ : Sg)] _ (by simp)) (by omega) (by simp only [maxLen]; omega) (by omega)) rfl rfl ?_)
               rintro _ _ ⟨D5, hP5, _, rfl⟩
               obtain ⟨r5, j5, rfl, _⟩ := hP5.shape
               refine vone rfl (vxq (vfa rfl) rfl rfl ?_)
               refine vone rfl (vxs (vst1 rfl rfl rfl rfl) rfl ?_)
               refine vnil ?_
               refine vinblock ?_
               refine vregion ?_
               refine vone rfl (vxq (vmv rfl) rfl rfl ?_)
               refine vone rfl (vxq (vadd rfl rfl (by unfold InR; omega)) rfl rfl ?_)
               refine vone rfl (vxq (vas rfl) rfl rfl ?_)
               refine vnil ?_
               rw [show sg.length + 1 = (sg ++ [(⟨t, nmI i, (octW (IntKind.i64.wrap (pn.x - o.x)) (IntKind.i64.wrap (pn.y - o.y))), max 0 ((rootE (sqW o pn)).1 - restP wd 5), (rootE (sqW o pn)).1 + 1 + restP wd 5⟩ : Sg)]).length by simp]; exact vback (IH2 (i + 1, now ++ [pn], sg ++ [(⟨t, nmI i, (octW (IntKind.i64.wrap (pn.x - o.x)) (IntKind.i64.wrap (pn.y - o.y))), max 0 ((rootE (sqW o pn)).1 - restP wd 5), (rootE (sqW o pn)).1 + 1 + restP wd 5⟩ : Sg)], r9, j9, some ⟨g, 0, Option.none⟩, l8, r5, j5, D9, F8, D5) ⟨by have hst := innF_step hN.e hp hin (ys := (some (⟨t, nmI i, (octW (IntKind.i64.wrap (pn.x - o.x)) (IntKind.i64.wrap (pn.y - o.y))), max 0 ((rootE (sqW o pn)).1 - restP wd 5), (rootE (sqW o pn)).1 + 1 + restP wd 5⟩ : Sg))) (by rw [← hpn]; exact see_yes h174 h178 h189 (by omega) (if_neg (by omega))); rw [← hpn] at hst; simpa using hst, by omega, by simp [hnl], by first | exact hs32 | (rw [List.length_append]; simp only [List.length_cons, List.length_nil]; omega), by rw [snocP]; exact hP9, by rw [← hpn2]; exact hO8n, by rw [snocS]; rw [List.length_append]; exact hP5⟩ (by show (min 3 (la.length : Int)).toNat - (i + 1) < (min 3 (la.length : Int)).toNat - i; omega)) ⟨rfl, rfl, rfl, rfl, rfl, rfl, rfl, rfl, rfl, rfl, rfl, rfl, True.intro⟩ sb2
             ·
              refine vno rfl rfl rfl rfl rfl ?_
              refine vno rfl rfl rfl rfl rfl ?_
              refine vno rfl rfl rfl rfl rfl ?_
              refine vone rfl (vxq (vpkf rfl rfl) rfl rfl ?_)
              refine vnil ?_
              refine vcondf rfl ?_
              refine vskip ?_
              refine vregion ?_
              refine vone rfl (vxq (vfa rfl) rfl rfl ?_)
              refine vone rfl (vxq (vld1 rfl rfl) rfl rfl ?_)
              refine vone rfl (vxq (vldn rfl rfl) rfl rfl ?_)
              refine vone rfl (vxg (vbs rfl rfl rfl rfl rfl rfl) rfl rfl ?_)
              rintro _ _ ⟨n18, rfl, rfl⟩
              refine vone rfl (vxg (vappF (a := ⟨n18, 0, Option.none⟩) (m := 1) (c := 1) (size := 5) (bytes := 48) (F := fun X => (n18, blk (clSg (⟨t, nmI i, (octW (IntKind.i64.wrap (pn.x - o.x)) (IntKind.i64.wrap (pn.y - o.y))), max 0 ((rootE (sqW o pn)).1 - restP wd 5), (rootE (sqW o pn)).1 + 1 + restP wd 5⟩ : Sg)) 49) :: (b17, blk (clSg (⟨t, nmI i, (octW (IntKind.i64.wrap (pn.x - o.x)) (IntKind.i64.wrap (pn.y - o.y))), max 0 ((rootE (sqW o pn)).1 - restP wd 5), (rootE (sqW o pn)).1 + 1 + restP wd 5⟩ : Sg)) 49) :: (n16, blk (encP pn) 73) :: (b7, blk (encP o) 73) :: (b4, blk [.slice r1 (t + 1) j1, .slice r2 (t + 1) j2, .slice r3 (t + 1) j3, .slice r4 (t + 1) j4, .slice q5 sg.length l5] 33) :: (D9 ++ (F8 ++ (X ++ ((D1 ++ (D2 ++ (D3 ++ D4))) ++ (D6 ++ (C7 ++ (M ++ ((b5, blk [.string annB, .string bobB, .string calB] 9) :: (b3, blk [.slice Option.none 0 0, .slice Option.none 0 0, .slice Option.none 0 0, .slice Option.none 0 0, .slice Option.none 0 0] 33) :: (b2, blk (clLf o1 ls.length c1 o2 la.length c2 o3 lb.length c3 wd) 71) :: (b1, blk (clWn w) 23) :: H))))))))) (B := E5) (xs := sg.flatMap clSg) (news := clSg (⟨t, nmI i, (octW (IntKind.i64.wrap (pn.x - o.x)) (IntKind.i64.wrap (pn.y - o.y))), max 0 ((rootE (sqW o pn)).1 - restP wd 5), (rootE (sqW o pn)).1 + 1 + restP wd 5⟩ : Sg)) (fun X => pf3 [(n18, blk (clSg (⟨t, nmI i, (octW (IntKind.i64.wrap (pn.x - o.x)) (IntKind.i64.wrap (pn.y - o.y))), max 0 ((rootE (sqW o pn)).1 - restP wd 5), (rootE (sqW o pn)).1 + 1 + restP wd 5⟩ : Sg)) 49), (b17, blk (clSg (⟨t, nmI i, (octW (IntKind.i64.wrap (pn.x - o.x)) (IntKind.i64.wrap (pn.y - o.y))), max 0 ((rootE (sqW o pn)).1 - restP wd 5), (rootE (sqW o pn)).1 + 1 + restP wd 5⟩ : Sg)) 49), (n16, blk (encP pn) 73), (b7, blk (encP o) 73), (b4, blk [.slice r1 (t + 1) j1, .slice r2 (t + 1) j2, .slice r3 (t + 1) j3, .slice r4 (t + 1) j4, .slice q5 sg.length l5] 33)] D9 F8 X ((D1 ++ (D2 ++ (D3 ++ D4))) ++ (D6 ++ (C7 ++ (M ++ ((b5, blk [.string annB, .string bobB, .string calB] 9) :: (b3, blk [.slice Option.none 0 0, .slice Option.none 0 0, .slice Option.none 0 0, .slice Option.none 0 0, .slice Option.none 0 0] 33) :: (b2, blk (clLf o1 ls.length c1 o2 la.length c2 o3 lb.length c3 wd) 71) :: (b1, blk (clWn w) 23) :: H)))))) rfl rfl hN.h5 rfl (news_blk (b := n18) (List.Mem.head _)) (one1 (enc := clSg) (fun _ => rfl) [(⟨t, nmI i, (octW (IntKind.i64.wrap (pn.x - o.x)) (IntKind.i64.wrap (pn.y - o.y))), max 0 ((rootE (sqW o pn)).1 - restP wd 5), (rootE (sqW o pn)).1 + 1 + restP wd 5⟩ : Sg)] _ (by simp)) (by omega) (by simp only [maxLen]; omega) (by omega)) rfl rfl ?_)
              rintro _ _ ⟨D5, hP5, _, rfl⟩
              obtain ⟨r5, j5, rfl, _⟩ := hP5.shape
              refine vone rfl (vxq (vfa rfl) rfl rfl ?_)
              refine vone rfl (vxs (vst1 rfl rfl rfl rfl) rfl ?_)
              refine vnil ?_
              refine vinblock ?_
              refine vregion ?_
              refine vone rfl (vxq (vmv rfl) rfl rfl ?_)
              refine vone rfl (vxq (vadd rfl rfl (by unfold InR; omega)) rfl rfl ?_)
              refine vone rfl (vxq (vas rfl) rfl rfl ?_)
              refine vnil ?_
              rw [show sg.length + 1 = (sg ++ [(⟨t, nmI i, (octW (IntKind.i64.wrap (pn.x - o.x)) (IntKind.i64.wrap (pn.y - o.y))), max 0 ((rootE (sqW o pn)).1 - restP wd 5), (rootE (sqW o pn)).1 + 1 + restP wd 5⟩ : Sg)]).length by simp]; exact vback (IH2 (i + 1, now ++ [pn], sg ++ [(⟨t, nmI i, (octW (IntKind.i64.wrap (pn.x - o.x)) (IntKind.i64.wrap (pn.y - o.y))), max 0 ((rootE (sqW o pn)).1 - restP wd 5), (rootE (sqW o pn)).1 + 1 + restP wd 5⟩ : Sg)], r9, j9, some ⟨g, 0, Option.none⟩, l8, r5, j5, D9, F8, D5) ⟨by have hst := innF_step hN.e hp hin (ys := (some (⟨t, nmI i, (octW (IntKind.i64.wrap (pn.x - o.x)) (IntKind.i64.wrap (pn.y - o.y))), max 0 ((rootE (sqW o pn)).1 - restP wd 5), (rootE (sqW o pn)).1 + 1 + restP wd 5⟩ : Sg))) (by rw [← hpn]; exact see_yes h174 h178 h189 (by omega) (if_neg (by omega))); rw [← hpn] at hst; simpa using hst, by omega, by simp [hnl], by first | exact hs32 | (rw [List.length_append]; simp only [List.length_cons, List.length_nil]; omega), by rw [snocP]; exact hP9, by rw [← hpn2]; exact hO8n, by rw [snocS]; rw [List.length_append]; exact hP5⟩ (by show (min 3 (la.length : Int)).toNat - (i + 1) < (min 3 (la.length : Int)).toNat - i; omega)) ⟨rfl, rfl, rfl, rfl, rfl, rfl, rfl, rfl, rfl, rfl, rfl, rfl, True.intro⟩ sb2
     ·
      refine vexit (k' := _) rfl ?_
      refine vregion ?_
      refine vone rfl (vxq (vmv rfl) rfl rfl ?_)
      refine vone rfl (vxq (vmv rfl) rfl rfl ?_)
      refine vone rfl (vxg (vbs rfl rfl rfl rfl rfl rfl) rfl rfl ?_)
      rintro _ _ ⟨n19, rfl, rfl⟩
      refine vone rfl (vxg (vappF (a := ⟨n19, 0, Option.none⟩) (m := 1) (c := 1) (size := 1) (bytes := 24) (F := fun X => (n19, blk [.slice p9 i k9] 69) :: (b7, blk (encP o) 73) :: (b4, blk [.slice r1 (t + 1) j1, .slice r2 (t + 1) j2, .slice r3 (t + 1) j3, .slice r4 (t + 1) j4, .slice q5 sg.length l5] 33) :: (C9 ++ (E8 ++ (E5 ++ ((D1 ++ (D2 ++ (D3 ++ D4))) ++ (D6 ++ (X ++ (M ++ ((b5, blk [.string annB, .string bobB, .string calB] 9) :: (b3, blk [.slice Option.none 0 0, .slice Option.none 0 0, .slice Option.none 0 0, .slice Option.none 0 0, .slice Option.none 0 0] 33) :: (b2, blk (clLf o1 ls.length c1 o2 la.length c2 o3 lb.length c3 wd) 71) :: (b1, blk (clWn w) 23) :: H))))))))) (B := C7) (xs := L.flatMap encD) (news := [.slice p9 i k9]) (fun X => pf6 [(n19, blk [.slice p9 i k9] 69), (b7, blk (encP o) 73), (b4, blk [.slice r1 (t + 1) j1, .slice r2 (t + 1) j2, .slice r3 (t + 1) j3, .slice r4 (t + 1) j4, .slice q5 sg.length l5] 33)] C9 E8 E5 (D1 ++ (D2 ++ (D3 ++ D4))) D6 X (M ++ ((b5, blk [.string annB, .string bobB, .string calB] 9) :: (b3, blk [.slice Option.none 0 0, .slice Option.none 0 0, .slice Option.none 0 0, .slice Option.none 0 0, .slice Option.none 0 0] 33) :: (b2, blk (clLf o1 ls.length c1 o2 la.length c2 o3 lb.length c3 wd) 71) :: (b1, blk (clWn w) 23) :: H))) rfl rfl hI.h7 rfl (news_blk (b := n19) (List.Mem.head _)) (fun u hu => by rw [List.mem_singleton.1 hu]; rfl) (by omega) (by simp only [maxLen]; omega) (by omega)) rfl rfl ?_)
      rintro _ _ ⟨D7, hP7, _, rfl⟩
      obtain ⟨r7, j7, rfl, _⟩ := hP7.shape
      refine vone rfl (vxq (vas rfl) rfl rfl ?_)
      refine vnil ?_
      refine vinblock ?_
      refine vregion ?_
      refine vone rfl (vxq (vmv rfl) rfl rfl ?_)
      refine vone rfl (vxq (vadd rfl rfl (by unfold InR; omega)) rfl rfl ?_)
      refine vone rfl (vxq (vas rfl) rfl rfl ?_)
      refine vnil ?_
      refine VRun.perm (H' := ((b4, blk [.slice r1 (t + 1) j1, .slice r2 (t + 1) j2, .slice r3 (t + 1) j3, .slice r4 (t + 1) j4, .slice q5 sg.length l5] 33) :: (E8 ++ (E5 ++ ((D1 ++ (D2 ++ (D3 ++ D4))) ++ (D6 ++ (D7 ++ ((C9 ++ M) ++ ((b5, blk [.string annB, .string bobB, .string calB] 9) :: (b3, blk [.slice Option.none 0 0, .slice Option.none 0 0, .slice Option.none 0 0, .slice Option.none 0 0, .slice Option.none 0 0] 33) :: (b2, blk (clLf o1 ls.length c1 o2 la.length c2 o3 lb.length c3 wd) 71) :: (b1, blk (clWn w) 23) :: H)))))))) ++ [(n19, blk [.slice p9 i k9] 69), (b7, blk (encP o) 73)]) (pq7 [(n19, blk [.slice p9 i k9] 69), (b7, blk (encP o) 73)] [(b4, blk [.slice r1 (t + 1) j1, .slice r2 (t + 1) j2, .slice r3 (t + 1) j3, .slice r4 (t + 1) j4, .slice q5 sg.length l5] 33)] C9 E8 E5 (D1 ++ (D2 ++ (D3 ++ D4))) D6 D7 M ((b5, blk [.string annB, .string bobB, .string calB] 9) :: (b3, blk [.slice Option.none 0 0, .slice Option.none 0 0, .slice Option.none 0 0, .slice Option.none 0 0, .slice Option.none 0 0] 33) :: (b2, blk (clLf o1 ls.length c1 o2 la.length c2 o3 lb.length c3 wd) 71) :: (b1, blk (clWn w) 23) :: H)) ?_
      refine VRun.sub (List.sublist_append_left _ _) ?_
      have him : i = (min 3 (la.length : Int)).toNat := by omega
      have hma := hI.ma
      exact vback (IH (t + 1, ⟨S.ship ++ [(aroundR o (restP wd 4))], S.src ++ [(aroundR ⟨o.x - 10, o.y⟩ (restP wd 3))], S.eyes ++ [true], S.ears ++ [decide ((t : Int) % 2 = 0)], sg, S.guns ++ [⟨o.x - 10, o.y⟩], S.all ++ [now], now⟩, r1, j1, r2, j2, r3, j3, r4, j4, q5, l5, r6, j6, r7, j7, q8, l8, D1, D2, D3, D4, E5, D6, D7, E8, C9 ++ M, L ++ [⟨p9, k9, now⟩]) ⟨outF_step hI.e ho hok (by rw [hma, ← him]; exact hN.e), by omega, by rw [← him]; exact hnl, by rw [snoc_flat]; exact hP1, by rw [snoc_flat]; exact hP2, by rw [snocB]; exact hP3, by rw [snocB]; exact hP4, hN.h5, by rw [snocP]; exact hP6, by rw [snocD]; show OwnS _ _ _ _ (_ ++ [.slice p9 now.length k9]) _; rw [hnl]; exact hP7, by have h8 := hN.h8; rw [List.drop_eq_nil_of_le (by omega), List.append_nil] at h8; exact h8, by rw [List.map_append, hI.al]; rfl, fun d hd => dn_snoc hI.ds (hN.h9.slo (enc := encP) (fun _ => rfl) (by decide) rfl hnl) hd⟩ (by show 20 - (t + 1) < 20 - t; omega)) ⟨rfl, rfl, rfl, rfl, rfl, rfl, rfl, rfl, rfl, True.intro⟩ sb2
  ·
   refine vexit (k' := _) rfl ?_
   refine vseq ?_
   refine vdraw1 (d := 4) rfl [(.q, 0), (.q, 1), (.q, 2), (.q, 3), (.q, 4), (.q, 5), (.q, 6), (.s, 7), (.q, 8), (.q, 9), (.q, 10)] Tryd.mixed (by kernel_rfl) (allocOk_of _ (by kernel_rfl)) ?_
   refine vdq (mone rfl) (vldn rfl rfl) rfl rfl ?_
   refine vdq (mone rfl) (vmv rfl) rfl rfl ?_
   refine vdq (mone rfl) (vmv rfl) rfl rfl ?_
   refine vdq (mone rfl) (vfa rfl) rfl rfl ?_
   refine vdq (mone rfl) (vld1 rfl rfl) rfl rfl ?_
   refine vdq (mone rfl) (vlen rfl) rfl rfl ?_
   refine vdq (mone rfl) (vgtr rfl rfl) rfl rfl ?_
   refine vds (mone rfl) (vstn rfl rfl rfl rfl rfl) rfl ?_
   refine vdq (mone rfl) (vas rfl) rfl rfl ?_
   refine vdq (mone rfl) (vas rfl) rfl rfl ?_
   refine vdq (mone rfl) (vas rfl) rfl rfl ?_
   refine vdend rfl ?_
   refine vret (vr4 (H' := C5 ++ ((C1 ++ (C2 ++ (C3 ++ C4))) ++ (C6 ++ (C7 ++ (M ++ H))))) Tryd.func40 rfl (.celln rfl rfl) (.tmp rfl) (.tmp rfl) (.tmp rfl) sb2 ?_)
   first | (exact seen_fin hI (nm_small hI.e)) | (exact ⟨_, rfl, [], rfl, .inl ⟨_, _, _, _, _, _, _, _, _, _, _, _, _, _, _, _, _, rfl⟩⟩)
 ·
  refine vno rfl rfl rfl rfl rfl ?_
  refine vno rfl rfl rfl rfl rfl ?_
  refine vone rfl (vxq (vpkf rfl rfl) rfl rfl ?_)
  refine vnil ?_
  refine vcondf rfl ?_
  refine vexit (k' := _) rfl ?_
  refine vseq ?_
  refine vdraw1 (d := 4) rfl [(.q, 0), (.q, 1), (.q, 2), (.q, 3), (.q, 4), (.q, 5), (.q, 6), (.s, 7), (.q, 8), (.q, 9), (.q, 10)] Tryd.mixed (by kernel_rfl) (allocOk_of _ (by kernel_rfl)) ?_
  refine vdq (mone rfl) (vldn rfl rfl) rfl rfl ?_
  refine vdq (mone rfl) (vmv rfl) rfl rfl ?_
  refine vdq (mone rfl) (vmv rfl) rfl rfl ?_
  refine vdq (mone rfl) (vfa rfl) rfl rfl ?_
  refine vdq (mone rfl) (vld1 rfl rfl) rfl rfl ?_
  refine vdq (mone rfl) (vlen rfl) rfl rfl ?_
  refine vdq (mone rfl) (vgtr rfl rfl) rfl rfl ?_
  refine vds (mone rfl) (vstn rfl rfl rfl rfl rfl) rfl ?_
  refine vdq (mone rfl) (vas rfl) rfl rfl ?_
  refine vdq (mone rfl) (vas rfl) rfl rfl ?_
  refine vdq (mone rfl) (vas rfl) rfl rfl ?_
  refine vdend rfl ?_
  refine vret (vr4 (H' := C5 ++ ((C1 ++ (C2 ++ (C3 ++ C4))) ++ (C6 ++ (C7 ++ (M ++ H))))) Tryd.func40 rfl (.celln rfl rfl) (.tmp rfl) (.tmp rfl) (.tmp rfl) sb2 ?_)
  first | (exact seen_fin hI (nm_small hI.e)) | (exact ⟨_, rfl, [], rfl, .inl ⟨_, _, _, _, _, _, _, _, _, _, _, _, _, _, _, _, _, rfl⟩⟩)
end Go.Proofs.YtaplkoimhecacaaDoor
namespace Go.Proofs.YtaplkoimhecacaaDoor
open Go
set_option maxRecDepth 100000

attribute [local irreducible] tightP hullP rootP farP rows endsOf
section
variable {H : Heap} {o1 : Option Addr} {k1 : Nat} {o2 : Option Addr} {k2 : Nat} {o3 : Option Addr} {k3 : Nat} {o4 : Option Addr} {k4 : Nat} {bs T : Nat} {cs : List Value} [SlO H o1 8 clR (scP 8).ship] [SlO H o2 8 clR (scP 8).src] [SlO H o3 1 encB (scP 8).eyes] [SlO H o4 1 encB (scP 8).ears]
end
end Go.Proofs.YtaplkoimhecacaaDoor
namespace Go.Proofs.YtaplkoimhecacaaDoor
open Go
set_option maxRecDepth 100000
attribute [local irreducible] tightP hullP rootP farP rows endsOf restP pickP swW sqW octW innF outF aroundR seeS newP rootE

def SeenX (w : Wn) (ls la : List Pt) (lb : List Int) (wd : Int) (v : Value) (B : Heap) : Prop :=
  ∃ q1 n1 j1 q2 n2 j2 q3 n3 j3 q4 n4 j4 q5 n5 j5 av gv z, v = tup [.agg [.slice q1 n1 j1, .slice q2 n2 j2, .slice q3 n3 j3, .slice q4 n4 j4, .slice q5 n5 j5].toArray, av, gv, .bool (decide (z > (0 : Int)))] ∧ (z > 0 → ∃ (t : Nat) (S : STt) (oa : Option Addr) (ka : Nat) (og : Option Addr) (kg : Nat) (L : List Dn), z = (t : Int) ∧ outF w ls la lb wd t = some S ∧ t ≤ 20 ∧ ScO B ⟨q1, j1, q2, j2, q3, j3, q4, j4, q5, j5⟩ S.sc ∧
    S.sc.ship.length = n1 ∧ S.sc.src.length = n2 ∧ S.sc.eyes.length = n3 ∧ S.sc.ears.length = n4 ∧ S.sc.sg.length = n5 ∧ av = .slice oa t ka ∧ gv = .slice og t kg ∧ SlO B oa 1 encD L ∧ S.all = L.map Dn.l ∧ (∀ d ∈ L, SlO B d.oa 2 encP d.l) ∧ SlO B og 2 encP S.guns)
theorem seen_X {w : Wn} {ls la : List Pt} {lb : List Int} {wd : Int} {v : Value} {B : Heap} (h : SeenR w ls la lb wd v B) : SeenX w ls la lb wd v B := by
  rcases h with ⟨q1, n1, j1, q2, n2, j2, q3, n3, j3, q4, n4, j4, q5, n5, j5, av, gv, rfl⟩ | ⟨t, S, q1, j1, q2, j2, q3, j3, q4, j4, q5, j5, oa, ka, og, kg, L, rfl, hO, ht, hsc, h1, h2, h3, h4⟩
  · exact ⟨_, _, _, _, _, _, _, _, _, _, _, _, _, _, _, av, gv, 0, rfl, fun h => absurd h (by omega)⟩
  · have hL := outF_len hO
    exact ⟨_, _, _, _, _, _, _, _, _, _, _, _, _, _, _, _, _, t, rfl, fun _ => ⟨t, S, oa, ka, og, kg, L, rfl, hO, ht, hsc, hL.l1, hL.l2, hL.l3, hL.l4, rfl, rfl, rfl, h1, h2, h3, h4⟩⟩
theorem d_seenX (w : Wn) (o1 : Option Addr) (c1 : Nat) (ls : List Pt) (o2 : Option Addr) (c2 : Nat) (la : List Pt) (o3 : Option Addr) (c3 : Nat) (lb : List Int) (wd : Int) (H : Heap) [hs1 : SlO H o1 2 encP ls] [hs2 : SlO H o2 2 encP la] [hs3 : SlO H o3 1 encI lb] (hm1 : ls.length ≤ 9223372036854775807) (hm2 : la.length ≤ 9223372036854775807) (hm3 : lb.length ≤ 9223372036854775807) (hc2 : la.length ≤ c2) (hgs : ∀ p ∈ ls, InR p.x ∧ InR p.y) (hb : ∀ n ∈ lb, InR n) (hwd : InR wd) :
    VCall Tryd.prog 40 [vWn w, .agg (clLf o1 ls.length c1 o2 la.length c2 o3 lb.length c3 wd).toArray].toArray H (fun o H' => ∃ v, o = .val v ∧ ∃ B, H' = B ++ H ∧ SeenX w ls (la.take (min 3 (la.length : Int)).toNat) lb wd v B) :=
  (d_seen w o1 c1 ls o2 c2 la o3 c3 lb wd H hm1 hm2 hm3 hc2 hgs hb hwd).mono fun o H' ⟨v, h1, B, h2, h3⟩ => ⟨v, h1, B, h2, seen_X h3⟩
theorem d_DangT {w : Wn} {h : SH} {s : Sc} {H : Heap} [hsc : ScO H h s] [hgl : Glob H] {n : Nat} (e0 : (dangerE w s).2 = 0) (hn : (dangerE w s).1.length = n) : VCall Tryd.prog 19 [vWn w, vSc h s].toArray H (fun o H' => ∃ v, o = .val v ∧ ∃ B, H' = B ++ H ∧ ∃ oa c, v = tup [.slice oa n c, I 0] ∧ SlO B oa 1 encB (dangerE w s).1) := by
  subst hn
  exact (d_Danger w h s H).mono fun o H' ⟨v, h1, B, h2, oa, c, h3, _, h5⟩ => ⟨v, h1, B, h2, oa, c, by rw [h3, e0], h5⟩
theorem d_BestT {w : Wn} {h : SH} {s : Sc} {H : Heap} [hsc : ScO H h s] [hgl : Glob H] {n : Nat} (e0 : (dangerE w s).2 = 0) (hn : s.ship.length = n) : VCall Tryd.prog 23 [vWn w, vSc h s].toArray H (fun o H' => ∃ v, o = .val v ∧ ∃ B, H' = B ++ H ∧ ∃ oa c x, v = tup [.slice oa n c, I x, I 0] ∧ SlO B oa 1 encI (bestE w s).1) := by
  subst hn
  have e1 : (bestE w s).2.2 = 0 := by rw [best_e0]; exact e0
  refine (d_Best w h s H).mono fun o H' ⟨v, h1, B, h2, oa, c, h3, h5⟩ => ⟨v, h1, B, h2, oa, c, (bestE w s).2.1, ?_, h5⟩
  rw [h3, e1, (best_judge e1).2.2]
def TrueAt (w : Wn) (S : STt) (i n : Nat) : Prop := ∀ (t : Nat) row p g, t < n → (knAt w S.sc (nmI i) (t + 1)).isSome = true → S.all[t]? = some row → row[i]? = some p → S.guns[t]? = some g → hasE ((knAt w S.sc (nmI i) (t + 1)).getD (zR, 0)).1 p = (true, 0) ∧ (d2 p g ≤ w.zone * w.zone → (dangerE w S.sc).1[t]? = some true ∧ (bestE w S.sc).1[t]? = some 0)
theorem d_TrackT {w : Wn} {h : SH} {S : STt} {ls la : List Pt} {lb : List Int} {wd : Int} {H : Heap} {n i : Nat} (hsc : ScO H h S.sc) (hgl : Glob H) (hw : okW w) (hO : outF w ls la lb wd n = some S) (h0 : 0 < n) (h20 : n ≤ 20) (h3 : la.length ≤ 3) (hi : i < 3) : VCall Tryd.prog 26 [vWn w, vSc h S.sc, .string (nmI i)].toArray H (fun o H' => ∃ v, o = .val v ∧ ∃ B, H' = B ++ H ∧ ∃ oa m1 c oc m2 cc e, v = tup [.slice oa m1 c, .slice oc m2 cc, I e] ∧ (¬ e = 4 → e = 0 ∧ n = m1 ∧ n = m2 ∧ i < la.length ∧ SlO B oa 1 encB (knL w S.sc (nmI i) n) ∧ SlO B oc 8 clR (whL w S.sc (nmI i) n) ∧ TrueAt w S i n)) := by
  refine (d_Track w h S.sc H (nmI i)).mono fun o H' ⟨v, h1, B, h2, oa, c, oc, cc, hv, h4, h5⟩ => ⟨v, h1, B, h2, oa, _, c, oc, _, cc, _, hv, fun he => ?_⟩
  rcases seen_true hw hO h0 h20 h3 hi with ht | ⟨hil, ht, hF⟩
  · exact absurd ht he
  · rw [ht] at h4 h5 ⊢
    exact ⟨rfl, (knL_len _ _ _ _).symm, (whL_len _ _ _ _).symm, hil, h4, h5, hF⟩
theorem c_HasT {r : Rg} {p : Pt} (h : hasE r p = (true, 0)) : VPure Tryd.prog 41 [vR r, vP p] (tup [.bool true, I 0]) := by
  have := c_HasX r p
  rw [h] at this; exact this
theorem knT_at {w : Wn} {s : Sc} {nm : ByteArray} {n t : Nat} (h : t < n) : (knL w s nm n)[t]? = some (knAt w s nm (t + 1)).isSome := by unfold knL; rw [List.getElem?_map, List.getElem?_range h]; rfl
theorem whT_at {w : Wn} {s : Sc} {nm : ByteArray} {n t : Nat} (h : t < n) : (whL w s nm n)[t]? = some ((knAt w s nm (t + 1)).getD (zR, 0)).1 := by unfold whL; rw [List.getElem?_map, List.getElem?_range h]; rfl
/-- What lies at a step of a life that was seen. -/
theorem at_life {w : Wn} {ls la : List Pt} {lb : List Int} {wd : Int} {n : Nat} {S : STt} {L : List Dn} {B : Heap} (hw : okW w) (hO : outF w ls la lb wd n = some S) (hA : S.all = L.map Dn.l) (hds : ∀ d ∈ L, SlO B d.oa 2 encP d.l) {i k : Nat} (hk : k < n) (hi : i < la.length) : ∃ d p g, L[k]? = some d ∧ d.l.length = la.length ∧ d.l[i]? = some p ∧ S.guns[k]? = some g ∧ SlO B d.oa 2 encP d.l ∧ S.all[k]? = some d.l ∧ bdP p ∧ bdP g := by
  have hL := outF_len hO
  have hI := outF_inv hw hO
  obtain ⟨row, p, h1, h2, h3, _⟩ := row_at hO hk hi
  obtain ⟨o, _, c2, _, _, _, _, c7, _⟩ := hL.at_ k hk
  have hp := hI.pos k row h1 p (List.mem_of_getElem? h2)
  have hd : ∃ d, L[k]? = some d ∧ d.l = row := by
    rw [hA, List.getElem?_map] at h1
    cases hd : L[k]? with
    | none => rw [hd] at h1; cases h1
    | some d => rw [hd] at h1; exact ⟨d, rfl, Option.some.inj h1⟩
  obtain ⟨d, hd, rfl⟩ := hd
  refine ⟨d, p, _, hd, h3, h2, c7, hds d (List.mem_of_getElem? hd), h1, by unfold bdP; omega, ?_⟩
  unfold ok20 at c2; unfold bdP; simp only; omega
theorem zone_in {w : Wn} (hw : okW w) : InR (w.zone * w.zone) := by
  unfold okW at hw
  have h1 := Int.mul_nonneg hw.1.1 hw.1.1
  have h2 := Int.mul_le_mul hw.1.2 hw.1.2 hw.1.1 (by omega)
  unfold InR; omega
theorem take_min (la : List Pt) : (la.take (min 3 (la.length : Int)).toNat).length ≤ 3 := by rw [List.length_take]; omega

set_option maxHeartbeats 4000000 in
/-- paravane/paravanelaw06.WatchTruth -/
theorem w_Truth (w : Wn) (o1 : Option Addr) (c1 : Nat) (ls : List Pt) (o2 : Option Addr) (c2 : Nat) (la : List Pt) (o3 : Option Addr) (c3 : Nat) (lb : List Int) (wd : Int) (H : Heap) [hgl : Glob H] [hs1 : SlO H o1 2 encP ls] [hs2 : SlO H o2 2 encP la] [hs3 : SlO H o3 1 encI lb] (hm1 : ls.length ≤ 9223372036854775807) (hm2 : la.length ≤ 9223372036854775807) (hm3 : lb.length ≤ 9223372036854775807) (hc2 : la.length ≤ c2) (hgs : ∀ p ∈ ls, InR p.x ∧ InR p.y) (hb : ∀ n ∈ lb, InR n) (hwd : InR wd) : VHas Tryd.prog 12 [vWn w, .agg (clLf o1 ls.length c1 o2 la.length c2 o3 lb.length c3 wd).toArray] (.bool true) (H) (H) := by
 refine vcall_of_vrun Tryd.func12 rfl (N := 181) rfl rfl ?_
 refine vseq ?_
 refine vregion ?_
 refine vone rfl (vxa (vbox rfl rfl) rfl rfl (fun b1 => ?_))
 refine vone rfl (vxa (vbox rfl rfl) rfl rfl (fun b2 => ?_))
 refine vone rfl (vxq (vas rfl) rfl rfl ?_)
 refine vnil ?_
 refine vseq ?_
 refine vregion ?_
 refine vone rfl (vxq (vldn rfl rfl) rfl rfl ?_)
 refine vone rfl (vxq (vldn rfl rfl) rfl rfl ?_)
 refine vone rfl (vxg (vcg rfl rfl rfl (d_seenX w o1 c1 ls o2 c2 la o3 c3 lb wd _ hm1 hm2 hm3 hc2 hgs hb hwd) (fun o H' h => h)) rfl rfl ?_)
 rintro _ _ ⟨B0, rfl, ⟨q1, n1, j1, q2, n2, j2, q3, n3, j3, q4, n4, j4, q5, n5, j5, av, gv, z, rfl, hX⟩⟩
 refine vone rfl (vxq (vmv rfl) rfl rfl ?_)
 refine vone rfl (vxq (vex rfl rfl) rfl rfl ?_)
 refine vone rfl (vxq (vex rfl rfl) rfl rfl ?_)
 refine vone rfl (vxq (vex rfl rfl) rfl rfl ?_)
 refine vone rfl (vxq (vex rfl rfl) rfl rfl ?_)
 refine vone rfl (vxa valloc rfl rfl (fun b3 => ?_))
 refine vone rfl (vxs (vstn rfl rfl rfl rfl rfl) rfl ?_)
 refine vone rfl (vxq (vas rfl) rfl rfl ?_)
 refine vone rfl (vxq (vas rfl) rfl rfl ?_)
 refine vone rfl (vxq (vas rfl) rfl rfl ?_)
 refine vnil ?_
 refine vseq ?_
 refine vseq ?_
 refine vregion ?_
 refine vone rfl (vxq (vmv rfl) rfl rfl ?_)
 refine vone rfl (vxq (vnotd rfl) rfl rfl ?_)
 refine vone rfl (vxq (vmv rfl) rfl rfl ?_)
 refine vsplitd (d := 34) rfl (fun h34 => ?_) (fun h34 => ?_)
 ·
  refine vno rfl rfl rfl rfl rfl ?_
  refine vno rfl rfl rfl rfl rfl ?_
  refine vno rfl rfl rfl rfl rfl ?_
  refine vone rfl (vxq (vpkt rfl rfl) rfl rfl ?_)
  refine vnil ?_
  refine vcondt rfl ?_
  refine vseq ?_
  refine vregion ?_
  refine vone rfl (vxq (vcq rfl rfl rfl (c_works _)) rfl rfl ?_)
  refine vknow (d := 39) (b' := true) rfl rfl ?_
  refine vone rfl (vxq (vas rfl) rfl rfl ?_)
  refine vnil ?_
  refine vret (vr1 (H' := H) Tryd.func12 rfl (.tmp rfl) sb2 ?_)
  exact ⟨rfl, rfl⟩
 ·
  refine vyes rfl rfl rfl (vxq (vldn rfl rfl) rfl rfl ?_)
  refine vyes rfl rfl rfl (vxq (vcp rfl rfl rfl (c_CheckWatch w)) rfl rfl ?_)
  refine vyes rfl rfl rfl (vxq (vneq rfl rfl) rfl rfl ?_)
  refine vone rfl (vxq (vpkf rfl rfl) rfl rfl ?_)
  refine vnil ?_
  refine vcondd rfl (fun h38 => ?_) (fun h38 => ?_)
  ·
   refine vseq ?_
   refine vregion ?_
   refine vone rfl (vxq (vcq rfl rfl rfl (c_works _)) rfl rfl ?_)
   refine vknow (d := 39) (b' := true) rfl rfl ?_
   refine vone rfl (vxq (vas rfl) rfl rfl ?_)
   refine vnil ?_
   refine vret (vr1 (H' := H) Tryd.func12 rfl (.tmp rfl) sb2 ?_)
   exact ⟨rfl, rfl⟩
  ·
   obtain ⟨t, S, oa, ka, og, kg, L, rfl, hO, ht20, hsc, rfl, rfl, rfl, rfl, rfl, rfl, rfl, hsa, hA, hds, hsg⟩ := hX (Classical.not_not.1 h34)
   have ht0 : 0 < t := by omega
   have hw := chkW_z.1 (Classical.not_not.1 h38)
   obtain ⟨hd0, hdl⟩ := seen_danger hw hO ht0 ht20 (take_min la)
   have hL := outF_len hO
   have hlL : L.length = t := by have := congrArg List.length hA; rw [List.length_map] at this; have := hL.l6; omega
   refine vskip ?_
   refine vseq ?_
   refine vregion ?_
   refine vone rfl (vxq (vldn rfl rfl) rfl rfl ?_)
   refine vone rfl (vxq (vldn rfl rfl) rfl rfl ?_)
   refine vone rfl (vxg (vcg rfl rfl rfl (d_DangT (h := (⟨q1, j1, q2, j2, q3, j3, q4, j4, q5, j5⟩ : SH)) (s := S.sc) hd0 hdl) (fun o H' h => h)) rfl rfl ?_)
   rintro _ _ ⟨Bd, rfl, ⟨od, cd, rfl, hkd⟩⟩
   refine vone rfl (vxq (vmv rfl) rfl rfl ?_)
   refine vone rfl (vxq (vex rfl rfl) rfl rfl ?_)
   refine vone rfl (vxq (vex rfl rfl) rfl rfl ?_)
   refine vone rfl (vxq (vas rfl) rfl rfl ?_)
   refine vone rfl (vxq (vas rfl) rfl rfl ?_)
   refine vnil ?_
   refine vseq ?_
   refine vregion ?_
   refine vone rfl (vxq (vldn rfl rfl) rfl rfl ?_)
   refine vone rfl (vxq (vldn rfl rfl) rfl rfl ?_)
   refine vone rfl (vxg (vcg rfl rfl rfl (d_BestT (h := (⟨q1, j1, q2, j2, q3, j3, q4, j4, q5, j5⟩ : SH)) (s := S.sc) hd0 hL.l1) (fun o H' h => h)) rfl rfl ?_)
   rintro _ _ ⟨Bb, rfl, ⟨ob, cb, xb, rfl, hkb⟩⟩
   refine vone rfl (vxq (vmv rfl) rfl rfl ?_)
   refine vone rfl (vxq (vex rfl rfl) rfl rfl ?_)
   refine vone rfl (vxq (vex rfl rfl) rfl rfl ?_)
   refine vone rfl (vxq (vex rfl rfl) rfl rfl ?_)
   refine vone rfl (vxq (vas rfl) rfl rfl ?_)
   refine vone rfl (vxq (vas rfl) rfl rfl ?_)
   refine vone rfl (vxq (vas rfl) rfl rfl ?_)
   refine vnil ?_
   refine vseq ?_
   refine vseq ?_
   refine vregion ?_
   refine vone rfl (vxq (vmv rfl) rfl rfl ?_)
   refine vone rfl (vxq (vneq rfl rfl) rfl rfl ?_)
   refine vknow (d := 54) (b' := false) rfl (decide_eq_false (fun e => e (rfl))) ?_
   refine vone rfl (vxq (vmv rfl) rfl rfl ?_)
   refine vyes rfl rfl rfl (vxq (vmv rfl) rfl rfl ?_)
   refine vyes rfl rfl rfl (vxq (vneq rfl rfl) rfl rfl ?_)
   refine vknow (d := 57) (b' := false) rfl (decide_eq_false (fun e => e (rfl))) ?_
   refine vone rfl (vxq (vpkf rfl rfl) rfl rfl ?_)
   refine vone rfl (vxq (vmv rfl) rfl rfl ?_)
   refine vyes rfl rfl rfl (vxq (vmv rfl) rfl rfl ?_)
   refine vyes rfl rfl rfl (vxq (vlen rfl) rfl rfl ?_)
   refine vyes rfl rfl rfl (vxq (vmv rfl) rfl rfl ?_)
   refine vyes rfl rfl rfl (vxq (vlen rfl) rfl rfl ?_)
   refine vyes rfl rfl rfl (vxq (vneq rfl rfl) rfl rfl ?_)
   refine vknow (d := 64) (b' := false) rfl (decide_eq_false (fun e => e (rfl))) ?_
   refine vone rfl (vxq (vpkf rfl rfl) rfl rfl ?_)
   refine vone rfl (vxq (vmv rfl) rfl rfl ?_)
   refine vyes rfl rfl rfl (vxq (vmv rfl) rfl rfl ?_)
   refine vyes rfl rfl rfl (vxq (vlen rfl) rfl rfl ?_)
   refine vyes rfl rfl rfl (vxq (vmv rfl) rfl rfl ?_)
   refine vyes rfl rfl rfl (vxq (vlen rfl) rfl rfl ?_)
   refine vyes rfl rfl rfl (vxq (vneq rfl rfl) rfl rfl ?_)
   refine vknow (d := 71) (b' := false) rfl (decide_eq_false (fun e => e (rfl))) ?_
   refine vone rfl (vxq (vpkf rfl rfl) rfl rfl ?_)
   refine vnil ?_
   refine vcondf rfl ?_
   refine vskip ?_
   refine vseq ?_
   refine vregion ?_
   refine vone rfl (vxg (vbs rfl rfl rfl rfl rfl rfl) rfl rfl ?_)
   rintro _ _ ⟨b4, rfl, rfl⟩
   refine vone rfl (vxq (vas rfl) rfl rfl ?_)
   refine vnil ?_
   refine vseq ?_
   refine vseq ?_
   refine vregion ?_
   refine vone rfl (vxq (vas rfl) rfl rfl ?_)
   refine vnil ?_
   refine vblock ?_
   refine vwhile (σ := Nat) (fun i => 3 - i) (fun i => [(2, ptr b1), (5, ptr b3), (6, .slice oa t ka), (7, .slice og t kg), (9, .slice od t cd), (11, .slice ob t cb), (14, (.slice (some ⟨b4, 0, Option.none⟩) 3 3)), (15, I (i : Int))]) (fun i => (b4, blk [.string annB, .string bobB, .string calB] 9) :: (Bb ++ (Bd ++ ((b3, blk [.slice q1 S.sc.ship.length j1, .slice q2 S.sc.src.length j2, .slice q3 S.sc.eyes.length j3, .slice q4 S.sc.ears.length j4, .slice q5 S.sc.sg.length j5] 33) :: (B0 ++ ((b2, blk (clLf o1 ls.length c1 o2 la.length c2 o3 lb.length c3 wd) 71) :: (b1, blk (clWn w) 23) :: H)))))) (fun i => i ≤ 3) 0 (by omega) ⟨rfl, rfl, rfl, rfl, rfl, rfl, rfl, rfl, True.intro⟩ sb2 ?_
   rintro i hi3 IH
   change VRun _ _ _ _ _ [(2, ptr b1), (5, ptr b3), (6, .slice oa t ka), (7, .slice og t kg), (9, .slice od t cd), (11, .slice ob t cb), (14, (.slice (some ⟨b4, 0, Option.none⟩) 3 3)), (15, I (i : Int))] _ ((b4, blk [.string annB, .string bobB, .string calB] 9) :: (Bb ++ (Bd ++ ((b3, blk [.slice q1 S.sc.ship.length j1, .slice q2 S.sc.src.length j2, .slice q3 S.sc.eyes.length j3, .slice q4 S.sc.ears.length j4, .slice q5 S.sc.sg.length j5] 33) :: (B0 ++ ((b2, blk (clLf o1 ls.length c1 o2 la.length c2 o3 lb.length c3 wd) 71) :: (b1, blk (clWn w) 23) :: H)))))) _
   refine vseq ?_
   refine vseq ?_
   refine vregion ?_
   refine vone rfl (vxq (vmv rfl) rfl rfl ?_)
   refine vone rfl (vxq (vmv rfl) rfl rfl ?_)
   refine vone rfl (vxq (vlen rfl) rfl rfl ?_)
   refine vone rfl (vxq (vlss rfl rfl) rfl rfl ?_)
   refine vnil ?_
   refine vcondd rfl (fun h77 => ?_) (fun h77 => ?_)
   ·
    have hnm := nmL_at (i := i) (by omega)
    haveI hnames : SlO ((b4, blk [.string annB, .string bobB, .string calB] 9) :: (Bb ++ (Bd ++ ((b3, blk [.slice q1 S.sc.ship.length j1, .slice q2 S.sc.src.length j2, .slice q3 S.sc.eyes.length j3, .slice q4 S.sc.ears.length j4, .slice q5 S.sc.sg.length j5] 33) :: (B0 ++ ((b2, blk (clLf o1 ls.length c1 o2 la.length c2 o3 lb.length c3 wd) 71) :: (b1, blk (clWn w) 23) :: H)))))) (some ⟨b4, 0, Option.none⟩) 1 encN nmL := SlO.flat (fun _ => rfl) rfl
    refine vskip ?_
    refine vseq ?_
    refine vblock ?_
    refine vseq ?_
    refine vdraw0 [(.q, 0), (.q, 1), (.q, 2), (.q, 3), (.q, 4), (.q, 5), (.g, 6), (.q, 7), (.q, 8), (.q, 9), (.q, 10), (.q, 11), (.q, 12), (.q, 13)] Tryd.mixed (by kernel_rfl) (by kernel_rfl) ?_
    refine vdq (mone rfl) (vldn rfl rfl) rfl rfl ?_
    refine vdq (mone rfl) (vldn rfl rfl) rfl rfl ?_
    refine vdq (mone rfl) (vmv rfl) rfl rfl ?_
    refine vdq (mone rfl) (vmv rfl) rfl rfl ?_
    refine vdq (mone rfl) (visg (enc := encN) (xs := nmL) rfl rfl (by omega) (z := nmI i) hnm) rfl rfl ?_
    refine vdq (mone rfl) (vldS1 (enc := encN) (xs := nmL) rfl (z := nmI i) hnm rfl) rfl rfl ?_
    refine vdgl rfl (mone rfl) (vcg rfl rfl rfl (d_TrackT (h := (⟨q1, j1, q2, j2, q3, j3, q4, j4, q5, j5⟩ : SH)) (S := S) (i := i) inferInstance inferInstance hw hO ht0 ht20 (take_min la) (by omega)) (fun o H' h => h)) rfl rfl ?_
    rintro _ Bk ⟨ok, m1, ck, ow, m2, cw, e, rfl, hT⟩
    refine vdq (mone rfl) (vmv rfl) rfl rfl ?_
    refine vdq (mone rfl) (vex rfl rfl) rfl rfl ?_
    refine vdq (mone rfl) (vex rfl rfl) rfl rfl ?_
    refine vdq (mone rfl) (vex rfl rfl) rfl rfl ?_
    refine vdq (mone rfl) (vas rfl) rfl rfl ?_
    refine vdq (mone rfl) (vas rfl) rfl rfl ?_
    refine vdq (mone rfl) (vas rfl) rfl rfl ?_
    refine vdend (appHO_of _ _) ?_
    refine vseq ?_
    refine vseq ?_
    refine vregion ?_
    refine vone rfl (vxq (vmv rfl) rfl rfl ?_)
    refine vone rfl (vxq (veql rfl rfl) rfl rfl ?_)
    refine vnil ?_
    refine vcondd rfl (fun h92 => ?_) (fun h92 => ?_)
    ·
     refine vexit (k' := _) rfl ?_
     refine vregion ?_
     refine vone rfl (vxq (vmv rfl) rfl rfl ?_)
     refine vone rfl (vxq (vadd rfl rfl (by unfold InR; omega)) rfl rfl ?_)
     refine vone rfl (vxq (vas rfl) rfl rfl ?_)
     refine vnil ?_
     exact vback (IH (i + 1) (by omega) (by show 3 - (i + 1) < 3 - i; omega)) ⟨rfl, rfl, rfl, rfl, rfl, rfl, rfl, rfl, True.intro⟩ sb2
    ·
     obtain ⟨rfl, rfl, rfl, hil, hsk, hsw, hF⟩ := hT h92
     refine vskip ?_
     refine vseq ?_
     refine vseq ?_
     refine vregion ?_
     refine vone rfl (vxq (vmv rfl) rfl rfl ?_)
     refine vone rfl (vxq (vneq rfl rfl) rfl rfl ?_)
     refine vknow (d := 94) (b' := false) rfl (decide_eq_false (fun e => e (rfl))) ?_
     refine vone rfl (vxq (vmv rfl) rfl rfl ?_)
     refine vyes rfl rfl rfl (vxq (vmv rfl) rfl rfl ?_)
     refine vyes rfl rfl rfl (vxq (vlen rfl) rfl rfl ?_)
     refine vyes rfl rfl rfl (vxq (vmv rfl) rfl rfl ?_)
     refine vyes rfl rfl rfl (vxq (vlen rfl) rfl rfl ?_)
     refine vyes rfl rfl rfl (vxq (vneq rfl rfl) rfl rfl ?_)
     refine vknow (d := 100) (b' := false) rfl (decide_eq_false (fun e => e (rfl))) ?_
     refine vone rfl (vxq (vpkf rfl rfl) rfl rfl ?_)
     refine vone rfl (vxq (vmv rfl) rfl rfl ?_)
     refine vyes rfl rfl rfl (vxq (vmv rfl) rfl rfl ?_)
     refine vyes rfl rfl rfl (vxq (vlen rfl) rfl rfl ?_)
     refine vyes rfl rfl rfl (vxq (vmv rfl) rfl rfl ?_)
     refine vyes rfl rfl rfl (vxq (vlen rfl) rfl rfl ?_)
     refine vyes rfl rfl rfl (vxq (vneq rfl rfl) rfl rfl ?_)
     refine vknow (d := 107) (b' := false) rfl (decide_eq_false (fun e => e (rfl))) ?_
     refine vone rfl (vxq (vpkf rfl rfl) rfl rfl ?_)
     refine vnil ?_
     refine vcondf rfl ?_
     refine vskip ?_
     refine vseq ?_
     refine vregion ?_
     refine vone rfl (vxq (vas rfl) rfl rfl ?_)
     refine vnil ?_
     refine vblock ?_
     rw [List.append_nil]
     refine vwhile (σ := Nat) (fun k => t - k) (fun k => [(2, ptr b1), (5, ptr b3), (6, .slice oa t ka), (7, .slice og t kg), (9, .slice od t cd), (11, .slice ob t cb), (14, (.slice (some ⟨b4, 0, Option.none⟩) 3 3)), (15, I (i : Int)), (16, .slice ok t ck), (17, .slice ow t cw), (19, I (k : Int))]) (fun k => Bk ++ ((b4, blk [.string annB, .string bobB, .string calB] 9) :: (Bb ++ (Bd ++ ((b3, blk [.slice q1 S.sc.ship.length j1, .slice q2 S.sc.src.length j2, .slice q3 S.sc.eyes.length j3, .slice q4 S.sc.ears.length j4, .slice q5 S.sc.sg.length j5] 33) :: (B0 ++ ((b2, blk (clLf o1 ls.length c1 o2 la.length c2 o3 lb.length c3 wd) 71) :: (b1, blk (clWn w) 23) :: H))))))) (fun k => k ≤ t) 0 (by omega) ⟨rfl, rfl, rfl, rfl, rfl, rfl, rfl, rfl, rfl, rfl, rfl, True.intro⟩ sb2 ?_
     rintro k hkt IH2
     change VRun _ _ _ _ _ [(2, ptr b1), (5, ptr b3), (6, .slice oa t ka), (7, .slice og t kg), (9, .slice od t cd), (11, .slice ob t cb), (14, (.slice (some ⟨b4, 0, Option.none⟩) 3 3)), (15, I (i : Int)), (16, .slice ok t ck), (17, .slice ow t cw), (19, I (k : Int))] _ (Bk ++ ((b4, blk [.string annB, .string bobB, .string calB] 9) :: (Bb ++ (Bd ++ ((b3, blk [.slice q1 S.sc.ship.length j1, .slice q2 S.sc.src.length j2, .slice q3 S.sc.eyes.length j3, .slice q4 S.sc.ears.length j4, .slice q5 S.sc.sg.length j5] 33) :: (B0 ++ ((b2, blk (clLf o1 ls.length c1 o2 la.length c2 o3 lb.length c3 wd) 71) :: (b1, blk (clWn w) 23) :: H))))))) _
     refine vseq ?_
     refine vseq ?_
     refine vregion ?_
     refine vone rfl (vxq (vmv rfl) rfl rfl ?_)
     refine vone rfl (vxq (vmv rfl) rfl rfl ?_)
     refine vone rfl (vxq (vlen rfl) rfl rfl ?_)
     refine vone rfl (vxq (vlss rfl rfl) rfl rfl ?_)
     refine vnil ?_
     refine vcondd rfl (fun h112 => ?_) (fun h112 => ?_)
     ·
      obtain ⟨d, p, g, hld, hdll, hlp, hlg, hsd, hall, hbp, hbg⟩ := at_life hw hO hA hds (i := i) (k := k) (by omega) hil
      haveI := hsd
      obtain ⟨zb, hzb⟩ : ∃ zb, zb = (knAt w S.sc (nmI i) (k + 1)).isSome := ⟨_, rfl⟩
      have hkn := knT_at (w := w) (s := S.sc) (nm := nmI i) (n := t) (t := k) (by omega)
      rw [← hzb] at hkn
      have hwh := whT_at (w := w) (s := S.sc) (nm := nmI i) (n := t) (t := k) (by omega)
      refine vskip ?_
      refine vseq ?_
      refine vblock ?_
      refine vseq ?_
      refine vseq ?_
      refine vregion ?_
      refine vone rfl (vxq (vmv rfl) rfl rfl ?_)
      refine vone rfl (vxq (vmv rfl) rfl rfl ?_)
      refine vone rfl (vxq (visg (enc := encB) rfl rfl (by omega) hkn) rfl rfl ?_)
      refine vone rfl (vxq (vldS1 (enc := encB) rfl hkn rfl) rfl rfl ?_)
      rcases zb with _ | _
      ·
       refine vone rfl (vxq (vnot rfl) rfl rfl ?_)
       refine vone rfl (vxq (vmv rfl) rfl rfl ?_)
       refine vno rfl rfl rfl rfl rfl ?_
       refine vno rfl rfl rfl rfl rfl ?_
       refine vno rfl rfl rfl rfl rfl ?_
       refine vno rfl rfl rfl rfl rfl ?_
       refine vno rfl rfl rfl rfl rfl ?_
       refine vno rfl rfl rfl rfl rfl ?_
       refine vno rfl rfl rfl rfl rfl ?_
       refine vone rfl (vxq (vpkt rfl rfl) rfl rfl ?_)
       refine vnil ?_
       refine vcondt rfl ?_
       refine vexit (k' := _) rfl ?_
       refine vregion ?_
       refine vone rfl (vxq (vmv rfl) rfl rfl ?_)
       refine vone rfl (vxq (vadd rfl rfl (by unfold InR; omega)) rfl rfl ?_)
       refine vone rfl (vxq (vas rfl) rfl rfl ?_)
       refine vnil ?_
       exact vback (IH2 (k + 1) (by omega) (by show t - (k + 1) < t - k; omega)) ⟨rfl, rfl, rfl, rfl, rfl, rfl, rfl, rfl, rfl, rfl, rfl, True.intro⟩ sb2
      ·
       refine vone rfl (vxq (vnot rfl) rfl rfl ?_)
       refine vone rfl (vxq (vmv rfl) rfl rfl ?_)
       refine vyes rfl rfl rfl (vxq (vmv rfl) rfl rfl ?_)
       refine vyes rfl rfl rfl (vxq (vmv rfl) rfl rfl ?_)
       refine vyes rfl rfl rfl (vxq (vmv rfl) rfl rfl ?_)
       refine vyes rfl rfl rfl (vxq (visg (enc := encD) rfl rfl (by omega) hld) rfl rfl ?_)
       refine vyes rfl rfl rfl (vxq (vldS1 (enc := encD) rfl hld rfl) rfl rfl ?_)
       refine vyes rfl rfl rfl (vxq (vlen rfl) rfl rfl ?_)
       refine vyes rfl rfl rfl (vxq (vgeq rfl rfl) rfl rfl ?_)
       refine vknow (d := 127) (b' := false) rfl (decide_eq_false (by omega)) ?_
       refine vone rfl (vxq (vpkf rfl rfl) rfl rfl ?_)
       refine vnil ?_
       refine vcondf rfl ?_
       refine vskip ?_
       refine vseq ?_
       obtain ⟨hF1, hF2⟩ := hF k d.l p g (by omega) hzb.symm hall hlp hlg
       refine vregion ?_
       refine vone rfl (vxq (vmv rfl) rfl rfl ?_)
       refine vone rfl (vxq (vmv rfl) rfl rfl ?_)
       refine vone rfl (vxq (visg (enc := encD) rfl rfl (by omega) hld) rfl rfl ?_)
       refine vone rfl (vxq (vldS1 (enc := encD) rfl hld rfl) rfl rfl ?_)
       refine vone rfl (vxq (vmv rfl) rfl rfl ?_)
       refine vone rfl (vxq (visg (enc := encP) rfl rfl (by omega) hlp) rfl rfl ?_)
       refine vone rfl (vxq (vldS (enc := encP) rfl hlp) rfl rfl ?_)
       refine vone rfl (vxa valloc rfl rfl (fun b5 => ?_))
       refine vone rfl (vxs (vstn rfl rfl rfl rfl rfl) rfl ?_)
       refine vnil ?_
       refine vseq ?_
       refine vdraw0 [(.q, 0), (.q, 1), (.q, 2), (.q, 3), (.q, 4), (.q, 5), (.q, 6), (.q, 7), (.q, 8), (.q, 9), (.q, 10)] Tryd.mixed (by kernel_rfl) (by kernel_rfl) ?_
       refine vdq (mone rfl) (vmv rfl) rfl rfl ?_
       refine vdq (mone rfl) (vmv rfl) rfl rfl ?_
       refine vdq (mone rfl) (visg (enc := clR) rfl rfl (by omega) hwh) rfl rfl ?_
       refine vdq (mone rfl) (vldS (enc := clR) rfl hwh) rfl rfl ?_
       refine vdq (mone rfl) (vldn rfl rfl) rfl rfl ?_
       refine vdq (mone rfl) (vcp rfl rfl rfl (c_HasT hF1)) rfl rfl ?_
       refine vdq (mone rfl) (vmv rfl) rfl rfl ?_
       refine vdq (mone rfl) (vex rfl rfl) rfl rfl ?_
       refine vdq (mone rfl) (vex rfl rfl) rfl rfl ?_
       refine vdq (mone rfl) (vas rfl) rfl rfl ?_
       refine vdq (mone rfl) (vas rfl) rfl rfl ?_
       refine vdend rfl ?_
       refine vseq ?_
       refine vdraw0 [(.q, 0), (.q, 1), (.q, 2), (.q, 3), (.q, 4), (.q, 5), (.q, 6), (.q, 7), (.q, 8), (.q, 9), (.q, 10), (.q, 11), (.q, 12)] Tryd.mixed (by kernel_rfl) (by kernel_rfl) ?_
       refine vdq (mone rfl) (vldn rfl rfl) rfl rfl ?_
       refine vdq (mone rfl) (vmv rfl) rfl rfl ?_
       refine vdq (mone rfl) (vmv rfl) rfl rfl ?_
       refine vdq (mone rfl) (visg (enc := encP) rfl rfl (by omega) hlg) rfl rfl ?_
       refine vdq (mone rfl) (vldS (enc := encP) rfl hlg) rfl rfl ?_
       refine vdq (mone rfl) (vcp rfl rfl rfl (c_sqr p g hbp hbg)) rfl rfl ?_
       refine vdq (mone rfl) (vfa rfl) rfl rfl ?_
       refine vdq (mone rfl) (vld1 rfl rfl) rfl rfl ?_
       refine vdq (mone rfl) (vfa rfl) rfl rfl ?_
       refine vdq (mone rfl) (vld1 rfl rfl) rfl rfl ?_
       refine vdq (mone rfl) (vmul rfl rfl (zone_in hw)) rfl rfl ?_
       refine vdq (mone rfl) (vleq rfl rfl) rfl rfl ?_
       refine vdq (mone rfl) (vas rfl) rfl rfl ?_
       refine vdend rfl ?_
       refine vseq ?_
       refine vregion ?_
       refine vone rfl (vxq (vmv rfl) rfl rfl ?_)
       refine vone rfl (vxq (vneq rfl rfl) rfl rfl ?_)
       refine vknow (d := 158) (b' := false) rfl (decide_eq_false (fun e => e (rfl))) ?_
       refine vone rfl (vxq (vmv rfl) rfl rfl ?_)
       refine vyes rfl rfl rfl (vxq (vmv rfl) rfl rfl ?_)
       refine vknow (d := 160) (b' := true) rfl rfl ?_
       refine vyes rfl rfl rfl (vxq (vnot rfl) rfl rfl ?_)
       refine vone rfl (vxq (vpkf rfl rfl) rfl rfl ?_)
       refine vone rfl (vxq (vmv rfl) rfl rfl ?_)
       refine vyes rfl rfl rfl (vxq (vmv rfl) rfl rfl ?_)
       refine vyes rfl rfl rfl (vxq (vmv rfl) rfl rfl ?_)
       refine vsplitd (d := 165) rfl (fun h165 => ?_) (fun h165 => ?_)
       ·
        refine vyes rfl rfl rfl (vxq (vmv rfl) rfl rfl ?_)
        refine vyes rfl rfl rfl (vxq (vmv rfl) rfl rfl ?_)
        refine vyes rfl rfl rfl (vxq (visg (enc := encB) rfl rfl (by omega) (hF2 h165).1) rfl rfl ?_)
        refine vyes rfl rfl rfl (vxq (vldS1 (enc := encB) rfl (hF2 h165).1 rfl) rfl rfl ?_)
        refine vknow (d := 169) (b' := true) rfl rfl ?_
        refine vyes rfl rfl rfl (vxq (vnot rfl) rfl rfl ?_)
        refine vyes rfl rfl rfl (vxq (vmv rfl) rfl rfl ?_)
        refine vyes rfl rfl rfl (vxq (vmv rfl) rfl rfl ?_)
        refine vyes rfl rfl rfl (vxq (vmv rfl) rfl rfl ?_)
        refine vyes rfl rfl rfl (vxq (visg (enc := encI) rfl rfl (by omega) (hF2 h165).2) rfl rfl ?_)
        refine vyes rfl rfl rfl (vxq (vldS1 (enc := encI) rfl (hF2 h165).2 rfl) rfl rfl ?_)
        refine vyes rfl rfl rfl (vxq (vneq rfl rfl) rfl rfl ?_)
        refine vknow (d := 176) (b' := false) rfl (decide_eq_false (fun e => e (rfl))) ?_
        refine vyes rfl rfl rfl (vxq (vpkf rfl rfl) rfl rfl ?_)
        refine vyes rfl rfl rfl (vxq (vpkt rfl rfl) rfl rfl ?_)
        refine vone rfl (vxq (vpkf rfl rfl) rfl rfl ?_)
        refine vnil ?_
        refine vcondf rfl ?_
        refine vskip ?_
        refine vinblock ?_
        refine vregion ?_
        refine vone rfl (vxq (vmv rfl) rfl rfl ?_)
        refine vone rfl (vxq (vadd rfl rfl (by unfold InR; omega)) rfl rfl ?_)
        refine vone rfl (vxq (vas rfl) rfl rfl ?_)
        refine vnil ?_
        exact vback (IH2 (k + 1) (by omega) (by show t - (k + 1) < t - k; omega)) ⟨rfl, rfl, rfl, rfl, rfl, rfl, rfl, rfl, rfl, rfl, rfl, True.intro⟩ sb2
       ·
        refine vno rfl rfl rfl rfl rfl ?_
        refine vno rfl rfl rfl rfl rfl ?_
        refine vno rfl rfl rfl rfl rfl ?_
        refine vno rfl rfl rfl rfl rfl ?_
        refine vno rfl rfl rfl rfl rfl ?_
        refine vno rfl rfl rfl rfl rfl ?_
        refine vnou rfl rfl rfl rfl rfl ?_
        refine vnou rfl rfl rfl rfl rfl ?_
        refine vnou rfl rfl rfl rfl rfl ?_
        refine vnou rfl rfl rfl rfl rfl ?_
        refine vnou rfl rfl rfl rfl rfl ?_
        refine vno rfl rfl rfl rfl rfl ?_
        refine vyes rfl rfl rfl (vxq (vpkf rfl rfl) rfl rfl ?_)
        refine vone rfl (vxq (vpkf rfl rfl) rfl rfl ?_)
        refine vnil ?_
        refine vcondf rfl ?_
        refine vskip ?_
        refine vinblock ?_
        refine vregion ?_
        refine vone rfl (vxq (vmv rfl) rfl rfl ?_)
        refine vone rfl (vxq (vadd rfl rfl (by unfold InR; omega)) rfl rfl ?_)
        refine vone rfl (vxq (vas rfl) rfl rfl ?_)
        refine vnil ?_
        exact vback (IH2 (k + 1) (by omega) (by show t - (k + 1) < t - k; omega)) ⟨rfl, rfl, rfl, rfl, rfl, rfl, rfl, rfl, rfl, rfl, rfl, True.intro⟩ sb2
     ·
      refine vexit (k' := _) rfl ?_
      refine vinblock ?_
      refine vregion ?_
      refine vone rfl (vxq (vmv rfl) rfl rfl ?_)
      refine vone rfl (vxq (vadd rfl rfl (by unfold InR; omega)) rfl rfl ?_)
      refine vone rfl (vxq (vas rfl) rfl rfl ?_)
      refine vnil ?_
      exact vback (IH (i + 1) (by omega) (by show 3 - (i + 1) < 3 - i; omega)) ⟨rfl, rfl, rfl, rfl, rfl, rfl, rfl, rfl, True.intro⟩ sb2
   ·
    refine vexit (k' := _) rfl ?_
    refine vseq ?_
    refine vregion ?_
    refine vone rfl (vxq (vcq rfl rfl rfl (c_works _)) rfl rfl ?_)
    refine vknow (d := 180) (b' := true) rfl rfl ?_
    refine vone rfl (vxq (vas rfl) rfl rfl ?_)
    refine vnil ?_
    refine vret (vr1 (H' := H) Tryd.func12 rfl (.tmp rfl) sb2 ?_)
    exact ⟨rfl, rfl⟩
end Go.Proofs.YtaplkoimhecacaaDoor
