/-
  The walk of Track. Walks of the closures of Best. The walk of Best. Walks of the law's own small functions. The walk of the law's scene. What the chapter's example comes to, in plain Lean.
-/
import Derived.Test.YtaplkoimhecacaaDoorTb16
namespace Go.Proofs.YtaplkoimhecacaaDoor
open Go
set_option maxRecDepth 100000

attribute [local irreducible] tightP hullP rootP farP rows endsOf
theorem inStep_ofS (s : Sc) (nm : ByteArray) (t : Int) : inStep (ofS s nm) nm t = inStep s nm t := by
  unfold inStep ofS
  simp only [List.filter_filter]
  congr 1
  funext x
  by_cases h : x.nm = nm <;> simp [h]
theorem inStep_ofS_no (s : Sc) {nm nm' : ByteArray} (hne : nm' ≠ nm) (t : Int) : inStep (ofS s nm) nm' t = [] := by
  unfold inStep ofS
  rw [List.filter_filter, List.filter_eq_nil_iff]
  intro x _
  by_cases h : x.nm = nm'
  · have h2 : x.nm ≠ nm := fun e => hne (h ▸ e)
    simp [h, hne]
  · simp [h]
theorem sees_ofS (s : Sc) (nm : ByteArray) : ∀ (k : Kn) (L : List Sg), seesP (ofS s nm) k L = seesP s k L
  | k, [] => rfl
  | k, x :: r => by
    simp only [seesP]
    have : seeP (ofS s nm) k x = seeP s k x := rfl
    rw [this]
    cases seeP s k x with
    | none => rfl
    | some k' => exact sees_ofS s nm k' r
theorem stepT_ofS (w : Wn) (s : Sc) (nm : ByteArray) (t : Int) (k : Kn) : stepT w (ofS s nm) nm t k = stepT w s nm t k := by
  unfold stepT
  rw [inStep_ofS, sees_ofS]
  rfl
theorem kst_ofS (w : Wn) (s : Sc) (nm : ByteArray) : ∀ n, kst w (ofS s nm) nm n = kst w s nm n
  | 0 => rfl
  | n + 1 => by
    simp only [kst, kst_ofS w s nm n]
    cases kst w s nm n with
    | none => rfl
    | some k => exact stepT_ofS w s nm n k
theorem kst_ofS_no (w : Wn) (s : Sc) {nm nm' : ByteArray} (hne : nm' ≠ nm) : ∀ n, kst w (ofS s nm) nm' n = some none
  | 0 => rfl
  | n + 1 => by
    simp only [kst, kst_ofS_no w s hne n]
    rw [stepT_unseen (inStep_ofS_no s hne _)]
    rfl
theorem sorted_pair : ∀ {l : List Sg}, sortedS l → l.Pairwise (fun x y => x.st ≤ y.st)
  | [], _ => .nil
  | [x], _ => by simp
  | x :: y :: r, h => by
    have ih : (y :: r).Pairwise (fun x y => x.st ≤ y.st) := sorted_pair fun i a b ha hb => h (i + 1) a b (by simpa using ha) (by simpa using hb)
    refine List.pairwise_cons.2 ⟨fun z hz => ?_, ih⟩
    have hxy : x.st ≤ y.st := h 0 x y rfl rfl
    rcases List.mem_cons.1 hz with rfl | hz
    · exact hxy
    · exact Int.le_trans hxy ((List.pairwise_cons.1 ih).1 z hz)
theorem pair_sorted {l : List Sg} (h : l.Pairwise (fun x y => x.st ≤ y.st)) : sortedS l := fun i x y hx hy => by
  obtain ⟨h1, rfl⟩ := List.getElem?_eq_some_iff.1 hx
  obtain ⟨h2, rfl⟩ := List.getElem?_eq_some_iff.1 hy
  exact List.pairwise_iff_getElem.1 h i (i + 1) h1 h2 (Nat.lt_succ_self i)
theorem okSc_ofS {s : Sc} (h : okSc s) (nm : ByteArray) : okSc (ofS s nm) := by
  obtain ⟨h1, h2, h3, h4, h5, h6, h7, h8, h9⟩ := h
  refine ⟨h1, h2, h3, h4, ?_, h6, h7, fun x hx => h8 x (List.mem_filter.1 hx).1, pair_sorted ((sorted_pair h9).filter _)⟩
  exact Nat.le_trans (List.length_filter_le _ _) h5
theorem Kst_ofS {w : Wn} (hh : 0 ≤ w.hold) {s : Sc} {nm : ByteArray} {n : Nat} : (Kst w (ofS s nm) n).isSome = (kst w s nm n).isSome := by
  cases hk : Kst w (ofS s nm) n with
  | some K => rw [← kst_ofS, Kst_some hh hk nm]; rfl
  | none =>
    obtain ⟨x, h1, h2⟩ := Kst_none hh hk
    by_cases hx : x.nm = nm
    · rw [hx, kst_ofS] at h2; rw [h2]; rfl
    · rw [kst_ofS_no w s hx] at h2; cases h2
def knL (w : Wn) (s : Sc) (nm : ByteArray) (n : Nat) : List Bool := (List.range n).map fun t => (knAt w s nm (t + 1)).isSome
def whL (w : Wn) (s : Sc) (nm : ByteArray) (n : Nat) : List Rg := (List.range n).map fun t => ((knAt w s nm (t + 1)).getD (zR, 0)).1
theorem knL_succ (w : Wn) (s : Sc) (nm : ByteArray) (n : Nat) : knL w s nm (n + 1) = knL w s nm n ++ [(knAt w s nm (n + 1)).isSome] := by unfold knL; rw [List.range_succ]; simp
theorem whL_succ (w : Wn) (s : Sc) (nm : ByteArray) (n : Nat) : whL w s nm (n + 1) = whL w s nm n ++ [((knAt w s nm (n + 1)).getD (zR, 0)).1] := by unfold whL; rw [List.range_succ]; simp
theorem knL_len (w : Wn) (s : Sc) (nm : ByteArray) (n : Nat) : (knL w s nm n).length = n := by simp [knL]
theorem whL_len (w : Wn) (s : Sc) (nm : ByteArray) (n : Nat) : (whL w s nm n).length = n := by simp [whL]
noncomputable def trackE (w : Wn) (s : Sc) (nm : ByteArray) : List Bool × List Rg × Int :=
  if bothE w (chkS s) ≠ 0 then ([], [], bothE w (chkS s)) else if (ofS s nm).sg.length = 0 then ([], [], 4) else if okT w s nm s.ship.length = true then (knL w s nm s.ship.length, whL w s nm s.ship.length, 0) else ([], [], 62)
theorem track_e {w : Wn} {s : Sc} {nm : ByteArray} (h : bothE w (chkS s) ≠ 0) : trackE w s nm = ([], [], bothE w (chkS s)) := if_pos h
theorem track_4 {w : Wn} {s : Sc} {nm : ByteArray} (h : ¬ bothE w (chkS s) ≠ 0) (h2 : (ofS s nm).sg.length = 0) : trackE w s nm = ([], [], 4) := by unfold trackE; rw [if_neg h, if_pos h2]
theorem track_n {w : Wn} {s : Sc} {nm : ByteArray} (h : ¬ bothE w (chkS s) ≠ 0) (h2 : ¬ (ofS s nm).sg.length = 0) (h3 : okT w s nm s.ship.length = false) : trackE w s nm = ([], [], 62) := by unfold trackE; rw [if_neg h, if_neg h2, if_neg (by rw [h3]; decide)]
theorem track_y {w : Wn} {s : Sc} {nm : ByteArray} (h : ¬ bothE w (chkS s) ≠ 0) (h2 : ¬ (ofS s nm).sg.length = 0) (h3 : okT w s nm s.ship.length = true) : trackE w s nm = (knL w s nm s.ship.length, whL w s nm s.ship.length, 0) := by unfold trackE; rw [if_neg h, if_neg h2, if_pos h3]
theorem track_done {w : Wn} {s : Sc} {nm : ByteArray} (hh : 0 ≤ w.hold) (h : ∀ y ∈ flwF w (ofS s nm) (ofS s nm).ship.length 0, y.2 = true) : okT w s nm s.ship.length = true ∧ (flwF w (ofS s nm) (ofS s nm).ship.length 0).length = s.ship.length := by
  obtain ⟨g1, g2⟩ := flw_all (ofS s nm).ship.length 0 rfl h
  rw [Nat.zero_add, Kst_ofS hh] at g1
  exact ⟨g1, g2⟩
theorem track_stop {w : Wn} {s : Sc} {nm : ByteArray} (hh : 0 ≤ w.hold) {t : Nat} (h : (Kst w (ofS s nm) (t + 1)).isSome = false) (ht : t < s.ship.length) : okT w s nm s.ship.length = false := by
  rw [Kst_ofS hh] at h
  have h1 : kst w s nm (t + 1) = none := by cases hk : kst w s nm (t + 1) with | none => rfl | some k => rw [hk] at h; cases h
  have := kst_none h1 (s.ship.length - (t + 1))
  rw [show t + 1 + (s.ship.length - (t + 1)) = s.ship.length by omega] at this
  unfold okT; rw [this]; rfl
theorem mget_kn {w : Wn} {s : Sc} {nm : ByteArray} (hh : 0 ≤ w.hold) {t : Nat} {K : Kf} {l : List EnA} (hK : Kst w (ofS s nm) (t + 1) = some K) (hl : ∀ nm, mget nm l = K nm) : mget nm l = knAt w s nm (t + 1) := by
  unfold knAt; rw [hl, ← kst_ofS, Kst_some hh hK nm]; rfl
section
open Classical in
theorem perm_of {α : Type} {A B : List α} (h : ∀ a, A.count a = B.count a) : A.Perm B := List.perm_iff_count.2 h
theorem pm1 (A S X D L H : Heap) : (A ++ (S ++ (X ++ (D ++ (L ++ H))))).Perm ((S ++ (A ++ (D ++ H))) ++ (X ++ L)) := perm_of fun a => by simp only [List.count_append]; omega
theorem pm2 (P M D X B C : Heap) : (P ++ ((M ++ D) ++ (X ++ (B ++ C)))).Perm (P ++ (M ++ (X ++ (B ++ (C ++ D))))) := perm_of fun a => by simp only [List.count_append]; omega
theorem pm3 (X B C D : Heap) : (X ++ (B ++ (C ++ D))).Perm ((B ++ C) ++ (X ++ D)) := perm_of fun a => by simp only [List.count_append]; omega
theorem pm4 (N B C X P M L D : Heap) : ((N ++ (B ++ C)) ++ (X ++ (P ++ (M ++ (L ++ D))))).Perm ((P ++ ((M ++ D) ++ (L ++ (B ++ C)))) ++ (N ++ X)) := perm_of fun a => by simp only [List.count_append]; omega
theorem pm6 (R S D H L B C : Heap) : (R ++ ((S ++ (D ++ H)) ++ (L ++ (B ++ C)))).Perm (R ++ (L ++ (S ++ (D ++ (B ++ (C ++ H)))))) := perm_of fun a => by simp only [List.count_append]; omega
end
section
variable {P : Program} {N : Nat} {E : Env} {D : List Deferred} {H : Heap} {κ ν : Type} [DecidableEq κ] {ek : κ → Value} {ev' : ν → Value} {zv : Value}
variable {d : Nat} {x y : Operand} {T ty : TypeId} {pos : String} {af : Array Edge} {g : Option (Nat × Bool)}
theorem vlookG {b c : Nat} {l : List (Ent κ ν)} {F : Obj → Heap} {a : κ} [hT : TMk P T ek zv] [hH : HOb H b (mapO ek ev' l c) F] (z : ν) (hz : ev' z = zv) (hx : ev E x = some (.map (some b))) (hy : ev E y = some (ek a)) :
    OQ P N E D H ⟨some d, .lookup T x y true, ty, pos, af, g⟩ (.tuple [ev' ((mget a l).getD z), .bool (mget a l).isSome].toArray) := by
  have e : ((mget a l).map ev').getD zv = ev' ((mget a l).getD z) := by cases mget a l; exact hz.symm; rfl
  rw [← e]; exact vlook hx hy
end

/-- paravane/watch.Track -/
theorem d_Track (w : Wn) (h : SH) (s : Sc) (H : Heap) [hsc : ScO H h s] [hgl : Glob H] (nm : ByteArray) : VCall Tryd.prog 26 [vWn w, vSc h s, .string nm].toArray H (fun o H' => ∃ v, o = .val v ∧ ∃ B, H' = B ++ H ∧ ∃ oa c oc cc, v = tup [.slice oa (trackE w s nm).1.length c, .slice oc (trackE w s nm).2.1.length cc, I (trackE w s nm).2.2] ∧ SlO B oa 1 encB (trackE w s nm).1 ∧ SlO B oc 8 clR (trackE w s nm).2.1) := by
 have hbd := hsc.bd
 refine vcall_of_vrun Tryd.func26 rfl (N := 54) rfl rfl ?_
 refine vseq ?_
 refine vregion ?_
 refine vone rfl (vxa (vbox rfl rfl) rfl rfl (fun b1 => ?_))
 refine vone rfl (vxa (vbox rfl rfl) rfl rfl (fun b2 => ?_))
 refine vone rfl (vxa (vbox rfl rfl) rfl rfl (fun b3 => ?_))
 refine vone rfl (vxa valloc rfl rfl (fun b4 => ?_))
 refine vone rfl (vxa valloc rfl rfl (fun b5 => ?_))
 refine vone rfl (vxa valloc rfl rfl (fun b6 => ?_))
 refine vnil ?_
 refine vseq ?_
 refine vseq ?_
 refine vregion ?_
 refine vone rfl (vxq (vldn rfl rfl) rfl rfl ?_)
 refine vone rfl (vxq (vldn rfl rfl) rfl rfl ?_)
 refine vone rfl (vxq (vcq rfl rfl rfl (c_both w h s _)) rfl rfl ?_)
 refine vone rfl (vxq (vas rfl) rfl rfl ?_)
 refine vnil ?_
 refine vseq ?_
 refine vregion ?_
 refine vone rfl (vxq (vmv rfl) rfl rfl ?_)
 refine vone rfl (vxq (vneq rfl rfl) rfl rfl ?_)
 refine vnil ?_
 refine vcondd rfl (fun h19 => ?_) (fun h19 => ?_)
 ·
  refine vseq ?_
  refine vregion ?_
  refine vone rfl (vxq (vmv rfl) rfl rfl ?_)
  refine vone rfl (vxs (vst1 rfl rfl rfl rfl) rfl ?_)
  refine vone rfl (vxs (vst1 rfl rfl rfl rfl) rfl ?_)
  refine vone rfl (vxs (vst1 rfl rfl rfl rfl) rfl ?_)
  refine vnil ?_
  refine vret (vr3 (H' := H) Tryd.func26 rfl (.cell1 rfl rfl) (.cell1 rfl rfl) (.cell1 rfl rfl) sb2 ?_)
  first | (rw [track_e h19]; exact ⟨_, rfl, [], rfl, Option.none, 0, Option.none, 0, rfl, SlO.nil, SlO.nil⟩) | (rw [track_4 h19 (by omega)]; exact ⟨_, rfl, [], rfl, Option.none, 0, Option.none, 0, rfl, SlO.nil, SlO.nil⟩) | (rw [track_n h19 (by omega) hrn]; exact ⟨_, rfl, [], rfl, Option.none, 0, Option.none, 0, rfl, SlO.nil, SlO.nil⟩) | (rw [track_y h19 (by omega) htd]; rw [hxl] at hown hownR ⊢; exact ⟨_, rfl, B ++ C, (List.append_assoc _ _ _).symm, oa, cp, oc, cq, by rw [knL_len, whL_len], (hown.sb (knL_len _ _ _ _)).1.appLB, (hownR.slo clR_len (by decide) rfl (whL_len _ _ _ _)).sub (fun e he => List.mem_append_right _ he)⟩)
 ·
  obtain ⟨hw0, hs0⟩ := both_ok h19
  have hw := hw0
  unfold okW at hw
  have hn64 := hs0.1
  have hs5 := hs0.2.2.2.2.1
  refine vskip ?_
  refine vseq ?_
  refine vregion ?_
  refine vone rfl (vxq (vldn rfl rfl) rfl rfl ?_)
  refine vone rfl (vxq (vbd rfl rfl) rfl rfl ?_)
  refine vone rfl (vxq (vld1 rfl rfl) rfl rfl ?_)
  refine vone rfl (vxg (vcg rfl rfl rfl (d_of h s nm _ (by omega)) (fun o H' h => h)) rfl rfl ?_)
  rintro _ _ ⟨DB, rfl, ⟨oa5, c5, rfl, hsl5⟩⟩
  refine vone rfl (vxa valloc rfl rfl (fun b7 => ?_))
  refine vone rfl (vxs (vstn rfl rfl rfl rfl rfl) rfl ?_)
  refine vnil ?_
  refine vseq ?_
  refine vseq ?_
  refine vregion ?_
  refine vone rfl (vxq (vfa rfl) rfl rfl ?_)
  refine vone rfl (vxq (vfa rfl) rfl rfl ?_)
  refine vone rfl (vxq (vld1 rfl rfl) rfl rfl ?_)
  refine vone rfl (vxq (vlen rfl) rfl rfl ?_)
  refine vone rfl (vxq (veql rfl rfl) rfl rfl ?_)
  refine vnil ?_
  refine vcondd rfl (fun h29 => ?_) (fun h29 => ?_)
  ·
   refine vseq ?_
   refine vregion ?_
   refine vone rfl (vxs (vst1 rfl rfl rfl rfl) rfl ?_)
   refine vone rfl (vxs (vst1 rfl rfl rfl rfl) rfl ?_)
   refine vone rfl (vxs (vst1 rfl rfl rfl rfl) rfl ?_)
   refine vnil ?_
   refine vret (vr3 (H' := H) Tryd.func26 rfl (.cell1 rfl rfl) (.cell1 rfl rfl) (.cell1 rfl rfl) sb2 ?_)
   first | (rw [track_e h19]; exact ⟨_, rfl, [], rfl, Option.none, 0, Option.none, 0, rfl, SlO.nil, SlO.nil⟩) | (rw [track_4 h19 (by omega)]; exact ⟨_, rfl, [], rfl, Option.none, 0, Option.none, 0, rfl, SlO.nil, SlO.nil⟩) | (rw [track_n h19 (by omega) hrn]; exact ⟨_, rfl, [], rfl, Option.none, 0, Option.none, 0, rfl, SlO.nil, SlO.nil⟩) | (rw [track_y h19 (by omega) htd]; rw [hxl] at hown hownR ⊢; exact ⟨_, rfl, B ++ C, (List.append_assoc _ _ _).symm, oa, cp, oc, cq, by rw [knL_len, whL_len], (hown.sb (knL_len _ _ _ _)).1.appLB, (hownR.slo clR_len (by decide) rfl (whL_len _ _ _ _)).sub (fun e he => List.mem_append_right _ he)⟩)
  ·
   have hsO := okSc_ofS hs0 nm
   haveI hscO : ScO (DB ++ H) { h with a5 := oa5, c5 := c5 } (ofS s nm) := ⟨hsc.ship.sub (fun e he => List.mem_append_right _ he), hsc.src.sub (fun e he => List.mem_append_right _ he), hsc.eyes.sub (fun e he => List.mem_append_right _ he), hsc.ears.sub (fun e he => List.mem_append_right _ he), hsl5.appLB, hsc.cap, (fun x hx => hsc.nm x (List.mem_filter.1 hx).1), by have := hsO.2.2.2.2.1; exact ⟨hbd.1, hbd.2.1, hbd.2.2.1, hbd.2.2.2.1, by omega⟩⟩
   haveI hglO : Glob (DB ++ H) := inferInstance
   refine vskip ?_
   refine vseq ?_
   refine vseq ?_
   refine vregion ?_
   refine vone rfl (vxq (vldn rfl rfl) rfl rfl ?_)
   refine vone rfl (vxq (vldn rfl rfl) rfl rfl ?_)
   refine vone rfl (vxg (vcg (R := fun v H' => ∃ bs bw, v = .func (.func 97) #[] #[ptr bs, ptr bw] ∧ H' = (bw, blk (clWn w) 23) :: (bs, blk (clSc { h with a5 := oa5, c5 := c5 } (ofS s nm)) 106) :: (b7, blk (clSc { h with a5 := oa5, c5 := c5 } (ofS s nm)) 106) :: (DB ++ ((b6, blk [I 0] 24) :: (b5, blk [.slice Option.none 0 0] 29) :: (b4, blk [.slice Option.none 0 0] 30) :: (b3, blk [.string nm] 9) :: (b2, blk (clSc h s) 33) :: (b1, blk (clWn w) 23) :: H))) rfl rfl rfl (n_follow _ _ w _) (fun o H' ⟨bs, bw, h1, h2⟩ => ⟨_, h1, bs, bw, rfl, h2⟩)) rfl rfl ?_)
   rintro _ _ ⟨bs, bw, rfl, rfl⟩
   refine vnil ?_
   refine vblock ?_
   refine vrangeM (X := XF w (ofS s nm) (DB ++ H)) (xs := (flwF w (ofS s nm) (ofS s nm).ship.length 0)) (caps := [ptr bs, ptr bw]) (Hi := ((bs, blk (clSc { h with a5 := oa5, c5 := c5 } (ofS s nm)) 106) :: (bw, blk (clWn w) 23) :: (DB ++ H))) (Hc := ((b7, blk (clSc { h with a5 := oa5, c5 := c5 } (ofS s nm)) 106) :: (b6, blk [I 0] 24) :: (b5, blk [.slice Option.none 0 0] 29) :: (b4, blk [.slice Option.none 0 0] 30) :: (b3, blk [.string nm] 9) :: (b2, blk (clSc h s) 33) :: (b1, blk (clWn w) 23) :: [])) (ps := [33, 34]) (fun pre H1 => ∃ oa cp oc cq B C, (∀ y ∈ pre, y.2 = true) ∧ OwnS 4 1 (.slice oa pre.length cp) pre.length ((knL w s nm pre.length).map bV) B ∧ OwnS 55 8 (.slice oc pre.length cq) pre.length ((whL w s nm pre.length).flatMap clR) C ∧ H1 = (b7, blk (clSc { h with a5 := oa5, c5 := c5 } (ofS s nm)) 106) :: (b6, blk [I 0] 24) :: (b5, blk [.slice oc pre.length cq] 29) :: (b4, blk [.slice oa pre.length cp] 30) :: (b3, blk [.string nm] 9) :: (b2, blk (clSc h s) 33) :: (b1, blk (clWn w) 23) :: (B ++ C)) (fun c H1 => c = .ret ∧ okT w s nm s.ship.length = false ∧ ∃ B C, H1 = (b7, blk (clSc { h with a5 := oa5, c5 := c5 } (ofS s nm)) 106) :: (b6, blk [I 62] 24) :: (b5, blk [.slice Option.none 0 0] 29) :: (b4, blk [.slice Option.none 0 0] 30) :: (b3, blk [.string nm] 9) :: (b2, blk (clSc h s) 33) :: (b1, blk (clWn w) 23) :: (B ++ C)) rfl (it_follow { h with a5 := oa5, c5 := c5 } (ofS s nm) w hw0 hsO (DB ++ H) bs bw) (pm1 [(bw, blk (clWn w) 23)] [(bs, blk (clSc { h with a5 := oa5, c5 := c5 } (ofS s nm)) 106)] [(b7, blk (clSc { h with a5 := oa5, c5 := c5 } (ofS s nm)) 106)] DB [(b6, blk [I 0] 24), (b5, blk [.slice Option.none 0 0] 29), (b4, blk [.slice Option.none 0 0] 30), (b3, blk [.string nm] 9), (b2, blk (clSc h s) 33), (b1, blk (clWn w) 23)] H) ⟨_, _, _, _, [], [], (fun y hy => by cases hy), OwnS.nil, OwnS.nil, rfl⟩ (fun x vs Hx ⟨m, l, c, h1, _⟩ => by rw [h1]; rfl) rfl ?_ ?_ ?_
   ·
    intro lp rec pre x post vs Hx H1 hrs hxs hX hI
    obtain ⟨m, l, c, rfl, rfl, hwf, hKl⟩ := hX
    obtain ⟨oa, cp, oc, cq, B, C, hall2, hown, hownR, rfl⟩ := hI
    obtain ⟨hx1, hpre, hxn, hx2, _⟩ := flw_pre _ _ hxs
    obtain ⟨t, ok⟩ := x
    simp only [Nat.zero_add] at hx1 hxn
    subst hx1
    have hxn2 : pre.length < s.ship.length := hxn
    refine VRun.perm (H' := (lp, Obj.loop rec) :: (m, mO l c) :: (b7, blk (clSc { h with a5 := oa5, c5 := c5 } (ofS s nm)) 106) :: (b6, blk [I 0] 24) :: (b5, blk [.slice oc pre.length cq] 29) :: (b4, blk [.slice oa pre.length cp] 30) :: (b3, blk [.string nm] 9) :: (b2, blk (clSc h s) 33) :: (b1, blk (clWn w) 23) :: (B ++ (C ++ (DB ++ H)))) (pm2 [(lp, Obj.loop rec)] [(m, mO l c)] (DB ++ H) [(b7, blk (clSc { h with a5 := oa5, c5 := c5 } (ofS s nm)) 106), (b6, blk [I 0] 24), (b5, blk [.slice oc pre.length cq] 29), (b4, blk [.slice oa pre.length cp] 30), (b3, blk [.string nm] 9), (b2, blk (clSc h s) 33), (b1, blk (clWn w) 23)] B C) ?_
    refine vseq ?_
    refine vregion ?_
    refine vone rfl (vxq (vas rfl) rfl rfl ?_)
    refine vnil ?_
    refine vregion ?_
    refine vone rfl (vxq (vas rfl) rfl rfl ?_)
    refine vnil ?_
    refine vbegin hrs ?_
    refine vblock ?_
    refine vseq ?_
    refine vseq ?_
    refine vregion ?_
    refine vone rfl (vxq (vmv rfl) rfl rfl ?_)
    refine vone rfl (vxq (vnot rfl) rfl rfl ?_)
    refine vnil ?_
    refine vcond rfl (fun h36 => ?_) (fun h36 => ?_)
    ·
     obtain rfl : ok = false := nf h36
     have hkn : (Kst w (ofS s nm) (pre.length + 1)).isSome = false := by cases hq : (Kst w (ofS s nm) (pre.length + 1)).isSome with | false => rfl | true => exact absurd (hx2.2 hq) (by simp)
     refine vseq ?_
     refine vregion ?_
     refine vone rfl (vxs (vst1 rfl rfl rfl rfl) rfl ?_)
     refine vone rfl (vxs (vst1 rfl rfl rfl rfl) rfl ?_)
     refine vone rfl (vxs (vst1 rfl rfl rfl rfl) rfl ?_)
     refine vnil ?_
     refine VRun.perm (H' := (lp, Obj.loop (bsy rec)) :: (((m, mO l c) :: (DB ++ H)) ++ ((b7, blk (clSc { h with a5 := oa5, c5 := c5 } (ofS s nm)) 106) :: (b6, blk [I 62] 24) :: (b5, blk [.slice Option.none 0 0] 29) :: (b4, blk [.slice Option.none 0 0] 30) :: (b3, blk [.string nm] 9) :: (b2, blk (clSc h s) 33) :: (b1, blk (clWn w) 23) :: (B ++ C)))) (pm2 [(lp, Obj.loop (bsy rec))] [(m, mO l c)] (DB ++ H) [(b7, blk (clSc { h with a5 := oa5, c5 := c5 } (ofS s nm)) 106), (b6, blk [I 62] 24), (b5, blk [.slice Option.none 0 0] 29), (b4, blk [.slice Option.none 0 0] 30), (b3, blk [.string nm] 9), (b2, blk (clSc h s) 33), (b1, blk (clWn w) 23)] B C).symm ?_
     refine vroundI_ret (.refl _) ?_
     exact ⟨_, rfl, rfl, track_stop (by omega) hkn hxn2, _, _, rfl⟩
    ·
     obtain rfl : ok = true := nt h36
     obtain ⟨K, hK, hKl'⟩ := hKl rfl
     have hmg := mget_kn (w := w) (by omega) hK hKl'
     refine vskip ?_
     refine vseq ?_
     refine vregion ?_
     refine vone rfl (vxq (vmv rfl) rfl rfl ?_)
     refine vone rfl (vxq (vld1 rfl rfl) rfl rfl ?_)
     refine vone rfl (vxq (vlookG (ek := Value.string) (ev' := evA) (zR, 0) rfl rfl rfl) rfl rfl ?_)
     refine vone rfl (vxq (vmv rfl) rfl rfl ?_)
     refine vone rfl (vxq (vex rfl rfl) rfl rfl ?_)
     refine vone rfl (vxq (vex rfl rfl) rfl rfl ?_)
     refine vone rfl (vxa valloc rfl rfl (fun b8 => ?_))
     refine vone rfl (vxs (vstn rfl rfl rfl rfl rfl) rfl ?_)
     refine vone rfl (vxq (vas rfl) rfl rfl ?_)
     refine vnil ?_
     refine vdrawP (G0 := (B ++ C)) (H0 := (b8, blk (clAn ((mget nm l).getD (zR, 0))) 129) :: (lp, Obj.loop (bsy rec)) :: (m, mO l c) :: (b7, blk (clSc { h with a5 := oa5, c5 := c5 } (ofS s nm)) 106) :: (b6, blk [I 0] 24) :: (b5, blk [.slice oc pre.length cq] 29) :: (b4, blk [.slice oa pre.length cp] 30) :: (b3, blk [.string nm] 9) :: (b2, blk (clSc h s) 33) :: (b1, blk (clWn w) 23) :: (DB ++ H)) (pm3 [(b8, blk (clAn ((mget nm l).getD (zR, 0))) 129), (lp, Obj.loop (bsy rec)), (m, mO l c), (b7, blk (clSc { h with a5 := oa5, c5 := c5 } (ofS s nm)) 106), (b6, blk [I 0] 24), (b5, blk [.slice oc pre.length cq] 29), (b4, blk [.slice oa pre.length cp] 30), (b3, blk [.string nm] 9), (b2, blk (clSc h s) 33), (b1, blk (clWn w) 23)] B C (DB ++ H)) [(.q, 0), (.q, 1), (.q, 4), (.q, 5), (.q, 6), (.m, 2), (.s, 3), (.m, 7), (.s, 8), (.c, 9), (.c, 10)] Tryd.mixed (by kernel_rfl) (allocOk_of _ (by kernel_rfl)) ?_
     refine vdq (mone rfl) (vld1 rfl rfl) rfl rfl ?_
     refine vdq (mone rfl) (vmv rfl) rfl rfl ?_
     refine vdq (mone rfl) (vld1 rfl rfl) rfl rfl ?_
     refine vdq (mone rfl) (vfa rfl) rfl rfl ?_
     refine vdq (mone rfl) (vldn rfl rfl) rfl rfl ?_
     refine vdm (mone rfl) (vbsP rfl rfl rfl rfl rfl rfl) rfl rfl (fun b91 => ?_)
     refine vdsd (mone rfl) (vappF (a := ⟨b91, 0, Option.none⟩) (m := 1) (c := 1) (size := 1) (bytes := 1) (F := fun X => (b91, blk [.bool (mget nm l).isSome] 4) :: (X ++ C)) (H0 := (b91, blk [.bool (mget nm l).isSome] 4) :: C) (B := B) (xs := (knL w s nm pre.length).map bV) (news := [.bool (mget nm l).isSome]) (fun X => perm_mid [(b91, blk [.bool (mget nm l).isSome] 4)] X C) rfl rfl hown rfl (news_blk (b := b91) (List.Mem.head _)) (fun u hu => by rw [List.mem_singleton.1 hu]; rfl) (by omega) (by simp only [maxLen]; omega) (by omega)) rfl rfl ?_
     rintro _ _ ⟨Bk, hown2, _, rfl⟩
     obtain ⟨oa2, cp2, rfl, hle2⟩ := hown2.shape
     refine vdm (mone rfl) (vbsP rfl rfl rfl rfl rfl rfl) rfl rfl (fun b92 => ?_)
     refine vdsd (mone rfl) (vappF (a := ⟨b92, 0, Option.none⟩) (m := 1) (c := 1) (size := 8) (bytes := 64) (F := fun X => (b92, blk (clR ((mget nm l).getD (zR, 0)).1) 55) :: (b91, blk [.bool (mget nm l).isSome] 4) :: (Bk ++ X)) (H0 := (b92, blk (clR ((mget nm l).getD (zR, 0)).1) 55) :: (b91, blk [.bool (mget nm l).isSome] 4) :: Bk) (B := C) (xs := (whL w s nm pre.length).flatMap clR) (news := clR ((mget nm l).getD (zR, 0)).1) (fun X => List.perm_append_comm (l₁ := (b92, blk (clR ((mget nm l).getD (zR, 0)).1) 55) :: (b91, blk [.bool (mget nm l).isSome] 4) :: Bk) (l₂ := X)) rfl rfl hownR rfl (news_blk (b := b92) (List.Mem.head _)) (one1 (fun _ => rfl) [((mget nm l).getD (zR, 0)).1] _ (by simp)) (by omega) (by simp only [maxLen]; omega) (by omega)) rfl rfl ?_
     rintro _ _ ⟨Ck, hownR2, _, rfl⟩
     obtain ⟨oc2, cq2, rfl, hleR2⟩ := hownR2.shape
     refine vdcs (mone rfl) (vst1 rfl rfl rfl rfl) rfl ?_
     refine vdcs (mone rfl) (vst1 rfl rfl rfl rfl) rfl ?_
     refine vdend (appHO_of _ _) ?_
     refine vinblock ?_
     refine VRun.perm (H' := ((lp, Obj.loop (bsy rec)) :: (((m, mO l c) :: (DB ++ H)) ++ ((b7, blk (clSc { h with a5 := oa5, c5 := c5 } (ofS s nm)) 106) :: (b6, blk [I 0] 24) :: (b5, blk [.slice oc2 (pre.length + 1) cq2] 29) :: (b4, blk [.slice oa2 (pre.length + 1) cp2] 30) :: (b3, blk [.string nm] 9) :: (b2, blk (clSc h s) 33) :: (b1, blk (clWn w) 23) :: (Bk ++ Ck)))) ++ ((b92, blk (clR ((mget nm l).getD (zR, 0)).1) 55) :: (b91, blk [.bool (mget nm l).isSome] 4) :: (b8, blk (clAn ((mget nm l).getD (zR, 0))) 129) :: [])) (pm4 [(b92, blk (clR ((mget nm l).getD (zR, 0)).1) 55), (b91, blk [.bool (mget nm l).isSome] 4)] Bk Ck [(b8, blk (clAn ((mget nm l).getD (zR, 0))) 129)] [(lp, Obj.loop (bsy rec))] [(m, mO l c)] [(b7, blk (clSc { h with a5 := oa5, c5 := c5 } (ofS s nm)) 106), (b6, blk [I 0] 24), (b5, blk [.slice oc2 (pre.length + 1) cq2] 29), (b4, blk [.slice oa2 (pre.length + 1) cp2] 30), (b3, blk [.string nm] 9), (b2, blk (clSc h s) 33), (b1, blk (clWn w) 23)] (DB ++ H)) ?_
     refine VRun.sub (List.sublist_append_left _ _) ?_
     refine vroundI_end (.refl _) ?_
     exact ⟨_, rfl, oa2, cp2, oc2, cq2, Bk, Ck, (fun y hy => by rcases List.mem_append.1 hy with hy | hy; exact hall2 y hy; rw [List.mem_singleton.1 hy]), by simp only [List.length_append, List.length_singleton]; rw [knL_succ, List.map_append, ← hmg]; exact hown2, by simp only [List.length_append, List.length_singleton]; rw [whL_succ, List.flatMap_append, ← hmg]; simpa using hownR2, by simp only [List.length_append, List.length_singleton]⟩
   ·
    intro r1 H1 hI
    obtain ⟨oa, cp, oc, cq, B, C, hall2, hown, hownR, rfl⟩ := hI
    obtain ⟨htd, hxl⟩ := track_done (w := w) (by omega) hall2
    generalize flwF w (ofS s nm) (ofS s nm).ship.length 0 = xs at hown hownR hxl ⊢
    refine VRun.perm (H' := (r1, .deferred (some [])) :: (b7, blk (clSc { h with a5 := oa5, c5 := c5 } (ofS s nm)) 106) :: (b6, blk [I 0] 24) :: (b5, blk [.slice oc xs.length cq] 29) :: (b4, blk [.slice oa xs.length cp] 30) :: (b3, blk [.string nm] 9) :: (b2, blk (clSc h s) 33) :: (b1, blk (clWn w) 23) :: (bs, blk (clSc { h with a5 := oa5, c5 := c5 } (ofS s nm)) 106) :: (bw, blk (clWn w) 23) :: (DB ++ (B ++ (C ++ H)))) (pm6 [(r1, .deferred (some []))] [(bs, blk (clSc { h with a5 := oa5, c5 := c5 } (ofS s nm)) 106), (bw, blk (clWn w) 23)] DB H [(b7, blk (clSc { h with a5 := oa5, c5 := c5 } (ofS s nm)) 106), (b6, blk [I 0] 24), (b5, blk [.slice oc xs.length cq] 29), (b4, blk [.slice oa xs.length cp] 30), (b3, blk [.string nm] 9), (b2, blk (clSc h s) 33), (b1, blk (clWn w) 23)] B C) ?_
    refine vinblock ?_
    refine vseq ?_
    refine vdraw0 [(.q, 0), (.q, 1), (.q, 2), (.q, 3), (.c, 4)] Tryd.mixed (by kernel_rfl) (by kernel_rfl) ?_
    refine vdq (mone rfl) (vld1 rfl rfl) rfl rfl ?_
    refine vdq (mone rfl) (vld1 rfl rfl) rfl rfl ?_
    refine vdqn (mone rfl) (vst1s rfl rfl rfl rfl) rfl ?_
    refine vdqn (mone rfl) (vst1s rfl rfl rfl rfl) rfl ?_
    refine vdcs (mone rfl) (vst1 rfl rfl rfl rfl) rfl ?_
    refine vdend rfl ?_
    refine vret (vret_mark (vr3 (H' := B ++ (C ++ H)) Tryd.func26 rfl (.cell1 rfl rfl) (.cell1 rfl rfl) (.cell1 rfl rfl) sb2 ?_))
    first | (rw [track_e h19]; exact ⟨_, rfl, [], rfl, Option.none, 0, Option.none, 0, rfl, SlO.nil, SlO.nil⟩) | (rw [track_4 h19 (by omega)]; exact ⟨_, rfl, [], rfl, Option.none, 0, Option.none, 0, rfl, SlO.nil, SlO.nil⟩) | (rw [track_n h19 (by omega) hrn]; exact ⟨_, rfl, [], rfl, Option.none, 0, Option.none, 0, rfl, SlO.nil, SlO.nil⟩) | (rw [track_y h19 (by omega) htd]; rw [hxl] at hown hownR ⊢; exact ⟨_, rfl, B ++ C, (List.append_assoc _ _ _).symm, oa, cp, oc, cq, by rw [knL_len, whL_len], (hown.sb (knL_len _ _ _ _)).1.appLB, (hownR.slo clR_len (by decide) rfl (whL_len _ _ _ _)).sub (fun e he => List.mem_append_right _ he)⟩)
   ·
    intro r1 c H1 hI
    obtain ⟨rfl, hrn, B, C, rfl⟩ := hI
    refine VRun.perm (H' := (r1, .deferred (some [])) :: (b7, blk (clSc { h with a5 := oa5, c5 := c5 } (ofS s nm)) 106) :: (b6, blk [I 62] 24) :: (b5, blk [.slice Option.none 0 0] 29) :: (b4, blk [.slice Option.none 0 0] 30) :: (b3, blk [.string nm] 9) :: (b2, blk (clSc h s) 33) :: (b1, blk (clWn w) 23) :: (bs, blk (clSc { h with a5 := oa5, c5 := c5 } (ofS s nm)) 106) :: (bw, blk (clWn w) 23) :: (DB ++ (B ++ (C ++ H)))) (pm6 [(r1, .deferred (some []))] [(bs, blk (clSc { h with a5 := oa5, c5 := c5 } (ofS s nm)) 106), (bw, blk (clWn w) 23)] DB H [(b7, blk (clSc { h with a5 := oa5, c5 := c5 } (ofS s nm)) 106), (b6, blk [I 62] 24), (b5, blk [.slice Option.none 0 0] 29), (b4, blk [.slice Option.none 0 0] 30), (b3, blk [.string nm] 9), (b2, blk (clSc h s) 33), (b1, blk (clWn w) 23)] B C) ?_
    refine vret (vret_mark (vr3 (H' := H) Tryd.func26 rfl (.cell1 rfl rfl) (.cell1 rfl rfl) (.cell1 rfl rfl) sb2 ?_))
    first | (rw [track_e h19]; exact ⟨_, rfl, [], rfl, Option.none, 0, Option.none, 0, rfl, SlO.nil, SlO.nil⟩) | (rw [track_4 h19 (by omega)]; exact ⟨_, rfl, [], rfl, Option.none, 0, Option.none, 0, rfl, SlO.nil, SlO.nil⟩) | (rw [track_n h19 (by omega) hrn]; exact ⟨_, rfl, [], rfl, Option.none, 0, Option.none, 0, rfl, SlO.nil, SlO.nil⟩) | (rw [track_y h19 (by omega) htd]; rw [hxl] at hown hownR ⊢; exact ⟨_, rfl, B ++ C, (List.append_assoc _ _ _).symm, oa, cp, oc, cq, by rw [knL_len, whL_len], (hown.sb (knL_len _ _ _ _)).1.appLB, (hownR.slo clR_len (by decide) rfl (whL_len _ _ _ _)).sub (fun e he => List.mem_append_right _ he)⟩)
end Go.Proofs.YtaplkoimhecacaaDoor
namespace Go.Proofs.YtaplkoimhecacaaDoor
open Go
set_option maxRecDepth 100000

attribute [local irreducible] tightP hullP rootP farP rows endsOf
/-- How far a search is. -/
structure Pc where
  t : Int
  md : Int
  qu : Int
  deriving DecidableEq
abbrev clPc (p : Pc) : List Value := [I p.t, I p.md, I p.qu]
abbrev evPc (p : Pc) : Value := .agg (clPc p).toArray
theorem Tryd.undMP : Tryd.prog.underlying 118 = some (.map 121 3) := by kernel_rfl
theorem Tryd.undP : Tryd.prog.underlying 121 = some (.struct #[⟨"step", 3, 0, false, "", "paravane/watch", 0⟩, ⟨"state", 112, 1, true, "", "paravane/watch", 8⟩]) := by kernel_rfl
theorem Tryd.undSt : Tryd.prog.underlying 112 = some (.struct #[⟨"mode", 3, 0, false, "", "paravane/watch", 0⟩, ⟨"quiet", 3, 1, false, "", "paravane/watch", 8⟩]) := by kernel_rfl
theorem Tryd.undI : Tryd.prog.underlying 3 = some (.int .i64) := by kernel_rfl
theorem pc_eq (a b : Pc) (w : World) : (Op.equal 121 (evPc a) (evPc b)).run Tryd.prog w = .ok (decide (a = b)) w := by
  have h := (inferInstance : TEq Tryd.prog 121 3).eq [a.t, a.md, a.qu] [b.t, b.md, b.qu] w rfl rfl
  have e : decide ([a.t, a.md, a.qu] = [b.t, b.md, b.qu]) = decide (a = b) := by
    obtain ⟨a1, a2, a3⟩ := a
    obtain ⟨b1, b2, b3⟩ := b
    simp
  rw [← e]
  exact h
theorem pc_bits (a : Pc) : Instr.sameBits 10000 (evPc a) (evPc a) = true := by simp [Instr.sameBits]
theorem key_i (em : Bool) (n : Nat) (i : Int) (w : World) : (Instr.checkKey em (n + 1) 3 (I i)).run Tryd.prog w = .ok () w := by
  simp [Instr.checkKey, run_underlying Tryd.undI, Result.andThen]
theorem pc_key (em : Bool) (a : Pc) (w : World) : (Instr.checkKey em 10000 121 (evPc a)).run Tryd.prog w = .ok () w := by
  have h1 : ∀ w, (isAgg 3).run Tryd.prog w = .ok false w := (inferInstance : TSc Tryd.prog 3).agg
  have h2 : ∀ w, (isAgg 112).run Tryd.prog w = .ok true w := (inferInstance : TAg Tryd.prog 112 2).agg
  have h3 : ∀ w, (sizeOf 112).run Tryd.prog w = .ok 2 w := (inferInstance : TAg Tryd.prog 112 2).size
  have k1 : ∀ n w, (Instr.checkKey em (n + 2) 112 (.agg #[I a.md, I a.qu])).run Tryd.prog w = .ok () w := by
    intro n w
    rw [Instr.checkKey]
    simp [run_underlying Tryd.undSt, Result.andThen, part, h1, key_i]
  have k2 : ∀ n w, (Instr.checkKey em (n + 3) 121 (evPc a)).run Tryd.prog w = .ok () w := by
    intro n w
    rw [Instr.checkKey]
    simp [run_underlying Tryd.undP, Result.andThen, part, h1, h2, h3, key_i, k1]
  exact k2 9997 w
instance tMk118 : TMk Tryd.prog 118 evPc (.int .i64 0) := mkTMkP Tryd.undMP Tryd.undP (by kernel_rfl) (fun a b => rfl) pc_key pc_eq pc_bits
abbrev evI (v : Int) : Value := I v
abbrev EnP := Ent Pc Int
abbrev mPc (l : List EnP) (c : Nat) : Obj := mapO evPc evI l c
theorem VCall.atO {P : Program} {gf : FuncId} {al : Array Value} {Q : Out → Obj → Prop} {H R : Heap} {b : Nat} {o : Obj} {F : Obj → Heap} [hr : HOR H b o R F] (h : VCall P gf al ((b, o) :: R) (fun out H' => ∃ o', H' = (b, o') :: R ∧ Q out o')) : VCall P gf al H (fun out H' => ∃ o', H' = F o' ∧ Q out o') := by
  intro w cs hE
  obtain ⟨out, w', m', H', ⟨o', h2, h3⟩, hFr, hs⟩ := h w cs (hE.perm hr.pm)
  subst h2
  exact ⟨out, w', m', F o', ⟨o', rfl, h3⟩, hFr.perm hr.pm.symm (hr.pf o').symm, hs⟩
/-- What the closures look at. -/
structure BsO (H : Heap) (L : LH) (g : Lg) (bl bk bt bg bm : Nat) : Prop where
  i1 : HAt H bl (clLg L g) 108
  i2 : HAt H bk [.map (some bm)] 118
  i3 : HAt H bt [.func (.func 63) #[] #[ptr bl, ptr bk, ptr bg]] 119
  i4 : HAt H bg [.func (.func 61) #[] #[ptr bl, ptr bt]] 122
  lg : LgO H L g
theorem BsO.cons {x : Nat × Obj} {H : Heap} {L : LH} {g : Lg} {bl bk bt bg bm : Nat} (h : BsO H L g bl bk bt bg bm) : BsO (x :: H) L g bl bk bt bg bm :=
  ⟨@HAt.tail _ _ _ _ _ h.i1, @HAt.tail _ _ _ _ _ h.i2, @HAt.tail _ _ _ _ _ h.i3, @HAt.tail _ _ _ _ _ h.i4, @LgO.tail _ _ _ _ h.lg⟩
/-- What has been found is right. -/
def MK (g : Lg) (l : List EnP) : Prop := ∀ p v, mget p l = some v → 0 ≤ p.t → p.t ≤ g.s.ship.length → v = mostF g (g.s.ship.length - p.t.toNat) p.t ⟨p.md, p.qu⟩
theorem MK.nil {g : Lg} : MK g [] := fun p v h => by rw [mget_nil] at h; cases h
theorem MK.put {g : Lg} {l : List EnP} {c : Nat} {t : Int} {x : Sta} {k : Nat} {v : Int} (h : MK g l) (ht : 0 ≤ t) (hk : t + k = g.s.ship.length) (hv : v = mostF g k t x) : MK g (mput (⟨t, x.md, x.qu⟩ : Pc) v c l) := fun p u hp h0 h1 => by
  rw [mget_mput] at hp
  split at hp
  · rename_i e
    subst e
    cases hp
    rw [hv]
    simp only
    rw [show g.s.ship.length - t.toNat = k by omega]
  · exact h p u hp h0 h1
theorem MK.get {g : Lg} {l : List EnP} {t : Int} {x : Sta} {k : Nat} {v : Int} (h : MK g l) (hp : mget (⟨t, x.md, x.qu⟩ : Pc) l = some v) (ht : 0 ≤ t) (hk : t + k = g.s.ship.length) : v = mostF g k t x := by
  have := h _ _ hp ht (by simp only; omega)
  rw [this]
  simp only
  rw [show g.s.ship.length - t.toNat = k by omega]
def fmF (g : Lg) (n : Nat) (t : Int) (x : Sta) (j : Nat) : Int := (List.range j).foldl (fun a (m : Nat) => max a (gainF g n t x m)) 0
theorem fmF_succ (g : Lg) (n : Nat) (t : Int) (x : Sta) (j : Nat) : fmF g n t x (j + 1) = max (fmF g n t x j) (gainF g n t x j) := by unfold fmF; rw [List.range_succ, List.foldl_append]; rfl
theorem fmF_all (g : Lg) (n : Nat) (t : Int) (x : Sta) : mostF g (n + 1) t x = fmF g n t x (g.w.soft.toNat + 2) := by
  rw [mostF_succ]; unfold fmF modesL; rw [List.foldl_map]
theorem gain_br {g : Lg} {n : Nat} {t : Int} {x : Sta} {m : Int} (h : brokenP g t x m ≠ 0) : gainF g n t x m = -1 := by unfold gainF; rw [if_pos h]
theorem gain_f {g : Lg} {n : Nat} {t : Int} {x : Sta} {m : Int} (h : ¬ brokenP g t x m ≠ 0) (h2 : m = g.w.soft + 1) : gainF g n t x m = mostF g n (t + 1) (afterP g t x m) + 1 := by unfold gainF; rw [if_neg h, if_pos h2]
theorem gain_n {g : Lg} {n : Nat} {t : Int} {x : Sta} {m : Int} (h : ¬ brokenP g t x m ≠ 0) (h2 : ¬ m = g.w.soft + 1) : gainF g n t x m = mostF g n (t + 1) (afterP g t x m) := by unfold gainF; rw [if_neg h, if_neg h2, Int.add_zero]
theorem most_bd (g : Lg) (n : Nat) (t : Int) (x : Sta) : 0 ≤ mostF g n t x ∧ mostF g n t x ≤ n := ⟨mostF_nn g n t x, mostF_le g n t x⟩
/-- What is promised of the search, with so many steps to go. -/
def MostC (g : Lg) (k : Nat) : Prop := ∀ (H : Heap) (L : LH) (bl bk bt bg bm : Nat) (t : Int) (x : Sta) (l : List EnP) (c : Nat), BsO H L g bl bk bt bg bm → 0 ≤ t → t + k = g.s.ship.length → okSt x → MK g l →
  VCall Tryd.prog 63 [.agg [I t, I x.md, I x.qu].toArray, ptr bl, ptr bk, ptr bg].toArray ((bm, mPc l c) :: H) (fun o H' => ∃ o', H' = (bm, o') :: H ∧ o = .val (I (mostF g k t x)) ∧ ∃ l' c', o' = mPc l' c' ∧ MK g l')
def GainC (g : Lg) (k : Nat) : Prop := ∀ (H : Heap) (L : LH) (bl bk bt bg bm : Nat) (t : Int) (x : Sta) (m : Int) (l : List EnP) (c : Nat), BsO H L g bl bk bt bg bm → 0 ≤ t → t + k + 1 = g.s.ship.length → okSt x → MK g l →
  VCall Tryd.prog 61 [.agg [I t, I x.md, I x.qu].toArray, I m, ptr bl, ptr bt].toArray ((bm, mPc l c) :: H) (fun o H' => ∃ o', H' = (bm, o') :: H ∧ o = .val (I (gainF g k t x m)) ∧ ∃ l' c', o' = mPc l' c' ∧ MK g l')

/-- paravane/watch.Best$1 -/
theorem gain_C (g : Lg) (k : Nat) (hM : MostC g k) : GainC g k := by
 intro H L bl bk bt bg bm t x m l c hB ht0 htk hx hmk
 haveI := hB.i1
 haveI := hB.i2
 haveI := hB.i3
 haveI := hB.i4
 haveI hlg := hB.lg
 have hw0 := hlg.w
 obtain ⟨hlen, hokw, hcap⟩ := hlg.facts
 unfold okW at hokw
 refine vcall_of_vrun Tryd.func61 rfl (N := 36) rfl rfl ?_
 refine vseq ?_
 refine vregion ?_
 refine vone rfl (vxa (vbox rfl rfl) rfl rfl (fun b1 => ?_))
 refine vone rfl (vxq (vas rfl) rfl rfl ?_)
 refine vnil ?_
 refine vseq ?_
 refine vseq ?_
 refine vregion ?_
 refine vone rfl (vxq (vldn rfl rfl) rfl rfl ?_)
 refine vone rfl (vxq (vfa rfl) rfl rfl ?_)
 refine vone rfl (vxq (vld1 rfl rfl) rfl rfl ?_)
 refine vone rfl (vxq (vfa rfl) rfl rfl ?_)
 refine vone rfl (vxq (vldn rfl rfl) rfl rfl ?_)
 refine vone rfl (vxq (vmv rfl) rfl rfl ?_)
 refine vone rfl (vxq (vcq rfl rfl rfl (c_broken L g _ t (by omega) x m)) rfl rfl ?_)
 refine vone rfl (vxq (vneq rfl rfl) rfl rfl ?_)
 refine vnil ?_
 refine vcondd rfl (fun h15 => ?_) (fun h15 => ?_)
 ·
  refine vseq ?_
  refine vregion ?_
  refine vone rfl (vxq (vas rfl) rfl rfl ?_)
  refine vnil ?_
  refine vret (vr1 (H' := (bm, mPc l c) :: H) Tryd.func61 rfl (.tmp rfl) sb ?_)
  first | (rw [gain_br h15]; exact ⟨_, rfl, rfl, l, c, rfl, hmk⟩) | (rw [gain_f h15 h32]; exact ⟨_, rfl, rfl, l1, c1, rfl, hmk1⟩) | (rw [gain_n h15 h32]; exact ⟨_, rfl, rfl, l1, c1, rfl, hmk1⟩)
 ·
  refine vskip ?_
  refine vseq ?_
  refine vdraw0 [(.q, 0), (.q, 1), (.q, 2), (.q, 3), (.q, 4), (.q, 5), (.q, 6), (.q, 7), (.q, 8), (.q, 9), (.q, 10), (.q, 11), (.w, 12), (.q, 13)] Tryd.mixed (by kernel_rfl) (by kernel_rfl) ?_
  refine vdq (mone rfl) (vld1 rfl rfl) rfl rfl ?_
  refine vdq (mone rfl) (vfa rfl) rfl rfl ?_
  refine vdq (mone rfl) (vld1 rfl rfl) rfl rfl ?_
  refine vdq (mone rfl) (vadd rfl rfl (by unfold InR; omega)) rfl rfl ?_
  refine vdq (mone rfl) (vldn rfl rfl) rfl rfl ?_
  refine vdq (mone rfl) (vfa rfl) rfl rfl ?_
  refine vdq (mone rfl) (vld1 rfl rfl) rfl rfl ?_
  refine vdq (mone rfl) (vfa rfl) rfl rfl ?_
  refine vdq (mone rfl) (vldn rfl rfl) rfl rfl ?_
  refine vdq (mone rfl) (vmv rfl) rfl rfl ?_
  refine vdq (mone rfl) (vcq rfl rfl rfl (c_after L g _ t (by omega) x hx m)) rfl rfl ?_
  refine vdq (mone rfl) (vbd rfl rfl) rfl rfl ?_
  refine vdw rfl (mone rfl) (vcg (R := fun v H' => v = I (mostF g k (t + 1) (afterP g t x m)) ∧ ∃ l' c', H' = (b1, blk [I t, I x.md, I x.qu] 121) :: (bm, mPc l' c') :: H ∧ MK g l') rfl rfl rfl (VCall.atO (hM ((b1, blk [I t, I x.md, I x.qu] 121) :: H) L bl bk bt bg bm (t + 1) (afterP g t x m) l c hB.cons (by omega) (by omega) (after_okSt hw0 _ _ _) hmk)) (fun o H' ⟨o', h1, h2, l', c', h3, h4⟩ => ⟨_, h2, rfl, l', c', by rw [h1, h3], h4⟩)) rfl rfl ?_
  rintro _ _ ⟨rfl, l1, c1, rfl, hmk1⟩
  have hbd := most_bd g k (t + 1) (afterP g t x m)
  refine vdq (mone rfl) (vas rfl) rfl rfl ?_
  refine vdend rfl ?_
  refine vseq ?_
  refine vseq ?_
  refine vregion ?_
  refine vone rfl (vxq (vmv rfl) rfl rfl ?_)
  refine vone rfl (vxq (vldn rfl rfl) rfl rfl ?_)
  refine vone rfl (vxq (vcp rfl rfl rfl (c_full L g hw0)) rfl rfl ?_)
  refine vone rfl (vxq (veql rfl rfl) rfl rfl ?_)
  refine vnil ?_
  refine vcondd rfl (fun h32 => ?_) (fun h32 => ?_)
  ·
   refine vregion ?_
   refine vone rfl (vxq (vmv rfl) rfl rfl ?_)
   refine vone rfl (vxq (vadd rfl rfl (by unfold InR; omega)) rfl rfl ?_)
   refine vone rfl (vxq (vas rfl) rfl rfl ?_)
   refine vnil ?_
   refine vseq ?_
   refine vregion ?_
   refine vone rfl (vxq (vmv rfl) rfl rfl ?_)
   refine vone rfl (vxq (vas rfl) rfl rfl ?_)
   refine vnil ?_
   refine vret (vr1 (H' := (bm, mPc l1 c1) :: H) Tryd.func61 rfl (.tmp rfl) sb ?_)
   first | (rw [gain_br h15]; exact ⟨_, rfl, rfl, l, c, rfl, hmk⟩) | (rw [gain_f h15 h32]; exact ⟨_, rfl, rfl, l1, c1, rfl, hmk1⟩) | (rw [gain_n h15 h32]; exact ⟨_, rfl, rfl, l1, c1, rfl, hmk1⟩)
  ·
   refine vskip ?_
   refine vseq ?_
   refine vregion ?_
   refine vone rfl (vxq (vmv rfl) rfl rfl ?_)
   refine vone rfl (vxq (vas rfl) rfl rfl ?_)
   refine vnil ?_
   refine vret (vr1 (H' := (bm, mPc l1 c1) :: H) Tryd.func61 rfl (.tmp rfl) sb ?_)
   first | (rw [gain_br h15]; exact ⟨_, rfl, rfl, l, c, rfl, hmk⟩) | (rw [gain_f h15 h32]; exact ⟨_, rfl, rfl, l1, c1, rfl, hmk1⟩) | (rw [gain_n h15 h32]; exact ⟨_, rfl, rfl, l1, c1, rfl, hmk1⟩)
/-- paravane/watch.Best$2 -/
theorem most_C (g : Lg) (k : Nat) (hG : ∀ k', k = k' + 1 → GainC g k') : MostC g k := by
 intro H L bl bk bt bg bm t x l c hB ht0 htk hx hmk
 haveI := hB.i1
 haveI := hB.i2
 haveI := hB.i3
 haveI := hB.i4
 haveI hlg := hB.lg
 have hw0 := hlg.w
 obtain ⟨hlen, hokw, hcap⟩ := hlg.facts
 unfold okW at hokw
 refine vcall_of_vrun Tryd.func63 rfl (N := 41) rfl rfl ?_
 refine vseq ?_
 refine vregion ?_
 refine vone rfl (vxa (vbox rfl rfl) rfl rfl (fun b1 => ?_))
 refine vone rfl (vxq (vas rfl) rfl rfl ?_)
 refine vnil ?_
 refine vseq ?_
 refine vseq ?_
 refine vdraw0 [(.q, 0), (.q, 1), (.q, 2), (.q, 3), (.q, 4), (.q, 5)] Tryd.mixed (by kernel_rfl) (by kernel_rfl) ?_
 refine vdq (mone rfl) (vfa rfl) rfl rfl ?_
 refine vdq (mone rfl) (vld1 rfl rfl) rfl rfl ?_
 refine vdq (mone rfl) (vfa rfl) rfl rfl ?_
 refine vdq (mone rfl) (vldn rfl rfl) rfl rfl ?_
 refine vdq (mone rfl) (vcp rfl rfl rfl (c_steps L.sh g.s)) rfl rfl ?_
 refine vdq (mone rfl) (veql rfl rfl) rfl rfl ?_
 refine vdend rfl ?_
 refine vcondd rfl (fun h15 => ?_) (fun h15 => ?_)
 ·
  obtain rfl : k = 0 := by omega
  refine vseq ?_
  refine vregion ?_
  refine vone rfl (vxq (vas rfl) rfl rfl ?_)
  refine vnil ?_
  refine vret (vr1 (H' := (bm, _) :: H) Tryd.func63 rfl (.tmp rfl) sb ?_)
  first | exact ⟨_, rfl, rfl, l, c, rfl, hmk⟩ | (rw [← hmk.get hk ht0 htk]; exact ⟨_, rfl, rfl, l, c, rfl, hmk⟩) | (have hje : fmF g k t x j = mostF g (k + 1) t x := (by rw [fmF_all, show j = g.w.soft.toNat + 2 by omega]); rw [← hje]; exact ⟨_, rfl, rfl, _, _, rfl, hmk'.put ht0 htk hje⟩)
 ·
  obtain ⟨k, rfl⟩ : ∃ k', k = k' + 1 := ⟨k - 1, by omega⟩
  refine vskip ?_
  refine vseq ?_
  refine vseq ?_
  refine vregion ?_
  refine vone rfl (vxq (vld1 rfl rfl) rfl rfl ?_)
  refine vone rfl (vxq (vldn rfl rfl) rfl rfl ?_)
  refine vone rfl (vxq (vlook (ek := evPc) (ev' := evI) (a := ⟨t, x.md, x.qu⟩) rfl rfl) rfl rfl ?_)
  cases hk : mget (⟨t, x.md, x.qu⟩ : Pc) l
  ·
   refine vone rfl (vxq (vmv rfl) rfl rfl ?_)
   refine vone rfl (vxq (vex rfl rfl) rfl rfl ?_)
   refine vone rfl (vxq (vex rfl rfl) rfl rfl ?_)
   refine vone rfl (vxq (vas rfl) rfl rfl ?_)
   refine vone rfl (vxq (vas rfl) rfl rfl ?_)
   refine vnil ?_
   refine vseq ?_
   refine vregion ?_
   refine vone rfl (vxq (vmv rfl) rfl rfl ?_)
   refine vnil ?_
   refine vcondf rfl ?_
   refine vskip ?_
   refine vseq ?_
   refine vregion ?_
   refine vone rfl (vxq (vas rfl) rfl rfl ?_)
   refine vnil ?_
   refine vseq ?_
   refine vseq ?_
   refine vregion ?_
   refine vone rfl (vxq (vldn rfl rfl) rfl rfl ?_)
   refine vone rfl (vxq (vcp rfl rfl rfl (c_full L g hw0)) rfl rfl ?_)
   refine vone rfl (vxq (vadd rfl rfl (by unfold InR; omega)) rfl rfl ?_)
   refine vone rfl (vxq (vmv rfl) rfl rfl ?_)
   refine vnil ?_
   refine vblock ?_
   refine vwhile (σ := Nat × List EnP × Nat) (fun ⟨j, l', c'⟩ => g.w.soft.toNat + 2 - j) (fun ⟨j, l', c'⟩ => [(1, ptr bl), (2, ptr bk), (3, ptr bg), (4, ptr b1), (8, I (fmF g k t x j)), (26, I (g.w.soft + 1 + 1)), (27, I (j : Int))]) (fun ⟨j, l', c'⟩ => (b1, blk [I t, I x.md, I x.qu] 121) :: (bm, mPc l' c') :: H) (fun ⟨j, l', c'⟩ => j ≤ g.w.soft.toNat + 2 ∧ MK g l') (0, l, c) ⟨Nat.zero_le _, hmk⟩ ⟨rfl, rfl, rfl, rfl, rfl, rfl, rfl, True.intro⟩ sb ?_
   rintro ⟨j, l', c'⟩ ⟨hj, hmk'⟩ IH
   change VRun _ _ _ _ _ [(1, ptr bl), (2, ptr bk), (3, ptr bg), (4, ptr b1), (8, I (fmF g k t x j)), (26, I (g.w.soft + 1 + 1)), (27, I (j : Int))] _ ((b1, blk [I t, I x.md, I x.qu] 121) :: (bm, mPc l' c') :: H) _
   refine vseq ?_
   refine vregion ?_
   refine vone rfl (vxq (vlss rfl rfl) rfl rfl ?_)
   refine vnil ?_
   refine vseq ?_
   refine vcondd rfl (fun h28 => ?_) (fun h28 => ?_)
   ·
    refine vskip ?_
    refine vseq ?_
    refine vblock ?_
    refine vseq ?_
    refine vregion ?_
    refine vone rfl (vxq (vmv rfl) rfl rfl ?_)
    refine vone rfl (vxq (vas rfl) rfl rfl ?_)
    refine vnil ?_
    refine vregion ?_
    refine vone rfl (vxq (vmv rfl) rfl rfl ?_)
    refine vone rfl (vxq (vld1 rfl rfl) rfl rfl ?_)
    refine vone rfl (vxq (vldn rfl rfl) rfl rfl ?_)
    refine vone rfl (vxq (vmv rfl) rfl rfl ?_)
    refine vone rfl (vxg (vcg (R := fun v H' => v = I (gainF g k t x j) ∧ ∃ l' c', H' = (b1, blk [I t, I x.md, I x.qu] 121) :: (bm, mPc l' c') :: H ∧ MK g l') rfl rfl rfl (VCall.atO (hG k rfl ((b1, blk [I t, I x.md, I x.qu] 121) :: H) L bl bk bt bg bm t x j l' c' hB.cons ht0 (by omega) hx hmk')) (fun o H' ⟨o', h1, h2, l', c', h3, h4⟩ => ⟨_, h2, rfl, l', c', by rw [h1, h3], h4⟩)) rfl rfl ?_)
    rintro _ _ ⟨rfl, l1, c1, rfl, hmk1⟩
    refine vone rfl (vxq (vmax2 rfl rfl) rfl rfl ?_)
    refine vone rfl (vxq (vas rfl) rfl rfl ?_)
    refine vnil ?_
    refine vinblock ?_
    refine vregion ?_
    refine vone rfl (vxq (vadd rfl rfl (by unfold InR; omega)) rfl rfl ?_)
    refine vone rfl (vxq (vmv rfl) rfl rfl ?_)
    refine vnil ?_
    exact vback (IH (j + 1, l1, c1) ⟨by omega, hmk1⟩ (by show _ - (j + 1) < _ - j; omega)) (by rw [← fmF_succ]; exact ⟨rfl, rfl, rfl, rfl, rfl, rfl, rfl, True.intro⟩) sb
   ·
    refine vexit (k' := _) rfl ?_
    refine vseq ?_
    refine vregion ?_
    refine vone rfl (vxq (vld1 rfl rfl) rfl rfl ?_)
    refine vone rfl (vxq (vldn rfl rfl) rfl rfl ?_)
    refine vone rfl (vxq (vmv rfl) rfl rfl ?_)
    refine vone rfl (vxs (vmup (ek := evPc) (ev' := evI) (a := ⟨t, x.md, x.qu⟩) (v := fmF g k t x j) rfl rfl rfl) rfl ?_)
    refine vnil ?_
    refine vseq ?_
    refine vregion ?_
    refine vone rfl (vxq (vmv rfl) rfl rfl ?_)
    refine vone rfl (vxq (vas rfl) rfl rfl ?_)
    refine vnil ?_
    refine vret (vr1 (H' := (bm, _) :: H) Tryd.func63 rfl (.tmp rfl) sb ?_)
    first | exact ⟨_, rfl, rfl, l, c, rfl, hmk⟩ | (rw [← hmk.get hk ht0 htk]; exact ⟨_, rfl, rfl, l, c, rfl, hmk⟩) | (have hje : fmF g k t x j = mostF g (k + 1) t x := (by rw [fmF_all, show j = g.w.soft.toNat + 2 by omega]); rw [← hje]; exact ⟨_, rfl, rfl, _, _, rfl, hmk'.put ht0 htk hje⟩)
  ·
   rename_i v
   refine vone rfl (vxq (vmv rfl) rfl rfl ?_)
   refine vone rfl (vxq (vex rfl rfl) rfl rfl ?_)
   refine vone rfl (vxq (vex rfl rfl) rfl rfl ?_)
   refine vone rfl (vxq (vas rfl) rfl rfl ?_)
   refine vone rfl (vxq (vas rfl) rfl rfl ?_)
   refine vnil ?_
   refine vseq ?_
   refine vregion ?_
   refine vone rfl (vxq (vmv rfl) rfl rfl ?_)
   refine vnil ?_
   refine vcondt rfl ?_
   refine vseq ?_
   refine vregion ?_
   refine vone rfl (vxq (vmv rfl) rfl rfl ?_)
   refine vone rfl (vxq (vas rfl) rfl rfl ?_)
   refine vnil ?_
   refine vret (vr1 (H' := (bm, _) :: H) Tryd.func63 rfl (.tmp rfl) sb ?_)
   first | exact ⟨_, rfl, rfl, l, c, rfl, hmk⟩ | (rw [← hmk.get hk ht0 htk]; exact ⟨_, rfl, rfl, l, c, rfl, hmk⟩) | (have hje : fmF g k t x j = mostF g (k + 1) t x := (by rw [fmF_all, show j = g.w.soft.toNat + 2 by omega]); rw [← hje]; exact ⟨_, rfl, rfl, _, _, rfl, hmk'.put ht0 htk hje⟩)

theorem most_all (g : Lg) : ∀ k, MostC g k
  | 0 => most_C g 0 (fun k' h => by cases h)
  | k + 1 => most_C g (k + 1) (fun k' h => by cases h; exact gain_C g k (most_all g k))
theorem gain_all (g : Lg) (k : Nat) : GainC g k := gain_C g k (most_all g k)

end Go.Proofs.YtaplkoimhecacaaDoor
namespace Go.Proofs.YtaplkoimhecacaaDoor
open Go
set_option maxRecDepth 100000

attribute [local irreducible] tightP hullP rootP farP rows endsOf
noncomputable def bestE (w : Wn) (s : Sc) : List Int × Int × Int := if (dangerE w s).2 ≠ 0 then ([], 0, (dangerE w s).2) else (bestF ⟨w, s, (dangerE w s).1⟩ s.ship.length 0 sta0, mostF ⟨w, s, (dangerE w s).1⟩ s.ship.length 0 sta0, 0)
theorem best_e {w : Wn} {s : Sc} (h : (dangerE w s).2 ≠ 0) : bestE w s = ([], 0, (dangerE w s).2) := if_pos h
theorem best_y {w : Wn} {s : Sc} (h : ¬ (dangerE w s).2 ≠ 0) : bestE w s = (bestF ⟨w, s, (dangerE w s).1⟩ s.ship.length 0 sta0, mostF ⟨w, s, (dangerE w s).1⟩ s.ship.length 0 sta0, 0) := if_neg h
theorem bestM_min (g : Lg) (hs : 0 ≤ g.w.soft) (n : Nat) (t : Int) (x : Sta) : ∃ b : Nat, bestM g n t x = b ∧ b < g.w.soft.toNat + 2 ∧ gainF g n t x b = mostF g (n + 1) t x ∧ ∀ j : Nat, j < b → gainF g n t x j ≠ mostF g (n + 1) t x := by
  obtain ⟨m, hm, hg⟩ := gain_at g hs n t x
  unfold bestM modesL at *
  rw [List.find?_map]
  obtain ⟨j, hj, rfl⟩ := List.mem_map.1 hm
  cases hf : (List.range (g.w.soft.toNat + 2)).find? ((fun m => decide (gainF g n t x m = mostF g (n + 1) t x)) ∘ fun (j : Nat) => (j : Int)) with
  | none =>
    have := List.find?_eq_none.1 hf j hj
    simp [hg] at this
  | some b =>
    obtain ⟨h1, h2, h3⟩ := List.find?_range_eq_some.1 hf
    refine ⟨b, rfl, List.mem_range.1 h2, by simpa using h1, fun j hj => ?_⟩
    have := h3 j hj
    simpa using this

/-- paravane/watch.Best -/
theorem d_Best (w : Wn) (h : SH) (s : Sc) (H : Heap) [hsc : ScO H h s] [hgl : Glob H] : VCall Tryd.prog 23 [vWn w, vSc h s].toArray H (fun o H' => ∃ v, o = .val v ∧ ∃ B, H' = B ++ H ∧ ∃ oa c, v = tup [.slice oa (bestE w s).1.length c, I (bestE w s).2.1, I (bestE w s).2.2] ∧ SlO B oa 1 encI (bestE w s).1) := by
 refine vcall_of_vrun Tryd.func23 rfl (N := 63) rfl rfl ?_
 refine vseq ?_
 refine vregion ?_
 refine vone rfl (vxa (vbox rfl rfl) rfl rfl (fun b1 => ?_))
 refine vone rfl (vxa (vbox rfl rfl) rfl rfl (fun b2 => ?_))
 refine vone rfl (vxq (vas rfl) rfl rfl ?_)
 refine vone rfl (vxq (vas rfl) rfl rfl ?_)
 refine vone rfl (vxq (vas rfl) rfl rfl ?_)
 refine vnil ?_
 refine vseq ?_
 refine vregion ?_
 refine vone rfl (vxq (vldn rfl rfl) rfl rfl ?_)
 refine vone rfl (vxq (vldn rfl rfl) rfl rfl ?_)
 refine vone rfl (vxg (vcg rfl rfl rfl (d_logOf w h s _) (fun o H' h => h)) rfl rfl ?_)
 rintro _ _ ⟨B, rfl, ⟨oa1, c1, rfl, hle, hsl⟩⟩
 refine vone rfl (vxq (vmv rfl) rfl rfl ?_)
 refine vone rfl (vxq (vex rfl rfl) rfl rfl ?_)
 refine vone rfl (vxq (vex rfl rfl) rfl rfl ?_)
 refine vone rfl (vxa valloc rfl rfl (fun b3 => ?_))
 refine vone rfl (vxs (vstn rfl rfl rfl rfl rfl) rfl ?_)
 refine vone rfl (vxq (vas rfl) rfl rfl ?_)
 refine vnil ?_
 refine vseq ?_
 refine vseq ?_
 refine vregion ?_
 refine vone rfl (vxq (vmv rfl) rfl rfl ?_)
 refine vone rfl (vxq (vneq rfl rfl) rfl rfl ?_)
 refine vnil ?_
 refine vcondd rfl (fun h20 => ?_) (fun h20 => ?_)
 ·
  refine vseq ?_
  refine vregion ?_
  refine vone rfl (vxq (vmv rfl) rfl rfl ?_)
  refine vone rfl (vxq (vas rfl) rfl rfl ?_)
  refine vone rfl (vxq (vas rfl) rfl rfl ?_)
  refine vone rfl (vxq (vas rfl) rfl rfl ?_)
  refine vnil ?_
  refine vret (vr3 (H' := B ++ H) Tryd.func23 rfl (.tmp rfl) (.tmp rfl) (.tmp rfl) sb2 ?_)
  first | (rw [best_e h20]; exact ⟨_, rfl, B, rfl, Option.none, 0, rfl, SlO.nil⟩) | (have hi : i = s.ship.length := (by omega); subst hi; rw [best_y h20, ← hbf, Nat.sub_self]; simp only [bestF, List.append_nil]; exact ⟨_, rfl, C ++ B, by rw [List.append_assoc], oa, cp, by rw [hpl], (OwnS.slo (enc := encI) (l := pre) hown encI_len (by decide) rfl hpl).appLB⟩)
 ·
  obtain ⟨hw0, hs0, _, hdl⟩ := danger_0 (Classical.not_not.1 h20)
  haveI hlg : LgO (B ++ ((b2, blk (clSc h s) 33) :: (b1, blk (clWn w) 23) :: H)) ⟨h, oa1, c1⟩ ⟨w, s, (dangerE w s).1⟩ := LgO.of (Classical.not_not.1 h20) hle hsl
  have hn64 := hs0.1
  have hwu := hw0
  unfold okW at hwu
  refine vskip ?_
  refine vseq ?_
  refine vregion ?_
  refine vone rfl (vxg (vmm (ek := evPc) (ev' := evI) rfl) rfl rfl ?_)
  rintro _ _ ⟨bm, rfl, rfl⟩
  refine vone rfl (vxa valloc rfl rfl (fun b4 => ?_))
  refine vone rfl (vxs (vst1 rfl rfl rfl rfl) rfl ?_)
  refine vnil ?_
  refine vseq ?_
  refine vregion ?_
  refine vone rfl (vxa valloc rfl rfl (fun b5 => ?_))
  refine vnil ?_
  refine vseq ?_
  refine vregion ?_
  refine vone rfl (vxq (vmf rfl) rfl rfl ?_)
  refine vone rfl (vxa valloc rfl rfl (fun b6 => ?_))
  refine vone rfl (vxs (vst1 rfl rfl rfl rfl) rfl ?_)
  refine vnil ?_
  refine vseq ?_
  refine vregion ?_
  refine vone rfl (vxq (vmf rfl) rfl rfl ?_)
  refine vone rfl (vxs (vst1 rfl rfl rfl rfl) rfl ?_)
  refine vnil ?_
  refine vseq ?_
  refine vregion ?_
  refine vone rfl (vxq (vglF rfl) rfl rfl ?_)
  refine vone rfl (vxq (vbd rfl rfl) rfl rfl ?_)
  refine vone rfl (vxa valloc rfl rfl (fun b7 => ?_))
  refine vone rfl (vxs (vstn rfl rfl rfl rfl rfl) rfl ?_)
  refine vnil ?_
  refine vseq ?_
  refine vregion ?_
  refine vone rfl (vxq (vld1 rfl rfl) rfl rfl ?_)
  have hB : ∀ C : Heap, BsO ((b6, blk [.func (.func 61) #[] #[ptr b3, ptr b5]] 122) :: (b5, blk [.func (.func 63) #[] #[ptr b3, ptr b4, ptr b6]] 119) :: (b4, blk [.map (some bm)] 118) :: (b3, blk (clLg ⟨h, oa1, c1⟩ ⟨w, s, (dangerE w s).1⟩) 108) :: (C ++ (B ++ ((b2, blk (clSc h s) 33) :: (b1, blk (clWn w) 23) :: H)))) ⟨h, oa1, c1⟩ ⟨w, s, (dangerE w s).1⟩ b3 b4 b5 b6 bm := fun C => ⟨inferInstance, inferInstance, inferInstance, inferInstance, inferInstance⟩
  refine vone rfl (vxq (vldn rfl rfl) rfl rfl ?_)
  refine vone rfl (vxg (vcg (R := fun v H' => v = I (mostF ⟨w, s, (dangerE w s).1⟩ s.ship.length 0 sta0) ∧ ∃ l' c', H' = (b7, blk [I 0, I sta0.md, I sta0.qu] 121) :: (b6, blk [.func (.func 61) #[] #[ptr b3, ptr b5]] 122) :: (b5, blk [.func (.func 63) #[] #[ptr b3, ptr b4, ptr b6]] 119) :: (b4, blk [.map (some bm)] 118) :: (bm, mPc l' c') :: (b3, blk (clLg ⟨h, oa1, c1⟩ ⟨w, s, (dangerE w s).1⟩) 108) :: (B ++ ((b2, blk (clSc h s) 33) :: (b1, blk (clWn w) 23) :: H)) ∧ MK ⟨w, s, (dangerE w s).1⟩ l') rfl rfl rfl (VCall.atO (most_all ⟨w, s, (dangerE w s).1⟩ s.ship.length ((b7, blk [I 0, I sta0.md, I sta0.qu] 121) :: (b6, blk [.func (.func 61) #[] #[ptr b3, ptr b5]] 122) :: (b5, blk [.func (.func 63) #[] #[ptr b3, ptr b4, ptr b6]] 119) :: (b4, blk [.map (some bm)] 118) :: (b3, blk (clLg ⟨h, oa1, c1⟩ ⟨w, s, (dangerE w s).1⟩) 108) :: (B ++ ((b2, blk (clSc h s) 33) :: (b1, blk (clWn w) 23) :: H))) ⟨h, oa1, c1⟩ b3 b4 b5 b6 bm 0 sta0 [] 0 (hB []).cons (by omega) (by simp) sta0_ok MK.nil)) (fun o H' ⟨o', h1, h2, l', c', h3, h4⟩ => ⟨_, h2, rfl, l', c', by subst h3; exact h1, h4⟩)) rfl rfl ?_)
  rintro _ _ ⟨rfl, l0, c0, rfl, hmk0⟩
  refine vone rfl (vxq (vas rfl) rfl rfl ?_)
  refine vnil ?_
  refine vseq ?_
  refine vblock ?_
  refine VRun.perm (H' := (bm, mPc l0 c0) :: (b7, blk [I 0, I sta0.md, I sta0.qu] 121) :: (b6, blk [.func (.func 61) #[] #[ptr b3, ptr b5]] 122) :: (b5, blk [.func (.func 63) #[] #[ptr b3, ptr b4, ptr b6]] 119) :: (b4, blk [.map (some bm)] 118) :: (b3, blk (clLg ⟨h, oa1, c1⟩ ⟨w, s, (dangerE w s).1⟩) 108) :: (B ++ ((b2, blk (clSc h s) 33) :: (b1, blk (clWn w) 23) :: H))) (List.perm_middle (l₁ := [(b7, blk [I 0, I sta0.md, I sta0.qu] 121), (b6, blk [.func (.func 61) #[] #[ptr b3, ptr b5]] 122), (b5, blk [.func (.func 63) #[] #[ptr b3, ptr b4, ptr b6]] 119), (b4, blk [.map (some bm)] 118)])) ?_
  refine vwhile (σ := Nat × Sta × List EnP × Nat × Option Addr × Nat × Heap × List Int) (fun ⟨i, x, l, c, oa, cp, C, pre⟩ => s.ship.length - i) (fun ⟨i, x, l, c, oa, cp, C, pre⟩ => [(4, .slice oa i cp), (5, I (mostF ⟨w, s, (dangerE w s).1⟩ s.ship.length 0 sta0)), (7, ptr b3), (9, ptr b5), (10, ptr b6), (11, ptr b7)]) (fun ⟨i, x, l, c, oa, cp, C, pre⟩ => (bm, mPc l c) :: (b7, blk [I (i : Int), I x.md, I x.qu] 121) :: (b6, blk [.func (.func 61) #[] #[ptr b3, ptr b5]] 122) :: (b5, blk [.func (.func 63) #[] #[ptr b3, ptr b4, ptr b6]] 119) :: (b4, blk [.map (some bm)] 118) :: (b3, blk (clLg ⟨h, oa1, c1⟩ ⟨w, s, (dangerE w s).1⟩) 108) :: (C ++ (B ++ ((b2, blk (clSc h s) 33) :: (b1, blk (clWn w) 23) :: H)))) (fun ⟨i, x, l, c, oa, cp, C, pre⟩ => i ≤ s.ship.length ∧ okSt x ∧ MK ⟨w, s, (dangerE w s).1⟩ l ∧ pre.length = i ∧ OwnS 3 1 (.slice oa i cp) i (pre.flatMap encI) C ∧ pre ++ bestF ⟨w, s, (dangerE w s).1⟩ (s.ship.length - i) i x = bestF ⟨w, s, (dangerE w s).1⟩ s.ship.length 0 sta0) (0, sta0, l0, c0, Option.none, 0, [], []) ⟨Nat.zero_le _, sta0_ok, hmk0, rfl, OwnS.nil, rfl⟩ ⟨rfl, rfl, rfl, rfl, rfl, rfl, True.intro⟩ sb ?_
  rintro ⟨i, x, l, c, oa, cp, C, pre⟩ ⟨hin, hx, hmk, hpl, hown, hbf⟩ IH
  change VRun _ _ _ _ _ [(4, .slice oa i cp), (5, I (mostF ⟨w, s, (dangerE w s).1⟩ s.ship.length 0 sta0)), (7, ptr b3), (9, ptr b5), (10, ptr b6), (11, ptr b7)] _ ((bm, mPc l c) :: (b7, blk [I (i : Int), I x.md, I x.qu] 121) :: (b6, blk [.func (.func 61) #[] #[ptr b3, ptr b5]] 122) :: (b5, blk [.func (.func 63) #[] #[ptr b3, ptr b4, ptr b6]] 119) :: (b4, blk [.map (some bm)] 118) :: (b3, blk (clLg ⟨h, oa1, c1⟩ ⟨w, s, (dangerE w s).1⟩) 108) :: (C ++ (B ++ ((b2, blk (clSc h s) 33) :: (b1, blk (clWn w) 23) :: H)))) _
  refine vseq ?_
  refine vseq ?_
  refine vdraw0 [(.q, 0), (.q, 1), (.q, 2), (.q, 3), (.q, 4), (.q, 5)] Tryd.mixed (by kernel_rfl) (by kernel_rfl) ?_
  refine vdq (mone rfl) (vfa rfl) rfl rfl ?_
  refine vdq (mone rfl) (vld1 rfl rfl) rfl rfl ?_
  refine vdq (mone rfl) (vfa rfl) rfl rfl ?_
  refine vdq (mone rfl) (vldn rfl rfl) rfl rfl ?_
  refine vdq (mone rfl) (vcp rfl rfl rfl (c_steps h s)) rfl rfl ?_
  refine vdq (mone rfl) (vlss rfl rfl) rfl rfl ?_
  refine vdend rfl ?_
  refine vcondd rfl (fun h35 => ?_) (fun h35 => ?_)
  ·
   obtain ⟨n', hn'⟩ : ∃ n', s.ship.length - i = n' + 1 := ⟨s.ship.length - i - 1, by omega⟩
   obtain ⟨b, hbM, hbl, hbg, hbmin⟩ := bestM_min ⟨w, s, (dangerE w s).1⟩ (by simp only; omega) n' i x
   have hbl2 : b < w.soft.toNat + 2 := hbl
   refine vskip ?_
   refine vblock ?_
   refine vseq ?_
   refine vregion ?_
   refine vone rfl (vxq (vas rfl) rfl rfl ?_)
   refine vnil ?_
   refine vseq ?_
   refine vblock ?_
   refine vwhile (σ := Nat × List EnP × Nat) (fun ⟨m, l1, c3⟩ => b - m) (fun ⟨m, l1, c3⟩ => [(4, .slice oa i cp), (5, I (mostF ⟨w, s, (dangerE w s).1⟩ s.ship.length 0 sta0)), (7, ptr b3), (9, ptr b5), (10, ptr b6), (11, ptr b7), (12, I (m : Int))]) (fun ⟨m, l1, c3⟩ => (bm, mPc l1 c3) :: (b7, blk [I (i : Int), I x.md, I x.qu] 121) :: (b6, blk [.func (.func 61) #[] #[ptr b3, ptr b5]] 122) :: (b5, blk [.func (.func 63) #[] #[ptr b3, ptr b4, ptr b6]] 119) :: (b4, blk [.map (some bm)] 118) :: (b3, blk (clLg ⟨h, oa1, c1⟩ ⟨w, s, (dangerE w s).1⟩) 108) :: (C ++ (B ++ ((b2, blk (clSc h s) 33) :: (b1, blk (clWn w) 23) :: H)))) (fun ⟨m, l1, c3⟩ => m ≤ b ∧ MK ⟨w, s, (dangerE w s).1⟩ l1) (0, l, c) ⟨Nat.zero_le _, hmk⟩ ⟨rfl, rfl, rfl, rfl, rfl, rfl, rfl, True.intro⟩ sb ?_
   rintro ⟨m, l1, c3⟩ ⟨hm, hmk1⟩ IH1
   change VRun _ _ _ _ _ [(4, .slice oa i cp), (5, I (mostF ⟨w, s, (dangerE w s).1⟩ s.ship.length 0 sta0)), (7, ptr b3), (9, ptr b5), (10, ptr b6), (11, ptr b7), (12, I (m : Int))] _ ((bm, mPc l1 c3) :: (b7, blk [I (i : Int), I x.md, I x.qu] 121) :: (b6, blk [.func (.func 61) #[] #[ptr b3, ptr b5]] 122) :: (b5, blk [.func (.func 63) #[] #[ptr b3, ptr b4, ptr b6]] 119) :: (b4, blk [.map (some bm)] 118) :: (b3, blk (clLg ⟨h, oa1, c1⟩ ⟨w, s, (dangerE w s).1⟩) 108) :: (C ++ (B ++ ((b2, blk (clSc h s) 33) :: (b1, blk (clWn w) 23) :: H)))) _
   refine vseq ?_
   refine vseq ?_
   refine vdrawP (G0 := [(bm, mPc l1 c3)]) (H0 := (b7, blk [I (i : Int), I x.md, I x.qu] 121) :: (b6, blk [.func (.func 61) #[] #[ptr b3, ptr b5]] 122) :: (b5, blk [.func (.func 63) #[] #[ptr b3, ptr b4, ptr b6]] 119) :: (b4, blk [.map (some bm)] 118) :: (b3, blk (clLg ⟨h, oa1, c1⟩ ⟨w, s, (dangerE w s).1⟩) 108) :: (C ++ (B ++ ((b2, blk (clSc h s) 33) :: (b1, blk (clWn w) 23) :: H)))) (.refl _) [(.q, 0), (.q, 1), (.q, 2), (.q, 4), (.q, 5), (.e, 3), (.e, 6), (.q, 7)] Tryd.mixed (by kernel_rfl) (allocOk_of _ (by kernel_rfl)) ?_
   refine vdq (mone rfl) (vld1 rfl rfl) rfl rfl ?_
   refine vdq (mone rfl) (vldn rfl rfl) rfl rfl ?_
   refine vdq (mone rfl) (vmv rfl) rfl rfl ?_
   refine vdq (mone rfl) (vld1 rfl rfl) rfl rfl ?_
   refine vdq (mone rfl) (vldn rfl rfl) rfl rfl ?_
   refine vde (mone rfl) (vcg (R := fun v H' => ∃ G2, H' = G2 ++ ((b7, blk [I (i : Int), I x.md, I x.qu] 121) :: (b6, blk [.func (.func 61) #[] #[ptr b3, ptr b5]] 122) :: (b5, blk [.func (.func 63) #[] #[ptr b3, ptr b4, ptr b6]] 119) :: (b4, blk [.map (some bm)] 118) :: (b3, blk (clLg ⟨h, oa1, c1⟩ ⟨w, s, (dangerE w s).1⟩) 108) :: (C ++ (B ++ ((b2, blk (clSc h s) 33) :: (b1, blk (clWn w) 23) :: H)))) ∧ (v = I (gainF ⟨w, s, (dangerE w s).1⟩ n' i x m) ∧ ∃ l' c', G2 = [(bm, mPc l' c')] ∧ MK ⟨w, s, (dangerE w s).1⟩ l')) rfl rfl rfl (gain_all ⟨w, s, (dangerE w s).1⟩ n' ((b7, blk [I (i : Int), I x.md, I x.qu] 121) :: (b6, blk [.func (.func 61) #[] #[ptr b3, ptr b5]] 122) :: (b5, blk [.func (.func 63) #[] #[ptr b3, ptr b4, ptr b6]] 119) :: (b4, blk [.map (some bm)] 118) :: (b3, blk (clLg ⟨h, oa1, c1⟩ ⟨w, s, (dangerE w s).1⟩) 108) :: (C ++ (B ++ ((b2, blk (clSc h s) 33) :: (b1, blk (clWn w) 23) :: H)))) ⟨h, oa1, c1⟩ b3 b4 b5 b6 bm i x m l1 c3 (hB C).cons (by omega) (by simp only; omega) hx hmk1) (fun o H' ⟨o', h1, h2, l', c', h3, h4⟩ => ⟨_, h2, [(bm, o')], h1, rfl, l', c', by rw [h3], h4⟩)) rfl rfl ?_
   rintro _ _ ⟨rfl, lg, cg, rfl, hmk2⟩
   refine vde (mone rfl) (vcg (R := fun v H' => ∃ G2, H' = G2 ++ ((b7, blk [I (i : Int), I x.md, I x.qu] 121) :: (b6, blk [.func (.func 61) #[] #[ptr b3, ptr b5]] 122) :: (b5, blk [.func (.func 63) #[] #[ptr b3, ptr b4, ptr b6]] 119) :: (b4, blk [.map (some bm)] 118) :: (b3, blk (clLg ⟨h, oa1, c1⟩ ⟨w, s, (dangerE w s).1⟩) 108) :: (C ++ (B ++ ((b2, blk (clSc h s) 33) :: (b1, blk (clWn w) 23) :: H)))) ∧ (v = I (mostF ⟨w, s, (dangerE w s).1⟩ (n' + 1) i x) ∧ ∃ l' c', G2 = [(bm, mPc l' c')] ∧ MK ⟨w, s, (dangerE w s).1⟩ l')) rfl rfl rfl (most_all ⟨w, s, (dangerE w s).1⟩ (n' + 1) ((b7, blk [I (i : Int), I x.md, I x.qu] 121) :: (b6, blk [.func (.func 61) #[] #[ptr b3, ptr b5]] 122) :: (b5, blk [.func (.func 63) #[] #[ptr b3, ptr b4, ptr b6]] 119) :: (b4, blk [.map (some bm)] 118) :: (b3, blk (clLg ⟨h, oa1, c1⟩ ⟨w, s, (dangerE w s).1⟩) 108) :: (C ++ (B ++ ((b2, blk (clSc h s) 33) :: (b1, blk (clWn w) 23) :: H)))) ⟨h, oa1, c1⟩ b3 b4 b5 b6 bm i x lg cg (hB C).cons (by omega) (by simp only; omega) hx hmk2) (fun o H' ⟨o', h1, h2, l', c', h3, h4⟩ => ⟨_, h2, [(bm, o')], h1, rfl, l', c', by rw [h3], h4⟩)) rfl rfl ?_
   rintro _ _ ⟨rfl, l2, c2, rfl, hmk3⟩
   refine vdq (mone rfl) (vneq rfl rfl) rfl rfl ?_
   refine vdend rfl ?_
   refine vcondd rfl (fun h43 => ?_) (fun h43 => ?_)
   ·
    refine vskip ?_
    refine vblock ?_
    refine vregion ?_
    refine vone rfl (vxq (vmv rfl) rfl rfl ?_)
    refine vone rfl (vxq (vadd rfl rfl (by unfold InR; omega)) rfl rfl ?_)
    refine vone rfl (vxq (vas rfl) rfl rfl ?_)
    refine vnil ?_
    refine vinblock ?_
    have hmb : m ≠ b := fun e => h43 (e ▸ hbg)
    exact vback (IH1 (m + 1, l2, c2) ⟨by omega, hmk3⟩ (by show _ - (m + 1) < _ - m; omega)) ⟨rfl, rfl, rfl, rfl, rfl, rfl, rfl, True.intro⟩ sb2
   ·
    have hmb : m = b := by rcases Nat.lt_or_ge m b with hlt | hge; exact absurd (Classical.not_not.1 h43) (hbmin m hlt); omega
    refine vexit (k' := _) rfl ?_
    refine vseq ?_
    refine vregion ?_
    refine vone rfl (vxq (vmv rfl) rfl rfl ?_)
    refine vone rfl (vxq (vmv rfl) rfl rfl ?_)
    refine vone rfl (vxg (vbs rfl rfl rfl rfl rfl rfl) rfl rfl ?_)
    rintro _ _ ⟨bn, rfl, rfl⟩
    refine vone rfl (vxg (vappF (a := ⟨bn, 0, Option.none⟩) (m := 1) (c := 1) (size := 1) (bytes := 8) (F := fun X => (bn, blk [I (m : Int)] 3) :: (bm, mPc l2 c2) :: (b7, blk [I (i : Int), I x.md, I x.qu] 121) :: (b6, blk [.func (.func 61) #[] #[ptr b3, ptr b5]] 122) :: (b5, blk [.func (.func 63) #[] #[ptr b3, ptr b4, ptr b6]] 119) :: (b4, blk [.map (some bm)] 118) :: (b3, blk (clLg ⟨h, oa1, c1⟩ ⟨w, s, (dangerE w s).1⟩) 108) :: (X ++ (B ++ ((b2, blk (clSc h s) 33) :: (b1, blk (clWn w) 23) :: H)))) (B := C) (xs := pre.flatMap encI) (news := [I (m : Int)]) (fun X => perm_mid [(bn, blk [I (m : Int)] 3), (bm, mPc l2 c2), (b7, blk [I (i : Int), I x.md, I x.qu] 121), (b6, blk [.func (.func 61) #[] #[ptr b3, ptr b5]] 122), (b5, blk [.func (.func 63) #[] #[ptr b3, ptr b4, ptr b6]] 119), (b4, blk [.map (some bm)] 118), (b3, blk (clLg ⟨h, oa1, c1⟩ ⟨w, s, (dangerE w s).1⟩) 108)] X (B ++ ((b2, blk (clSc h s) 33) :: (b1, blk (clWn w) 23) :: H))) rfl rfl hown rfl (news_blk (b := bn) (List.Mem.head _)) (fun u hu => by rw [List.mem_singleton.1 hu]; rfl) (by omega) (by simp only [maxLen]; omega) (by omega)) rfl rfl ?_)
    rintro _ _ ⟨C2, hown2, _, rfl⟩
    obtain ⟨oa2, cp2, rfl, hle2⟩ := hown2.shape
    refine vone rfl (vxq (vas rfl) rfl rfl ?_)
    refine vnil ?_
    refine vdraw0 [(.q, 0), (.q, 1), (.q, 2), (.q, 3), (.q, 4), (.q, 5), (.q, 6), (.q, 7), (.q, 8), (.q, 9), (.q, 10), (.c, 11)] Tryd.mixed (by kernel_rfl) (by kernel_rfl) ?_
    refine vdq (mone rfl) (vfa rfl) rfl rfl ?_
    refine vdq (mone rfl) (vld1 rfl rfl) rfl rfl ?_
    refine vdq (mone rfl) (vadd rfl rfl (by unfold InR; omega)) rfl rfl ?_
    refine vdq (mone rfl) (vldn rfl rfl) rfl rfl ?_
    refine vdq (mone rfl) (vfa rfl) rfl rfl ?_
    refine vdq (mone rfl) (vld1 rfl rfl) rfl rfl ?_
    refine vdq (mone rfl) (vfa rfl) rfl rfl ?_
    refine vdq (mone rfl) (vldn rfl rfl) rfl rfl ?_
    refine vdq (mone rfl) (vmv rfl) rfl rfl ?_
    refine vdq (mone rfl) (vcq rfl rfl rfl (c_after ⟨h, oa1, c1⟩ ⟨w, s, (dangerE w s).1⟩ _ i (by simp only; omega) x hx m)) rfl rfl ?_
    refine vdq (mone rfl) (vbd rfl rfl) rfl rfl ?_
    refine vdcs (mone rfl) (vstn rfl rfl rfl rfl rfl) rfl ?_
    refine vdend rfl ?_
    refine vinblock ?_
    exact vback (IH (i + 1, afterP ⟨w, s, (dangerE w s).1⟩ i x m, l2, c2, oa2, cp2, C2, pre ++ [(m : Int)]) ⟨by omega, after_okSt hw0 _ _ _, hmk3, by simp [hpl], by rw [List.flatMap_append]; exact hown2, by rw [← hbf, hn', bestF_succ, hbM, ← hmb, List.append_assoc, show s.ship.length - (i + 1) = n' by omega]; rfl⟩ (by show _ - (i + 1) < _ - i; omega)) ⟨rfl, rfl, rfl, rfl, rfl, rfl, True.intro⟩ sb2
  ·
   refine vexit (k' := _) rfl ?_
   refine vseq ?_
   refine vregion ?_
   refine vone rfl (vxq (vmv rfl) rfl rfl ?_)
   refine vone rfl (vxq (vmv rfl) rfl rfl ?_)
   refine vone rfl (vxq (vas rfl) rfl rfl ?_)
   refine vone rfl (vxq (vas rfl) rfl rfl ?_)
   refine vone rfl (vxq (vas rfl) rfl rfl ?_)
   refine vnil ?_
   refine vret (vr3 (H' := C ++ (B ++ H)) Tryd.func23 rfl (.tmp rfl) (.tmp rfl) (.tmp rfl) sb2 ?_)
   first | (rw [best_e h20]; exact ⟨_, rfl, B, rfl, Option.none, 0, rfl, SlO.nil⟩) | (have hi : i = s.ship.length := (by omega); subst hi; rw [best_y h20, ← hbf, Nat.sub_self]; simp only [bestF, List.append_nil]; exact ⟨_, rfl, C ++ B, by rw [List.append_assoc], oa, cp, by rw [hpl], (OwnS.slo (enc := encI) (l := pre) hown encI_len (by decide) rfl hpl).appLB⟩)
end Go.Proofs.YtaplkoimhecacaaDoor
namespace Go.Proofs.YtaplkoimhecacaaDoor
open Go
set_option maxRecDepth 100000

attribute [local irreducible] tightP hullP rootP farP rows endsOf
def numW : Wn := ⟨5, 2, 3, 2, 1, 2, 1⟩

/-- paravane/paravanelaw06.numbersOf -/
theorem c_numbersOf  : VPure Tryd.prog 29 [] (vWn numW) := by
 intro H
 refine vcall_of_vrun Tryd.func29 rfl (N := 2) rfl rfl ?_
 refine vseq ?_
 refine vregion ?_
 refine vone rfl (vxa valloc rfl rfl (fun b1 => ?_))
 refine vnil ?_
 refine vseq ?_
 refine vregion ?_
 refine vone rfl (vxq (vbd rfl rfl) rfl rfl ?_)
 refine vone rfl (vxs (vstn rfl rfl rfl rfl rfl) rfl ?_)
 refine vnil ?_
 refine vret (vr1 (H' := H) Tryd.func29 rfl (.celln rfl rfl) sb ?_)
 exact ⟨rfl, rfl⟩
/-- paravane/paravanelaw06.bounds -/
theorem c_bounds (a b c d e f g h : Int) : VPure Tryd.prog 51 [I a, I b, I c, I d, I e, I f, I g, I h] (vR ⟨⟨a, b⟩, ⟨c, d⟩, ⟨e, f⟩, ⟨g, h⟩⟩) := by
 intro H
 refine vcall_of_vrun Tryd.func51 rfl (N := 30) rfl rfl ?_
 refine vseq ?_
 refine vregion ?_
 refine vone rfl (vxa valloc rfl rfl (fun b1 => ?_))
 refine vnil ?_
 refine vseq ?_
 refine vregion ?_
 refine vone rfl (vxq (vmv rfl) rfl rfl ?_)
 refine vone rfl (vxq (vmv rfl) rfl rfl ?_)
 refine vone rfl (vxq (vbd rfl rfl) rfl rfl ?_)
 refine vone rfl (vxq (vmv rfl) rfl rfl ?_)
 refine vone rfl (vxq (vmv rfl) rfl rfl ?_)
 refine vone rfl (vxq (vbd rfl rfl) rfl rfl ?_)
 refine vone rfl (vxq (vmv rfl) rfl rfl ?_)
 refine vone rfl (vxq (vmv rfl) rfl rfl ?_)
 refine vone rfl (vxq (vbd rfl rfl) rfl rfl ?_)
 refine vone rfl (vxq (vmv rfl) rfl rfl ?_)
 refine vone rfl (vxq (vmv rfl) rfl rfl ?_)
 refine vone rfl (vxq (vbd rfl rfl) rfl rfl ?_)
 refine vone rfl (vxq (vbd rfl rfl) rfl rfl ?_)
 refine vone rfl (vxs (vstn rfl rfl rfl rfl rfl) rfl ?_)
 refine vnil ?_
 refine vret (vr1 (H' := H) Tryd.func51 rfl (.celln rfl rfl) sb ?_)
 exact ⟨rfl, rfl⟩
/-- paravane/paravaneref00.AlikeBools -/
theorem c_AlikeB (l m : List Bool) (oa ob : Option Addr) (n k c d : Nat) (hn : l.length = n) (hk : m.length = k) (hmax : n ≤ 9223372036854775807) (H : Heap) [SlO H oa 1 encB l] [SlO H ob 1 encB m] : VHas Tryd.prog 33 [sli oa n c, sli ob k d] (.bool (decide (l = m))) (H) (H) := by
 refine vcall_of_vrun Tryd.func33 rfl (N := 26) rfl rfl ?_
 refine vseq ?_
 refine vregion ?_
 refine vone rfl (vxq (vas rfl) rfl rfl ?_)
 refine vnil ?_
 refine vseq ?_
 refine vseq ?_
 refine vregion ?_
 refine vone rfl (vxq (vmv rfl) rfl rfl ?_)
 refine vone rfl (vxq (vlen rfl) rfl rfl ?_)
 refine vone rfl (vxq (vmv rfl) rfl rfl ?_)
 refine vone rfl (vxq (vlen rfl) rfl rfl ?_)
 refine vone rfl (vxq (vneq rfl rfl) rfl rfl ?_)
 refine vnil ?_
 refine vcondd rfl (fun h10 => ?_) (fun h10 => ?_)
 ·
  refine vseq ?_
  refine vregion ?_
  refine vone rfl (vxq (vas rfl) rfl rfl ?_)
  refine vnil ?_
  refine vret (vr1 (H' := H) Tryd.func33 rfl (.tmp rfl) sb ?_)
  first | (have hne : ¬ l = m := (fun e => h10 (by rw [e] at hn; omega)); rw [decide_eq_false hne]; exact ⟨rfl, rfl⟩) | (have hne : ¬ l = m := (fun e => by subst e; rw [hx] at hy; cases hy; first | exact h25 rfl | (simp at h25; done)); rw [decide_eq_false hne]; exact ⟨rfl, rfl⟩) | (have he : l = m := (List.ext_getElem? fun j => (by rcases Nat.lt_or_ge j n with hj | hj; exact hall j (by omega); rw [List.getElem?_eq_none (by omega), List.getElem?_eq_none (by omega)])); rw [decide_eq_true he]; exact ⟨rfl, rfl⟩)
 ·
  refine vskip ?_
  refine vseq ?_
  refine vseq ?_
  refine vregion ?_
  refine vone rfl (vxq (vas rfl) rfl rfl ?_)
  refine vnil ?_
  refine vblock ?_
  refine vwhile (σ := Int) (fun i => (n - i).toNat) (fun i => [(0, sli oa n c), (1, sli ob k d), (5, I i)]) (fun i => H) (fun i => (0 ≤ i ∧ i ≤ n) ∧ ∀ j : Nat, (j : Int) < i → l[j]? = m[j]?) 0 ⟨⟨by omega, by omega⟩, fun j hj => by omega⟩ ⟨rfl, rfl, rfl, True.intro⟩ sb ?_
  rintro i ⟨⟨hi0, hin⟩, hall⟩ IH
  change VRun _ _ _ _ _ [(0, sli oa n c), (1, sli ob k d), (5, I i)] _ (H) _
  refine vseq ?_
  refine vseq ?_
  refine vregion ?_
  refine vone rfl (vxq (vmv rfl) rfl rfl ?_)
  refine vone rfl (vxq (vmv rfl) rfl rfl ?_)
  refine vone rfl (vxq (vlen rfl) rfl rfl ?_)
  refine vone rfl (vxq (vlss rfl rfl) rfl rfl ?_)
  refine vnil ?_
  refine vcondd rfl (fun h14 => ?_) (fun h14 => ?_)
  ·
   obtain ⟨x, hx⟩ := get_of_lt l (i := i.toNat) (by omega)
   obtain ⟨y, hy⟩ := get_of_lt m (i := i.toNat) (by omega)
   refine vskip ?_
   refine vseq ?_
   refine vblock ?_
   refine vseq ?_
   refine vdraw0 [(.q, 0), (.q, 1), (.q, 2), (.q, 3), (.q, 4), (.q, 5), (.q, 6), (.q, 7), (.q, 8)] Tryd.mixed (by kernel_rfl) (by kernel_rfl) ?_
   refine vdq (mone rfl) (vmv rfl) rfl rfl ?_
   refine vdq (mone rfl) (vmv rfl) rfl rfl ?_
   refine vdq (mone rfl) (visg (enc := encB) rfl rfl (by omega) hx) rfl rfl ?_
   refine vdq (mone rfl) (vldS1 (enc := encB) rfl hx rfl) rfl rfl ?_
   refine vdq (mone rfl) (vmv rfl) rfl rfl ?_
   refine vdq (mone rfl) (vmv rfl) rfl rfl ?_
   refine vdq (mone rfl) (visg (enc := encB) rfl rfl (by omega) hy) rfl rfl ?_
   refine vdq (mone rfl) (vldS1 (enc := encB) rfl hy rfl) rfl rfl ?_
   refine vdq (mone rfl) (vneqb (by kernel_rfl) rfl rfl) rfl rfl ?_
   refine vdend rfl ?_
   refine vcond rfl (fun h25 => ?_) (fun h25 => ?_)
   ·
    refine vseq ?_
    refine vregion ?_
    refine vone rfl (vxq (vas rfl) rfl rfl ?_)
    refine vnil ?_
    refine vret (vr1 (H' := H) Tryd.func33 rfl (.tmp rfl) sb ?_)
    first | (have hne : ¬ l = m := (fun e => h10 (by rw [e] at hn; omega)); rw [decide_eq_false hne]; exact ⟨rfl, rfl⟩) | (have hne : ¬ l = m := (fun e => by subst e; rw [hx] at hy; cases hy; first | exact h25 rfl | (simp at h25; done)); rw [decide_eq_false hne]; exact ⟨rfl, rfl⟩) | (have he : l = m := (List.ext_getElem? fun j => (by rcases Nat.lt_or_ge j n with hj | hj; exact hall j (by omega); rw [List.getElem?_eq_none (by omega), List.getElem?_eq_none (by omega)])); rw [decide_eq_true he]; exact ⟨rfl, rfl⟩)
   ·
    refine vskip ?_
    refine vinblock ?_
    refine vregion ?_
    refine vone rfl (vxq (vmv rfl) rfl rfl ?_)
    refine vone rfl (vxq (vadd rfl rfl (by unfold InR; omega)) rfl rfl ?_)
    refine vone rfl (vxq (vas rfl) rfl rfl ?_)
    refine vnil ?_
    exact vback (IH (i + 1) ⟨⟨by omega, by omega⟩, lt_snoc (_n := 0) hi0 hall (by rw [hx, hy]; exact congrArg some (by cases x <;> cases y <;> first | rfl | cases h25))⟩ (by show (_ : Int).toNat < (_ : Int).toNat; omega)) ⟨rfl, rfl, rfl, True.intro⟩ sb
  ·
   refine vexit (k' := _) rfl ?_
   refine vseq ?_
   refine vregion ?_
   refine vone rfl (vxq (vas rfl) rfl rfl ?_)
   refine vnil ?_
   refine vret (vr1 (H' := H) Tryd.func33 rfl (.tmp rfl) sb ?_)
   first | (have hne : ¬ l = m := (fun e => h10 (by rw [e] at hn; omega)); rw [decide_eq_false hne]; exact ⟨rfl, rfl⟩) | (have hne : ¬ l = m := (fun e => by subst e; rw [hx] at hy; cases hy; first | exact h25 rfl | (simp at h25; done)); rw [decide_eq_false hne]; exact ⟨rfl, rfl⟩) | (have he : l = m := (List.ext_getElem? fun j => (by rcases Nat.lt_or_ge j n with hj | hj; exact hall j (by omega); rw [List.getElem?_eq_none (by omega), List.getElem?_eq_none (by omega)])); rw [decide_eq_true he]; exact ⟨rfl, rfl⟩)
/-- paravane/paravaneref00.Alike -/
theorem c_AlikeI (l m : List Int) (oa ob : Option Addr) (n k c d : Nat) (hn : l.length = n) (hk : m.length = k) (hmax : n ≤ 9223372036854775807) (H : Heap) [SlO H oa 1 encI l] [SlO H ob 1 encI m] : VHas Tryd.prog 45 [sli oa n c, sli ob k d] (.bool (decide (l = m))) (H) (H) := by
 refine vcall_of_vrun Tryd.func45 rfl (N := 26) rfl rfl ?_
 refine vseq ?_
 refine vregion ?_
 refine vone rfl (vxq (vas rfl) rfl rfl ?_)
 refine vnil ?_
 refine vseq ?_
 refine vseq ?_
 refine vregion ?_
 refine vone rfl (vxq (vmv rfl) rfl rfl ?_)
 refine vone rfl (vxq (vlen rfl) rfl rfl ?_)
 refine vone rfl (vxq (vmv rfl) rfl rfl ?_)
 refine vone rfl (vxq (vlen rfl) rfl rfl ?_)
 refine vone rfl (vxq (vneq rfl rfl) rfl rfl ?_)
 refine vnil ?_
 refine vcondd rfl (fun h10 => ?_) (fun h10 => ?_)
 ·
  refine vseq ?_
  refine vregion ?_
  refine vone rfl (vxq (vas rfl) rfl rfl ?_)
  refine vnil ?_
  refine vret (vr1 (H' := H) Tryd.func45 rfl (.tmp rfl) sb ?_)
  first | (have hne : ¬ l = m := (fun e => h10 (by rw [e] at hn; omega)); rw [decide_eq_false hne]; exact ⟨rfl, rfl⟩) | (have hne : ¬ l = m := (fun e => by subst e; rw [hx] at hy; cases hy; first | exact h25 rfl | (simp at h25; done)); rw [decide_eq_false hne]; exact ⟨rfl, rfl⟩) | (have he : l = m := (List.ext_getElem? fun j => (by rcases Nat.lt_or_ge j n with hj | hj; exact hall j (by omega); rw [List.getElem?_eq_none (by omega), List.getElem?_eq_none (by omega)])); rw [decide_eq_true he]; exact ⟨rfl, rfl⟩)
 ·
  refine vskip ?_
  refine vseq ?_
  refine vseq ?_
  refine vregion ?_
  refine vone rfl (vxq (vas rfl) rfl rfl ?_)
  refine vnil ?_
  refine vblock ?_
  refine vwhile (σ := Int) (fun i => (n - i).toNat) (fun i => [(0, sli oa n c), (1, sli ob k d), (5, I i)]) (fun i => H) (fun i => (0 ≤ i ∧ i ≤ n) ∧ ∀ j : Nat, (j : Int) < i → l[j]? = m[j]?) 0 ⟨⟨by omega, by omega⟩, fun j hj => by omega⟩ ⟨rfl, rfl, rfl, True.intro⟩ sb ?_
  rintro i ⟨⟨hi0, hin⟩, hall⟩ IH
  change VRun _ _ _ _ _ [(0, sli oa n c), (1, sli ob k d), (5, I i)] _ (H) _
  refine vseq ?_
  refine vseq ?_
  refine vregion ?_
  refine vone rfl (vxq (vmv rfl) rfl rfl ?_)
  refine vone rfl (vxq (vmv rfl) rfl rfl ?_)
  refine vone rfl (vxq (vlen rfl) rfl rfl ?_)
  refine vone rfl (vxq (vlss rfl rfl) rfl rfl ?_)
  refine vnil ?_
  refine vcondd rfl (fun h14 => ?_) (fun h14 => ?_)
  ·
   obtain ⟨x, hx⟩ := get_of_lt l (i := i.toNat) (by omega)
   obtain ⟨y, hy⟩ := get_of_lt m (i := i.toNat) (by omega)
   refine vskip ?_
   refine vseq ?_
   refine vblock ?_
   refine vseq ?_
   refine vdraw0 [(.q, 0), (.q, 1), (.q, 2), (.q, 3), (.q, 4), (.q, 5), (.q, 6), (.q, 7), (.q, 8)] Tryd.mixed (by kernel_rfl) (by kernel_rfl) ?_
   refine vdq (mone rfl) (vmv rfl) rfl rfl ?_
   refine vdq (mone rfl) (vmv rfl) rfl rfl ?_
   refine vdq (mone rfl) (visg (enc := encI) rfl rfl (by omega) hx) rfl rfl ?_
   refine vdq (mone rfl) (vldS1 (enc := encI) rfl hx rfl) rfl rfl ?_
   refine vdq (mone rfl) (vmv rfl) rfl rfl ?_
   refine vdq (mone rfl) (vmv rfl) rfl rfl ?_
   refine vdq (mone rfl) (visg (enc := encI) rfl rfl (by omega) hy) rfl rfl ?_
   refine vdq (mone rfl) (vldS1 (enc := encI) rfl hy rfl) rfl rfl ?_
   refine vdq (mone rfl) (vneq rfl rfl) rfl rfl ?_
   refine vdend rfl ?_
   refine vcondd rfl (fun h25 => ?_) (fun h25 => ?_)
   ·
    refine vseq ?_
    refine vregion ?_
    refine vone rfl (vxq (vas rfl) rfl rfl ?_)
    refine vnil ?_
    refine vret (vr1 (H' := H) Tryd.func45 rfl (.tmp rfl) sb ?_)
    first | (have hne : ¬ l = m := (fun e => h10 (by rw [e] at hn; omega)); rw [decide_eq_false hne]; exact ⟨rfl, rfl⟩) | (have hne : ¬ l = m := (fun e => by subst e; rw [hx] at hy; cases hy; first | exact h25 rfl | (simp at h25; done)); rw [decide_eq_false hne]; exact ⟨rfl, rfl⟩) | (have he : l = m := (List.ext_getElem? fun j => (by rcases Nat.lt_or_ge j n with hj | hj; exact hall j (by omega); rw [List.getElem?_eq_none (by omega), List.getElem?_eq_none (by omega)])); rw [decide_eq_true he]; exact ⟨rfl, rfl⟩)
   ·
    refine vskip ?_
    refine vinblock ?_
    refine vregion ?_
    refine vone rfl (vxq (vmv rfl) rfl rfl ?_)
    refine vone rfl (vxq (vadd rfl rfl (by unfold InR; omega)) rfl rfl ?_)
    refine vone rfl (vxq (vas rfl) rfl rfl ?_)
    refine vnil ?_
    exact vback (IH (i + 1) ⟨⟨by omega, by omega⟩, lt_snoc (_n := 0) hi0 hall (by rw [hx, hy]; exact congrArg some (Classical.not_not.1 h25))⟩ (by show (_ : Int).toNat < (_ : Int).toNat; omega)) ⟨rfl, rfl, rfl, True.intro⟩ sb
  ·
   refine vexit (k' := _) rfl ?_
   refine vseq ?_
   refine vregion ?_
   refine vone rfl (vxq (vas rfl) rfl rfl ?_)
   refine vnil ?_
   refine vret (vr1 (H' := H) Tryd.func45 rfl (.tmp rfl) sb ?_)
   first | (have hne : ¬ l = m := (fun e => h10 (by rw [e] at hn; omega)); rw [decide_eq_false hne]; exact ⟨rfl, rfl⟩) | (have hne : ¬ l = m := (fun e => by subst e; rw [hx] at hy; cases hy; first | exact h25 rfl | (simp at h25; done)); rw [decide_eq_false hne]; exact ⟨rfl, rfl⟩) | (have he : l = m := (List.ext_getElem? fun j => (by rcases Nat.lt_or_ge j n with hj | hj; exact hall j (by omega); rw [List.getElem?_eq_none (by omega), List.getElem?_eq_none (by omega)])); rw [decide_eq_true he]; exact ⟨rfl, rfl⟩)
/-- paravane/watch.NewKeeper -/
theorem d_NewKeeper (w : Wn) (H : Heap) : VCall Tryd.prog 42 [vWn w].toArray H (fun o H' => (okW w ∧ ∃ b, o = .val (tup [ptr b, I 0]) ∧ H' = (b, blk [.slice Option.none 0 0, .slice Option.none 0 0, .slice Option.none 0 0, .slice Option.none 0 0, .slice Option.none 0 0, I w.zone, I w.speed, I w.hold, I w.pre, I w.delay, I w.soft, I w.pause, .slice Option.none 0 0] 155) :: H) ∨ (¬ okW w ∧ o = .val (tup [.pointer Option.none, I 60]) ∧ H' = H)) := by
 refine vcall_of_vrun Tryd.func42 rfl (N := 13) rfl rfl ?_
 refine vseq ?_
 refine vregion ?_
 refine vone rfl (vxa (vbox rfl rfl) rfl rfl (fun b1 => ?_))
 refine vone rfl (vxq (vas rfl) rfl rfl ?_)
 refine vone rfl (vxq (vas rfl) rfl rfl ?_)
 refine vnil ?_
 refine vseq ?_
 refine vseq ?_
 refine vregion ?_
 refine vone rfl (vxq (vldn rfl rfl) rfl rfl ?_)
 refine vone rfl (vxq (vcp rfl rfl rfl (c_CheckWatch w)) rfl rfl ?_)
 refine vone rfl (vxq (vas rfl) rfl rfl ?_)
 refine vnil ?_
 refine vseq ?_
 refine vregion ?_
 refine vone rfl (vxq (vmv rfl) rfl rfl ?_)
 refine vone rfl (vxq (vneq rfl rfl) rfl rfl ?_)
 refine vnil ?_
 refine vcondd rfl (fun h8 => ?_) (fun h8 => ?_)
 ·
  refine vseq ?_
  refine vregion ?_
  refine vone rfl (vxq (vmv rfl) rfl rfl ?_)
  refine vone rfl (vxq (vas rfl) rfl rfl ?_)
  refine vone rfl (vxq (vas rfl) rfl rfl ?_)
  refine vnil ?_
  refine vret (vr2 (H' := H) Tryd.func42 rfl (.tmp rfl) (.tmp rfl) sb ?_)
  first | (have hn : ¬ okW w := (fun e => h8 (chkW_t e)); rw [chkW_f hn]; exact .inr ⟨hn, rfl, rfl⟩) | exact .inl ⟨chkW_z.1 (Classical.not_not.1 h8), b2, rfl, rfl⟩
 ·
  refine vskip ?_
  refine vseq ?_
  refine vregion ?_
  refine vone rfl (vxq (vldn rfl rfl) rfl rfl ?_)
  refine vone rfl (vxq (vbd rfl rfl) rfl rfl ?_)
  refine vone rfl (vxa (vbox rfl rfl) rfl rfl (fun b2 => ?_))
  refine vone rfl (vxq (vas rfl) rfl rfl ?_)
  refine vone rfl (vxq (vas rfl) rfl rfl ?_)
  refine vnil ?_
  refine vret (vr2 (H' := (b2, _) :: H) Tryd.func42 rfl (.tmp rfl) (.tmp rfl) sb ?_)
  first | (have hn : ¬ okW w := (fun e => h8 (chkW_t e)); rw [chkW_f hn]; exact .inr ⟨hn, rfl, rfl⟩) | exact .inl ⟨chkW_z.1 (Classical.not_not.1 h8), b2, rfl, rfl⟩
end Go.Proofs.YtaplkoimhecacaaDoor
namespace Go.Proofs.YtaplkoimhecacaaDoor
open Go
set_option maxRecDepth 100000

attribute [local irreducible] tightP hullP rootP farP rows endsOf
def annB : ByteArray := ByteArray.mk #[97, 110, 110]
def annS : Sg := ⟨0, annB, 0, 6, 10⟩
def scP (n : Nat) : Sc := ⟨List.replicate n zR, List.replicate n zR, List.replicate n true, List.replicate n false, [annS]⟩
section
open Classical in
theorem pm7 (X A B C D H : Heap) : (X ++ (A ++ (B ++ (C ++ (D ++ H))))).Perm ((A ++ (B ++ (C ++ D))) ++ (X ++ H)) := perm_of fun a => by simp only [List.count_append]; omega
theorem pm8 (X A B C D H N : Heap) : ((N ++ (A ++ (B ++ (C ++ D)))) ++ (X ++ H)).Perm ((X ++ (A ++ (B ++ (C ++ (D ++ H))))) ++ N) := perm_of fun a => by simp only [List.count_append]; omega
theorem perm_mid2 (A B X R : Heap) : (A ++ (B ++ (X ++ R))).Perm (X ++ (A ++ (B ++ R))) := perm_of fun a => by simp only [List.count_append]; omega
theorem perm_mid3 (A B C X : Heap) : (A ++ (B ++ (C ++ X))).Perm (X ++ (A ++ (B ++ C))) := perm_of fun a => by simp only [List.count_append]; omega
end
theorem rep_flat {α : Type} {enc : α → List Value} {x : α} (n : Nat) : (List.replicate (n + 1) x).flatMap enc = (List.replicate n x).flatMap enc ++ enc x := by rw [List.replicate_succ']; simp

/-- paravane/paravanelaw06.scene -/
theorem d_scene (n : Int) (hn : 0 ≤ n ∧ n ≤ 64) (H : Heap) : VCall Tryd.prog 30 [I n].toArray H (fun o H' => ∃ bs o1 k1 o2 k2 o3 k3 o4 k4 B, o = .val (vSc ⟨o1, k1, o2, k2, o3, k3, o4, k4, some ⟨bs, 0, Option.none⟩, 1⟩ (scP n.toNat)) ∧ H' = (bs, blk [I 0, .string annB, I 0, I 6, I 10] 49) :: (B ++ H) ∧ SlO B o1 8 clR (scP n.toNat).ship ∧ SlO B o2 8 clR (scP n.toNat).src ∧ SlO B o3 1 encB (scP n.toNat).eyes ∧ SlO B o4 1 encB (scP n.toNat).ears ∧ n.toNat ≤ k3 ∧ n.toNat ≤ k4) := by
 refine vcall_of_vrun Tryd.func30 rfl (N := 36) rfl rfl ?_
 refine vseq ?_
 refine vregion ?_
 refine vone rfl (vxa valloc rfl rfl (fun b1 => ?_))
 refine vnil ?_
 refine vseq ?_
 refine vregion ?_
 refine vone rfl (vxq (vbd rfl rfl) rfl rfl ?_)
 refine vone rfl (vxg (vbs rfl rfl rfl rfl rfl rfl) rfl rfl ?_)
 rintro _ _ ⟨b2, rfl, rfl⟩
 refine vone rfl (vxq (vbd rfl rfl) rfl rfl ?_)
 refine vone rfl (vxa valloc rfl rfl (fun b3 => ?_))
 refine vone rfl (vxs (vstn rfl rfl rfl rfl rfl) rfl ?_)
 refine vnil ?_
 refine vseq ?_
 refine vseq ?_
 refine vregion ?_
 refine vone rfl (vxq (vas rfl) rfl rfl ?_)
 refine vnil ?_
 refine vblock ?_
 refine vwhile (σ := Nat × Option Addr × Nat × Option Addr × Nat × Option Addr × Nat × Option Addr × Nat × Heap × Heap × Heap × Heap) (fun ⟨i, o1, k1, o2, k2, o3, k3, o4, k4, C1, C2, C3, C4⟩ => (n - i).toNat) (fun ⟨i, o1, k1, o2, k2, o3, k3, o4, k4, C1, C2, C3, C4⟩ => [(0, I n), (2, ptr b1), (3, ptr b3), (4, I (i : Int))]) (fun ⟨i, o1, k1, o2, k2, o3, k3, o4, k4, C1, C2, C3, C4⟩ => (b3, blk [.slice o1 i k1, .slice o2 i k2, .slice o3 i k3, .slice o4 i k4, .slice (some ⟨b2, 0, Option.none⟩) 1 1] 33) :: (b2, blk [I 0, .string annB, I 0, I 6, I 10] 49) :: (b1, blk [.slice Option.none 0 0, .slice Option.none 0 0, .slice Option.none 0 0, .slice Option.none 0 0, .slice Option.none 0 0] 33) :: (C1 ++ (C2 ++ (C3 ++ (C4 ++ H))))) (fun ⟨i, o1, k1, o2, k2, o3, k3, o4, k4, C1, C2, C3, C4⟩ => (i : Int) ≤ n ∧ OwnS 55 8 (.slice o1 i k1) i ((List.replicate i zR).flatMap clR) C1 ∧ OwnS 55 8 (.slice o2 i k2) i ((List.replicate i zR).flatMap clR) C2 ∧ OwnS 4 1 (.slice o3 i k3) i ((List.replicate i true).flatMap encB) C3 ∧ OwnS 4 1 (.slice o4 i k4) i ((List.replicate i false).flatMap encB) C4) (0, Option.none, 0, Option.none, 0, Option.none, 0, Option.none, 0, [], [], [], []) ⟨hn.1, OwnS.nil, OwnS.nil, OwnS.nil, OwnS.nil⟩ ⟨rfl, rfl, rfl, rfl, True.intro⟩ sb ?_
 rintro ⟨i, o1, k1, o2, k2, o3, k3, o4, k4, C1, C2, C3, C4⟩ ⟨hin, hO1, hO2, hO3, hO4⟩ IH
 change VRun _ _ _ _ _ [(0, I n), (2, ptr b1), (3, ptr b3), (4, I (i : Int))] _ ((b3, blk [.slice o1 i k1, .slice o2 i k2, .slice o3 i k3, .slice o4 i k4, .slice (some ⟨b2, 0, Option.none⟩) 1 1] 33) :: (b2, blk [I 0, .string annB, I 0, I 6, I 10] 49) :: (b1, blk [.slice Option.none 0 0, .slice Option.none 0 0, .slice Option.none 0 0, .slice Option.none 0 0, .slice Option.none 0 0] 33) :: (C1 ++ (C2 ++ (C3 ++ (C4 ++ H))))) _
 refine vseq ?_
 refine vseq ?_
 refine vregion ?_
 refine vone rfl (vxq (vmv rfl) rfl rfl ?_)
 refine vone rfl (vxq (vmv rfl) rfl rfl ?_)
 refine vone rfl (vxq (vlss rfl rfl) rfl rfl ?_)
 refine vnil ?_
 refine vcondd rfl (fun h10 => ?_) (fun h10 => ?_)
 ·
  refine vskip ?_
  refine vseq ?_
  refine vblock ?_
  refine vdrawP (G0 := (C1 ++ (C2 ++ (C3 ++ C4)))) (H0 := (b3, blk [.slice o1 i k1, .slice o2 i k2, .slice o3 i k3, .slice o4 i k4, .slice (some ⟨b2, 0, Option.none⟩) 1 1] 33) :: (b2, blk [I 0, .string annB, I 0, I 6, I 10] 49) :: (b1, blk [.slice Option.none 0 0, .slice Option.none 0 0, .slice Option.none 0 0, .slice Option.none 0 0, .slice Option.none 0 0] 33) :: H) (pm7 [(b3, blk [.slice o1 i k1, .slice o2 i k2, .slice o3 i k3, .slice o4 i k4, .slice (some ⟨b2, 0, Option.none⟩) 1 1] 33), (b2, blk [I 0, .string annB, I 0, I 6, I 10] 49), (b1, blk [.slice Option.none 0 0, .slice Option.none 0 0, .slice Option.none 0 0, .slice Option.none 0 0, .slice Option.none 0 0] 33)] C1 C2 C3 C4 H) [(.q, 0), (.q, 1), (.q, 2), (.q, 5), (.q, 6), (.q, 7), (.q, 10), (.q, 11), (.q, 14), (.q, 15), (.m, 3), (.s, 4), (.q, 18), (.m, 8), (.s, 9), (.m, 12), (.s, 13), (.m, 16), (.s, 17), (.c, 19), (.q, 20), (.c, 21), (.q, 22), (.c, 23), (.q, 24), (.c, 25)] Tryd.mixed (by kernel_rfl) (allocOk_of _ (by kernel_rfl)) ?_
  refine vdq (mone rfl) (vfa rfl) rfl rfl ?_
  refine vdq (mone rfl) (vld1 rfl rfl) rfl rfl ?_
  refine vdq (mone rfl) (vbd rfl rfl) rfl rfl ?_
  refine vdq (mone rfl) (vfa rfl) rfl rfl ?_
  refine vdq (mone rfl) (vld1 rfl rfl) rfl rfl ?_
  refine vdq (mone rfl) (vbd rfl rfl) rfl rfl ?_
  refine vdq (mone rfl) (vfa rfl) rfl rfl ?_
  refine vdq (mone rfl) (vld1 rfl rfl) rfl rfl ?_
  refine vdq (mone rfl) (vfa rfl) rfl rfl ?_
  refine vdq (mone rfl) (vld1 rfl rfl) rfl rfl ?_
  refine vdm (mone rfl) (vbsP rfl rfl rfl rfl rfl rfl) rfl rfl (fun n1 => ?_)
  refine vdsd (mone rfl) (vappF (a := ⟨n1, 0, Option.none⟩) (m := 1) (c := 1) (size := 8) (bytes := 64) (F := fun X => (n1, blk [I 0, I 0, I 0, I 0, I 0, I 0, I 0, I 0] 55) :: (X ++ (C2 ++ (C3 ++ C4)))) (B := C1) (xs := (List.replicate i zR).flatMap clR) (news := [I 0, I 0, I 0, I 0, I 0, I 0, I 0, I 0]) (fun X => perm_mid [(n1, blk [I 0, I 0, I 0, I 0, I 0, I 0, I 0, I 0] 55)] X (C2 ++ (C3 ++ C4))) rfl rfl hO1 rfl (news_blk (b := n1) (List.Mem.head _)) (one1 (enc := clR) (fun _ => rfl) [zR] zR (by simp)) (by omega) (by simp only [maxLen]; omega) (by omega)) rfl rfl ?_
  rintro _ _ ⟨D1, hP1, _, rfl⟩
  obtain ⟨p1, q1, rfl, _⟩ := hP1.shape
  refine vdq (mone rfl) (vfa rfl) rfl rfl ?_
  refine vdm (mone rfl) (vbsP rfl rfl rfl rfl rfl rfl) rfl rfl (fun n2 => ?_)
  refine vdsd (mone rfl) (vappF (a := ⟨n2, 0, Option.none⟩) (m := 1) (c := 1) (size := 8) (bytes := 64) (F := fun X => (n2, blk [I 0, I 0, I 0, I 0, I 0, I 0, I 0, I 0] 55) :: (n1, blk [I 0, I 0, I 0, I 0, I 0, I 0, I 0, I 0] 55) :: (D1 ++ (X ++ (C3 ++ C4)))) (B := C2) (xs := (List.replicate i zR).flatMap clR) (news := [I 0, I 0, I 0, I 0, I 0, I 0, I 0, I 0]) (fun X => perm_mid ((n2, blk [I 0, I 0, I 0, I 0, I 0, I 0, I 0, I 0] 55) :: (n1, blk [I 0, I 0, I 0, I 0, I 0, I 0, I 0, I 0] 55) :: D1) X (C3 ++ C4)) rfl rfl hO2 rfl (news_blk (b := n2) (List.Mem.head _)) (one1 (enc := clR) (fun _ => rfl) [zR] zR (by simp)) (by omega) (by simp only [maxLen]; omega) (by omega)) rfl rfl ?_
  rintro _ _ ⟨D2, hP2, _, rfl⟩
  obtain ⟨p2, q2, rfl, _⟩ := hP2.shape
  refine vdm (mone rfl) (vbsP rfl rfl rfl rfl rfl rfl) rfl rfl (fun n3 => ?_)
  refine vdsd (mone rfl) (vappF (a := ⟨n3, 0, Option.none⟩) (m := 1) (c := 1) (size := 1) (bytes := 1) (F := fun X => (n3, blk [.bool true] 4) :: (n2, blk [I 0, I 0, I 0, I 0, I 0, I 0, I 0, I 0] 55) :: (n1, blk [I 0, I 0, I 0, I 0, I 0, I 0, I 0, I 0] 55) :: (D1 ++ (D2 ++ (X ++ C4)))) (B := C3) (xs := (List.replicate i true).flatMap encB) (news := [.bool true]) (fun X => perm_mid2 ((n3, blk [.bool true] 4) :: (n2, blk [I 0, I 0, I 0, I 0, I 0, I 0, I 0, I 0] 55) :: (n1, blk [I 0, I 0, I 0, I 0, I 0, I 0, I 0, I 0] 55) :: D1) D2 X C4) rfl rfl hO3 rfl (news_blk (b := n3) (List.Mem.head _)) (one1 (enc := encB) (fun _ => rfl) [true] true (by simp)) (by omega) (by simp only [maxLen]; omega) (by omega)) rfl rfl ?_
  rintro _ _ ⟨D3, hP3, _, rfl⟩
  obtain ⟨p3, q3, rfl, _⟩ := hP3.shape
  refine vdm (mone rfl) (vbsP rfl rfl rfl rfl rfl rfl) rfl rfl (fun n4 => ?_)
  refine vdsd (mone rfl) (vappF (a := ⟨n4, 0, Option.none⟩) (m := 1) (c := 1) (size := 1) (bytes := 1) (F := fun X => (n4, blk [.bool false] 4) :: (n3, blk [.bool true] 4) :: (n2, blk [I 0, I 0, I 0, I 0, I 0, I 0, I 0, I 0] 55) :: (n1, blk [I 0, I 0, I 0, I 0, I 0, I 0, I 0, I 0] 55) :: (D1 ++ (D2 ++ (D3 ++ X)))) (B := C4) (xs := (List.replicate i false).flatMap encB) (news := [.bool false]) (fun X => perm_mid3 ((n4, blk [.bool false] 4) :: (n3, blk [.bool true] 4) :: (n2, blk [I 0, I 0, I 0, I 0, I 0, I 0, I 0, I 0] 55) :: (n1, blk [I 0, I 0, I 0, I 0, I 0, I 0, I 0, I 0] 55) :: D1) D2 D3 X) rfl rfl hO4 rfl (news_blk (b := n4) (List.Mem.head _)) (one1 (enc := encB) (fun _ => rfl) [false] false (by simp)) (by omega) (by simp only [maxLen]; omega) (by omega)) rfl rfl ?_
  rintro _ _ ⟨D4, hP4, _, rfl⟩
  obtain ⟨p4, q4, rfl, _⟩ := hP4.shape
  refine vdcs (mone rfl) (vst1 rfl rfl rfl rfl) rfl ?_
  refine vdq (mone rfl) (vfa rfl) rfl rfl ?_
  refine vdcs (mone rfl) (vst1 rfl rfl rfl rfl) rfl ?_
  refine vdq (mone rfl) (vfa rfl) rfl rfl ?_
  refine vdcs (mone rfl) (vst1 rfl rfl rfl rfl) rfl ?_
  refine vdq (mone rfl) (vfa rfl) rfl rfl ?_
  refine vdcs (mone rfl) (vst1 rfl rfl rfl rfl) rfl ?_
  refine vdend (appHO_of _ _) ?_
  refine vinblock ?_
  refine vregion ?_
  refine vone rfl (vxq (vmv rfl) rfl rfl ?_)
  refine vone rfl (vxq (vadd rfl rfl (by unfold InR; omega)) rfl rfl ?_)
  refine vone rfl (vxq (vas rfl) rfl rfl ?_)
  refine vnil ?_
  refine VRun.perm (H' := ((b3, blk [.slice p1 (i + 1) q1, .slice p2 (i + 1) q2, .slice p3 (i + 1) q3, .slice p4 (i + 1) q4, .slice (some ⟨b2, 0, Option.none⟩) 1 1] 33) :: (b2, blk [I 0, .string annB, I 0, I 6, I 10] 49) :: (b1, blk [.slice Option.none 0 0, .slice Option.none 0 0, .slice Option.none 0 0, .slice Option.none 0 0, .slice Option.none 0 0] 33) :: (D1 ++ (D2 ++ (D3 ++ (D4 ++ H))))) ++ [(n4, blk [.bool false] 4), (n3, blk [.bool true] 4), (n2, blk [I 0, I 0, I 0, I 0, I 0, I 0, I 0, I 0] 55), (n1, blk [I 0, I 0, I 0, I 0, I 0, I 0, I 0, I 0] 55)]) (pm8 [(b3, blk [.slice p1 (i + 1) q1, .slice p2 (i + 1) q2, .slice p3 (i + 1) q3, .slice p4 (i + 1) q4, .slice (some ⟨b2, 0, Option.none⟩) 1 1] 33), (b2, blk [I 0, .string annB, I 0, I 6, I 10] 49), (b1, blk [.slice Option.none 0 0, .slice Option.none 0 0, .slice Option.none 0 0, .slice Option.none 0 0, .slice Option.none 0 0] 33)] D1 D2 D3 D4 H [(n4, blk [.bool false] 4), (n3, blk [.bool true] 4), (n2, blk [I 0, I 0, I 0, I 0, I 0, I 0, I 0, I 0] 55), (n1, blk [I 0, I 0, I 0, I 0, I 0, I 0, I 0, I 0] 55)]) ?_
  refine VRun.sub (List.sublist_append_left _ _) ?_
  exact vback (IH (i + 1, p1, q1, p2, q2, p3, q3, p4, q4, D1, D2, D3, D4) ⟨by omega, by rw [rep_flat]; exact hP1, by rw [rep_flat]; exact hP2, by rw [rep_flat]; exact hP3, by rw [rep_flat]; exact hP4⟩ (by show (_ : Int).toNat < (_ : Int).toNat; omega)) ⟨rfl, rfl, rfl, rfl, True.intro⟩ sb2
 ·
  refine vexit (k' := _) rfl ?_
  refine vseq ?_
  refine vregion ?_
  refine vone rfl (vxq (vldn rfl rfl) rfl rfl ?_)
  refine vone rfl (vxs (vstn rfl rfl rfl rfl rfl) rfl ?_)
  refine vnil ?_
  refine vret (vr1 (H' := (b2, blk [I 0, .string annB, I 0, I 6, I 10] 49) :: (C1 ++ (C2 ++ (C3 ++ (C4 ++ H))))) Tryd.func30 rfl (.celln rfl rfl) sb2 ?_)
  (obtain rfl : n = (i : Int) := (by omega)); simp only [Int.toNat_natCast]; exact ⟨b2, o1, k1, o2, k2, o3, k3, o4, k4, C1 ++ (C2 ++ (C3 ++ C4)), (by simp only [scP, vSc, clSc, List.length_replicate, List.length_cons, List.length_nil]), (by simp only [List.append_assoc]), (OwnS.slo (enc := clR) hO1 clR_len (by decide) rfl (by simp)).appLB, ((OwnS.slo (enc := clR) hO2 clR_len (by decide) rfl (by simp)).appLB (B := C3 ++ C4)).sub (fun e he => List.mem_append_right _ he), (((OwnS.slo (enc := encB) hO3 encB_len (by decide) rfl (by simp)).appLB (B := C4)).sub (fun e he => List.mem_append_right _ he)).sub (fun e he => List.mem_append_right _ he), (((OwnS.slo (enc := encB) hO4 encB_len (by decide) rfl (by simp)).sub (fun e he => List.mem_append_right C3 he)).sub (fun e he => List.mem_append_right C2 he)).sub (fun e he => List.mem_append_right C1 he), (by obtain ⟨_, _, h1, h2⟩ := hO3.shape; cases h1; exact h2), (by obtain ⟨_, _, h1, h2⟩ := hO4.shape; cases h1; exact h2)⟩
end Go.Proofs.YtaplkoimhecacaaDoor
namespace Go.Proofs.YtaplkoimhecacaaDoor
open Go
set_option maxRecDepth 100000

theorem ev_sight : sightP (scP 8) annS = some ⟨⟨5, 10⟩, ⟨0, 7⟩, ⟨6, 14⟩, ⟨0, 10⟩⟩ := by kernel_rfl
theorem ev_risk : riskP numW (scP 8) = some [false, true, true, true, false, false, false, false] := by kernel_rfl
theorem small_zR : smallR zR := by
  refine ⟨by unfold zR Rg.ok; decide, by decide, by decide, by kernel_rfl⟩
theorem okW_num : okW numW := by unfold okW numW; decide
theorem name_ann : nameP annB := by
  refine ⟨by decide, fun j hj => ?_⟩
  have hj : j < 3 := hj
  have : j = 0 ∨ j = 1 ∨ j = 2 := by omega
  rcases this with rfl | rfl | rfl <;> exact .inl (by unfold letP; decide)
theorem okSc_scP {n : Nat} (hn : 1 ≤ n ∧ n ≤ 64) : okSc (scP n) := by
  refine ⟨by simpa [scP] using hn, by simp [scP], by simp [scP], by simp [scP], by simp [scP], ?_, ?_, ?_, ?_⟩
  · intro r hr; rw [(List.mem_replicate.1 hr).2]; exact small_zR
  · intro r hr; rw [(List.mem_replicate.1 hr).2]; exact small_zR
  · intro x hx
    rw [List.mem_singleton.1 hx]
    refine ⟨by simp [scP, annS]; omega, name_ann, by decide, .inl ⟨by decide, ?_⟩⟩
    unfold atB scP annS
    simp only [Int.toNat_zero]
    rw [List.getElem?_replicate, if_pos (by omega)]; rfl
  · intro i x y hx hy
    simp [scP] at hy
theorem chkS_scP : chkS (scP 8) = 0 := chkS_t (okSc_scP (by omega))
theorem both_num : ¬ bothE numW (chkS (scP 8)) ≠ 0 := by rw [chkS_scP]; unfold bothE; rw [if_pos (chkW_t okW_num)]; simp
theorem ev_danger : dangerE numW (scP 8) = ([false, true, true, true, false, false, false, false], 0) := danger_y both_num ev_risk
theorem ev_dang0 : ¬ (dangerE numW (scP 8)).2 ≠ 0 := by rw [ev_danger]; simp
def gNum : Lg := ⟨numW, scP 8, [false, true, true, true, false, false, false, false]⟩
theorem ev_starts : startsE numW (scP 8) = ([false, false, false, false, false, true, true, true], 0) := by
  rw [starts_y ev_dang0, ev_danger]
  exact congrArg (fun l => (l, (0 : Int))) (show startL gNum 8 = _ by kernel_rfl)
theorem ev_best : bestE numW (scP 8) = ([0, 0, 0, 0, 0, 1, 2, 3], 1, 0) := by
  rw [best_y ev_dang0, ev_danger]
  have h1 : bestF gNum 8 0 sta0 = [0, 0, 0, 0, 0, 1, 2, 3] := by kernel_rfl
  have h2 : mostF gNum 8 0 sta0 = 1 := by kernel_rfl
  show (bestF gNum 8 0 sta0, mostF gNum 8 0 sta0, (0 : Int)) = _
  rw [h1, h2]
theorem ev_judge : judgeE numW (scP 8) [0, 0, 0, 0, 1, 2, 3, 3] = (4, 3, 0) := by
  refine judge_y both_num (by decide) ev_dang0 ?_
  rw [ev_danger]
  show judgeF gNum 0 sta0 [0, 0, 0, 0, 1, 2, 3, 3] = _
  kernel_rfl
theorem ev_guard : guardE numW 20 1 = (4, 0) := by kernel_rfl
theorem ev_sighted : sightedE (scP 8) 0 = (⟨⟨5, 10⟩, ⟨0, 7⟩, ⟨6, 14⟩, ⟨0, 10⟩⟩, 0) := by
  rw [sightedE_x (x := annS) (by rw [chkS_scP]; simp) rfl (by omega), ev_sight]; rfl
theorem ev_track : trackE numW (scP 8) annB = (knL numW (scP 8) annB 8, whL numW (scP 8) annB 8, 0) := track_y both_num (by rw [show (ofS (scP 8) annB).sg.length = 1 by kernel_rfl]; decide) (by kernel_rfl)
theorem ev_kn : knL numW (scP 8) annB 8 = [true, true, true, true, false, false, false, false] := by kernel_rfl
theorem ev_wh0 : (whL numW (scP 8) annB 8)[0]? = some ⟨⟨5, 10⟩, ⟨0, 7⟩, ⟨6, 14⟩, ⟨0, 10⟩⟩ := by kernel_rfl
theorem ev_wh1 : (whL numW (scP 8) annB 8)[1]? = some ⟨⟨3, 12⟩, ⟨-2, 9⟩, ⟨4, 16⟩, ⟨-2, 12⟩⟩ := by kernel_rfl

end Go.Proofs.YtaplkoimhecacaaDoor
