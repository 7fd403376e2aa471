/-
  Parts of the proof: rules of the engine, walks of functions, plain Lean. No condition.
-/
import Derived.Test.YtoebpndlbldfcaaGreatDoorRows
import Derived.Test.YtoebpndlbldfcaaGreatDoorTie
import Derived.Test.YtoebpndlbldfcaaGreatDoorTd10
import Derived.Lib.LaidTab
import Derived.LaidSub
import Derived.ProofKit
import Derived.LaidMore
import Derived.Stop.Joined
namespace Go.Proofs.YtoebpndlbldfcaaGreatDoor
open Go
set_option maxRecDepth 100000
attribute [local irreducible] tightP hullP rootP farP rows endsOf valM ringF unF addR
def gdR (l : List Int) (p q : Int) : Prop := rgOk 16777216 l p q ∧ allB 1073741824 (ringF l p.toNat q l.length)
theorem addR_y {q : Int} {M : List Int} {p : Int} {t : Nat} {y : Int} (hp : 0 ≤ p) (h : (t : Int) ≥ p) (hy : M[((t : Int) - p).toNat]? = some y) : addR q M p.toNat t = q * y / 64 := by
  unfold addR
  rw [if_pos (by omega), show ((t - p.toNat : Nat) : Int) = ((((t : Int) - p).toNat : Nat) : Int) by omega, valM_of hy]
theorem addR_n {q : Int} {M : List Int} {p : Int} {t : Nat} (h : ¬ (t : Int) ≥ p) : addR q M p.toNat t = 0 := by
  unfold addR; rw [if_neg (by omega)]
theorem ringF_n (l : List Int) (p : Nat) (q : Int) (t : Nat) : ringF l p q (t + 1) = ringF l p q t ++ [valM l (t : Int) + addR q (ringF l p q t) p t] := by rw [ringF]
theorem unF_n (l : List Int) (p : Nat) (q : Int) (t : Nat) : unF l p q (t + 1) = unF l p q t ++ [valM l (t : Int) - addR q l p t] := by rw [unF]
theorem ringF_0 (l : List Int) (p : Nat) (q : Int) : ringF l p q 0 = [] := by rw [ringF]
theorem unF_0 (l : List Int) (p : Nat) (q : Int) : unF l p q 0 = [] := by rw [unF]
theorem allB_at {m : Int} {l : List Int} {i : Nat} {z : Int} (h : allB m l) (hz : l[i]? = some z) : -m ≤ z ∧ z ≤ m := h z (List.mem_of_getElem? hz)
theorem div_bd {a m : Int} (h : -(64 * m) ≤ a ∧ a ≤ 64 * m) : -m ≤ a / 64 ∧ a / 64 ≤ m := by omega
theorem d_Ring (l : List Int) (oa : Option Addr) (c : Nat) (H : Heap) [hsl : SlO H oa 1 encI l] (hll : l.length ≤ 9223372036854775807) (p q : Int) : VCall Tryz.prog 4 [.slice oa l.length c, I p, I q].toArray H (fun o H' => ∃ v, o = .val v ∧ ∃ B, H' = B ++ H ∧ ((¬ gdR l p q ∧ ∃ e, e ≠ 0 ∧ v = tup [.slice Option.none 0 0, I e]) ∨ (gdR l p q ∧ ∃ oo co, v = tup [.slice oo l.length co, I 0] ∧ SlO B oo 1 encI (ringF l p.toNat q l.length)))) := by
 refine CV 46 Tryz.func4 ?_
 refine KK2 (QA ?_)
 refine QA (vnil (vseq (KK2 ?_)))
 refine QM ?_
 refine QM ?_
 refine QM ?_
 refine QQ (vcq rfl rfl rfl (q_ringing 16777216 (by unfold InR; omega) l oa c _ hll p q)) rfl ?_
 refine QQ (vnotd rfl) rfl (vnil ?_)
 refine vcondd rfl (fun h15 => ?_) (fun h15 => ?_)
 ·
  refine KK2 (QA ?_)
  refine QA (vnil ?_)
  refine vret (vr2 (H' := H) Tryz.func4 rfl (.tmp rfl) (.tmp rfl) sb2 ?_)
  exact ⟨_, rfl, [], rfl, .inl ⟨fun e => h15 e.1, 2, by decide, rfl⟩⟩
 ·
  obtain ⟨hk1, hk2, hk3, hk4⟩ := Classical.not_not.1 h15
  refine vskip (KK2 (QA (vnil (vseq (KK2 ?_)))))
  refine QM ?_
  refine QQ (vlen rfl) rfl ?_
  refine QM (vnil (vblock ?_))
  refine vwhile (σ := Nat × Option Addr × Nat × Heap) (fun ⟨t, oo, co, C⟩ => l.length - t) (fun ⟨t, oo, co, C⟩ => [(0, .slice oa l.length c), (1, I p), (2, I q), (8, .slice oo t co), (16, .slice oa l.length c), (17, I (l.length : Int)), (18, I (t : Int))]) (fun ⟨t, oo, co, C⟩ => C ++ H) (fun ⟨t, oo, co, C⟩ => t ≤ l.length ∧ OwnS 3 1 (.slice oo t co) t ((ringF l p.toNat q t).flatMap encI) C ∧ allB 1073741824 (ringF l p.toNat q t)) (0, Option.none, 0, []) ⟨Nat.zero_le _, by rw [ringF_0]; exact OwnS.nil, by rw [ringF_0]; intro n hn; cases hn⟩ ⟨rfl, rfl, rfl, rfl, rfl, rfl, rfl, True.intro⟩ (.refl _) ?_
  rintro ⟨t, oo, co, C⟩ ⟨ht, hown, hall⟩ IH
  change VRun _ _ _ _ _ [(0, .slice oa l.length c), (1, I p), (2, I q), (8, .slice oo t co), (16, .slice oa l.length c), (17, I (l.length : Int)), (18, I (t : Int))] _ (C ++ H) _
  haveI hsC : SlO C oo 1 encI (ringF l p.toNat q t) := OwnS.slo (enc := encI) (l := ringF l p.toNat q t) hown encI_len (by decide) rfl (ring_len l p.toNat q t)
  refine KK2 (QS (vnil (vseq ?_)))
  refine vcondd rfl (fun h19 => ?_) (fun h19 => ?_)
  ·
   obtain ⟨z, hz⟩ := get_of_lt l (i := t) (by omega)
   have hzb := allB_at hk4 hz
   refine vskip (vseq (vblock (KK2 (QM ?_))))
   refine QQ (visg (enc := encI) rfl rfl (by omega) hz) rfl ?_
   refine QQ (vldS1 (enc := encI) rfl hz rfl) rfl ?_
   refine QA ?_
   refine QA (vnil (vseq (KK2 ?_)))
   refine QM ?_
   refine QM ?_
   refine QQ (vgeq rfl rfl) rfl (vnil ?_)
   refine vcondd rfl (fun h25 => ?_) (fun h25 => ?_)
   ·
    have hrl := ring_len l p.toNat q t
    obtain ⟨y, hy⟩ := get_of_lt (ringF l p.toNat q t) (i := ((t : Int) - p).toNat) (by omega)
    have hyb := allB_at hall hy
    have hmq := mul_q (q := q) (x := y) (m := 1073741824) (by omega) (by decide) (by omega)
    have hdv := div_bd hmq
    have hval : z + q * y / 64 = valM l (t : Int) + addR q (ringF l p.toNat q t) p.toNat t := by rw [addR_y (by omega) h25 hy, valM_of hz]
    refine vregion (QM ?_)
    refine QM ?_
    refine QM ?_
    refine QM ?_
    refine QM ?_
    refine QQ (vsub rfl rfl (by unfold InR; omega)) rfl ?_
    refine QQ (visg (enc := encI) rfl rfl (by omega) hy) rfl ?_
    refine QQ (vldS1 (enc := encI) rfl hy rfl) rfl ?_
    refine QQ (vmul rfl rfl (by unfold InR; omega)) rfl ?_
    refine QQ (vcp rfl rfl rfl (c_vdown _)) rfl ?_
    refine QQ (vadd rfl rfl (by unfold InR; omega)) rfl ?_
    refine QA (vnil (vseq (KK2 ?_)))
    refine QM ?_
    refine QQ (vcp rfl rfl rfl (c_vwithin _ _ _)) rfl ?_
    refine QQ (vnotd rfl) rfl (vnil ?_)
    refine vcondd rfl (fun h39 => ?_) (fun h39 => ?_)
    ·
     refine KK2 (QA ?_)
     refine QA (vnil ?_)
     refine vret (vr2 (H' := H) Tryz.func4 rfl (.tmp rfl) (.tmp rfl) sb2 ?_)
     exact ⟨_, rfl, [], rfl, .inl ⟨fun e => ring_bad (m := 1073741824) (t := t) (by omega) (by rw [← hval]; omega) e.2, 7, by decide, rfl⟩⟩
    ·
     refine vskip (vregion (QM ?_))
     refine QM ?_
     refine vone rfl (vxg (vbs rfl rfl rfl rfl rfl rfl) rfl rfl ?_)
     rintro _ _ ⟨n1, rfl, rfl⟩
     refine vone rfl (vxg (vappF (F := fun X => (n1, blk [I (z + q * y / 64)] 3) :: (X ++ H)) (H0 := (n1, blk [I (z + q * y / 64)] 3) :: H) (B := C) (xs := (ringF l p.toNat q t).flatMap encI) (a := ⟨n1, 0, Option.none⟩) (m := 1) (c := 1) (size := 1) (bytes := 8) (news := [I (z + q * y / 64)]) (fun X => perm_mid [(n1, blk [I (z + q * y / 64)] 3)] X H) rfl rfl hown rfl (news_blk (b := n1) (List.Mem.head _)) (fun u hu => by rw [List.mem_singleton.1 hu]; rfl) (by omega) (by simp only [maxLen]; omega) (by omega)) rfl rfl ?_)
     rintro _ _ ⟨C2, hown2, _, rfl⟩
     obtain ⟨oo2, co2, rfl, _⟩ := hown2.shape
     refine QA (vnil (vinblock (vregion ?_)))
     refine QQ (vadd rfl rfl (by unfold InR; omega)) rfl ?_
     refine QM (vnil ?_)
     exact vback (IH (t + 1, oo2, co2, C2) ⟨by omega, by rw [ringF_n, ← hval, List.flatMap_append]; exact hown2, by rw [ringF_n]; exact allB_snoc hall (by rw [← hval]; omega)⟩ (by show _ - (t + 1) < _ - t; omega)) ⟨rfl, rfl, rfl, rfl, rfl, rfl, rfl, True.intro⟩ (.cons _ (.refl _))
   ·
    have hval : z = valM l (t : Int) + addR q (ringF l p.toNat q t) p.toNat t := by rw [addR_n h25, valM_of hz, Int.add_zero]
    refine vskip (vseq (KK2 (QM ?_)))
    refine QQ (vcp rfl rfl rfl (c_vwithin _ _ _)) rfl ?_
    refine QQ (vnotd rfl) rfl (vnil ?_)
    refine vcondd rfl (fun h39 => ?_) (fun h39 => ?_)
    ·
     refine KK2 (QA ?_)
     refine QA (vnil ?_)
     refine vret (vr2 (H' := H) Tryz.func4 rfl (.tmp rfl) (.tmp rfl) sb2 ?_)
     exact ⟨_, rfl, [], rfl, .inl ⟨fun e => ring_bad (m := 1073741824) (t := t) (by omega) (by rw [← hval]; omega) e.2, 7, by decide, rfl⟩⟩
    ·
     refine vskip (vregion (QM ?_))
     refine QM ?_
     refine vone rfl (vxg (vbs rfl rfl rfl rfl rfl rfl) rfl rfl ?_)
     rintro _ _ ⟨n1, rfl, rfl⟩
     refine vone rfl (vxg (vappF (F := fun X => (n1, blk [I (z)] 3) :: (X ++ H)) (H0 := (n1, blk [I (z)] 3) :: H) (B := C) (xs := (ringF l p.toNat q t).flatMap encI) (a := ⟨n1, 0, Option.none⟩) (m := 1) (c := 1) (size := 1) (bytes := 8) (news := [I (z)]) (fun X => perm_mid [(n1, blk [I (z)] 3)] X H) rfl rfl hown rfl (news_blk (b := n1) (List.Mem.head _)) (fun u hu => by rw [List.mem_singleton.1 hu]; rfl) (by omega) (by simp only [maxLen]; omega) (by omega)) rfl rfl ?_)
     rintro _ _ ⟨C2, hown2, _, rfl⟩
     obtain ⟨oo2, co2, rfl, _⟩ := hown2.shape
     refine QA (vnil (vinblock (vregion ?_)))
     refine QQ (vadd rfl rfl (by unfold InR; omega)) rfl ?_
     refine QM (vnil ?_)
     exact vback (IH (t + 1, oo2, co2, C2) ⟨by omega, by rw [ringF_n, ← hval, List.flatMap_append]; exact hown2, by rw [ringF_n]; exact allB_snoc hall (by rw [← hval]; omega)⟩ (by show _ - (t + 1) < _ - t; omega)) ⟨rfl, rfl, rfl, rfl, rfl, rfl, rfl, True.intro⟩ (.cons _ (.refl _))
  ·
   refine vexit (k' := _) rfl ?_
   refine KK2 (QM ?_)
   refine QA ?_
   refine QA (vnil ?_)
   refine vret (vr2 (H' := C ++ H) Tryz.func4 rfl (.tmp rfl) (.tmp rfl) sb2 ?_)
   (have hil : t = l.length := (by omega); subst hil; exact ⟨_, rfl, C, rfl, .inr ⟨⟨⟨hk1, hk2, hk3, hk4⟩, hall⟩, oo, co, rfl, hsC⟩⟩)
theorem d_Unring (l : List Int) (oa : Option Addr) (c : Nat) (H : Heap) [hsl : SlO H oa 1 encI l] (hll : l.length ≤ 9223372036854775807) (p q : Int) : VCall Tryz.prog 7 [.slice oa l.length c, I p, I q].toArray H (fun o H' => ∃ v, o = .val v ∧ ∃ B, H' = B ++ H ∧ ((¬ rgOk 1073741824 l p q ∧ ∃ e, e ≠ 0 ∧ v = tup [.slice Option.none 0 0, I e]) ∨ (rgOk 1073741824 l p q ∧ ∃ oo co, v = tup [.slice oo l.length co, I 0] ∧ SlO B oo 1 encI (unF l p.toNat q l.length)))) := by
 refine CV 43 Tryz.func7 ?_
 refine KK2 (QA ?_)
 refine QA (vnil (vseq (KK2 ?_)))
 refine QM ?_
 refine QM ?_
 refine QM ?_
 refine QQ (vcq rfl rfl rfl (q_ringing 1073741824 (by unfold InR; omega) l oa c _ hll p q)) rfl ?_
 refine QQ (vnotd rfl) rfl (vnil ?_)
 refine vcondd rfl (fun h15 => ?_) (fun h15 => ?_)
 ·
  refine KK2 (QA ?_)
  refine QA (vnil ?_)
  refine vret (vr2 (H' := H) Tryz.func7 rfl (.tmp rfl) (.tmp rfl) sb2 ?_)
  exact ⟨_, rfl, [], rfl, .inl ⟨h15, 2, by decide, rfl⟩⟩
 ·
  obtain ⟨hk1, hk2, hk3, hk4⟩ := Classical.not_not.1 h15
  refine vskip (KK2 (QA (vnil (vseq (KK2 ?_)))))
  refine QM ?_
  refine QQ (vlen rfl) rfl ?_
  refine QM (vnil (vblock ?_))
  refine vwhile (σ := Nat × Option Addr × Nat × Heap) (fun ⟨t, oo, co, C⟩ => l.length - t) (fun ⟨t, oo, co, C⟩ => [(0, .slice oa l.length c), (1, I p), (2, I q), (8, .slice oo t co), (16, .slice oa l.length c), (17, I (l.length : Int)), (18, I (t : Int))]) (fun ⟨t, oo, co, C⟩ => C ++ H) (fun ⟨t, oo, co, C⟩ => t ≤ l.length ∧ OwnS 3 1 (.slice oo t co) t ((unF l p.toNat q t).flatMap encI) C) (0, Option.none, 0, []) ⟨Nat.zero_le _, by rw [unF_0]; exact OwnS.nil⟩ ⟨rfl, rfl, rfl, rfl, rfl, rfl, rfl, True.intro⟩ (.refl _) ?_
  rintro ⟨t, oo, co, C⟩ ⟨ht, hown⟩ IH
  change VRun _ _ _ _ _ [(0, .slice oa l.length c), (1, I p), (2, I q), (8, .slice oo t co), (16, .slice oa l.length c), (17, I (l.length : Int)), (18, I (t : Int))] _ (C ++ H) _
  refine KK2 (QS (vnil (vseq ?_)))
  refine vcondd rfl (fun h19 => ?_) (fun h19 => ?_)
  ·
   obtain ⟨z, hz⟩ := get_of_lt l (i := t) (by omega)
   have hzb := allB_at hk4 hz
   refine vskip (vseq (vblock (KK2 (QM ?_))))
   refine QQ (visg (enc := encI) rfl rfl (by omega) hz) rfl ?_
   refine QQ (vldS1 (enc := encI) rfl hz rfl) rfl ?_
   refine QA ?_
   refine QA (vnil (vseq (KK2 ?_)))
   refine QM ?_
   refine QM ?_
   refine QQ (vgeq rfl rfl) rfl (vnil ?_)
   refine vcondd rfl (fun h25 => ?_) (fun h25 => ?_)
   ·
    obtain ⟨y, hy⟩ := get_of_lt l (i := ((t : Int) - p).toNat) (by omega)
    have hyb := allB_at hk4 hy
    have hmq := mul_q (q := q) (x := y) (m := 1073741824) (by omega) (by decide) (by omega)
    have hdv := div_bd hmq
    have hval : z - q * y / 64 = valM l (t : Int) - addR q l p.toNat t := by rw [addR_y (by omega) h25 hy, valM_of hz]
    refine vregion (QM ?_)
    refine QM ?_
    refine QM ?_
    refine QM ?_
    refine QM ?_
    refine QQ (vsub rfl rfl (by unfold InR; omega)) rfl ?_
    refine QQ (visg (enc := encI) rfl rfl (by omega) hy) rfl ?_
    refine QQ (vldS1 (enc := encI) rfl hy rfl) rfl ?_
    refine QQ (vmul rfl rfl (by unfold InR; omega)) rfl ?_
    refine QQ (vcp rfl rfl rfl (c_vdown _)) rfl ?_
    refine QQ (vsub rfl rfl (by unfold InR; omega)) rfl ?_
    refine QA (vnil (vregion ?_))
    refine QM ?_
    refine QM ?_
    refine vone rfl (vxg (vbs rfl rfl rfl rfl rfl rfl) rfl rfl ?_)
    rintro _ _ ⟨n1, rfl, rfl⟩
    refine vone rfl (vxg (vappF (F := fun X => (n1, blk [I (z - q * y / 64)] 3) :: (X ++ H)) (H0 := (n1, blk [I (z - q * y / 64)] 3) :: H) (B := C) (xs := (unF l p.toNat q t).flatMap encI) (a := ⟨n1, 0, Option.none⟩) (m := 1) (c := 1) (size := 1) (bytes := 8) (news := [I (z - q * y / 64)]) (fun X => perm_mid [(n1, blk [I (z - q * y / 64)] 3)] X H) rfl rfl hown rfl (news_blk (b := n1) (List.Mem.head _)) (fun u hu => by rw [List.mem_singleton.1 hu]; rfl) (by omega) (by simp only [maxLen]; omega) (by omega)) rfl rfl ?_)
    rintro _ _ ⟨C2, hown2, _, rfl⟩
    obtain ⟨oo2, co2, rfl, _⟩ := hown2.shape
    refine QA (vnil (vinblock (vregion ?_)))
    refine QQ (vadd rfl rfl (by unfold InR; omega)) rfl ?_
    refine QM (vnil ?_)
    exact vback (IH (t + 1, oo2, co2, C2) ⟨by omega, by rw [unF_n, ← hval, List.flatMap_append]; exact hown2⟩ (by show _ - (t + 1) < _ - t; omega)) ⟨rfl, rfl, rfl, rfl, rfl, rfl, rfl, True.intro⟩ (.cons _ (.refl _))
   ·
    have hval : z = valM l (t : Int) - addR q l p.toNat t := by rw [addR_n h25, valM_of hz, Int.sub_zero]
    refine vskip (vregion (QM ?_))
    refine QM ?_
    refine vone rfl (vxg (vbs rfl rfl rfl rfl rfl rfl) rfl rfl ?_)
    rintro _ _ ⟨n1, rfl, rfl⟩
    refine vone rfl (vxg (vappF (F := fun X => (n1, blk [I (z)] 3) :: (X ++ H)) (H0 := (n1, blk [I (z)] 3) :: H) (B := C) (xs := (unF l p.toNat q t).flatMap encI) (a := ⟨n1, 0, Option.none⟩) (m := 1) (c := 1) (size := 1) (bytes := 8) (news := [I (z)]) (fun X => perm_mid [(n1, blk [I (z)] 3)] X H) rfl rfl hown rfl (news_blk (b := n1) (List.Mem.head _)) (fun u hu => by rw [List.mem_singleton.1 hu]; rfl) (by omega) (by simp only [maxLen]; omega) (by omega)) rfl rfl ?_)
    rintro _ _ ⟨C2, hown2, _, rfl⟩
    obtain ⟨oo2, co2, rfl, _⟩ := hown2.shape
    refine QA (vnil (vinblock (vregion ?_)))
    refine QQ (vadd rfl rfl (by unfold InR; omega)) rfl ?_
    refine QM (vnil ?_)
    exact vback (IH (t + 1, oo2, co2, C2) ⟨by omega, by rw [unF_n, ← hval, List.flatMap_append]; exact hown2⟩ (by show _ - (t + 1) < _ - t; omega)) ⟨rfl, rfl, rfl, rfl, rfl, rfl, rfl, True.intro⟩ (.cons _ (.refl _))
  ·
   refine vexit (k' := _) rfl ?_
   refine KK2 (QM ?_)
   refine QA ?_
   refine QA (vnil ?_)
   refine vret (vr2 (H' := C ++ H) Tryz.func7 rfl (.tmp rfl) (.tmp rfl) sb2 ?_)
   (have hil : t = l.length := (by omega); subst hil; exact ⟨_, rfl, C, rfl, .inr ⟨⟨hk1, hk2, hk3, hk4⟩, oo, co, rfl, OwnS.slo (enc := encI) (l := unF l p.toNat q l.length) hown encI_len (by decide) rfl (un_len l p.toNat q l.length)⟩⟩)
end Go.Proofs.YtoebpndlbldfcaaGreatDoor
namespace Go.Proofs.YtoebpndlbldfcaaGreatDoor
open Go
set_option maxRecDepth 100000
attribute [local irreducible] tightP hullP rootP farP rows endsOf valM ringF unF addR
def gdW (l : List Int) (p q : Int) : Prop := stOk l p q ∧ allB 65536 (ringF l p.toNat q l.length)
def mixL (A l : List Int) (t : Nat) : List Int := A ++ l.drop t
theorem mix_len {A l : List Int} {t : Nat} (h : A.length = t) (ht : t ≤ l.length) : (mixL A l t).length = l.length := by unfold mixL; simp; omega
theorem mix_lo {A l : List Int} {t i : Nat} (h : A.length = t) (hi : i < t) : valM (mixL A l t) (i : Int) = valM A (i : Int) := by unfold mixL; exact valM_app (by omega)
theorem mix_hi {A l : List Int} {t i : Nat} (h : A.length = t) (hi : t ≤ i) : valM (mixL A l t) (i : Int) = valM l (i : Int) := by
  unfold mixL valM
  rw [Int.toNat_natCast, List.getElem?_append_right (by omega), List.getElem?_drop, show t + (i - A.length) = i by omega]
theorem mix_set {A l : List Int} {t : Nat} {x : Int} (h : A.length = t) (ht : t < l.length) : (mixL A l t).set t x = mixL (A ++ [x]) l (t + 1) := by
  unfold mixL
  rw [List.set_append_right _ _ (by omega), show t - A.length = 0 by omega]
  have e := List.drop_eq_getElem_cons ht
  rw [e, List.set_cons_zero]
  simp
theorem mix_keep {A l : List Int} {t : Nat} {x : Int} (ht : t < l.length) (hx : x = valM l (t : Int)) : mixL A l t = mixL (A ++ [x]) l (t + 1) := by
  unfold mixL
  obtain ⟨z, hz⟩ := get_of_lt l ht
  rw [hx, valM_of hz, List.drop_eq_getElem_cons ht]
  have := List.getElem?_eq_getElem ht
  rw [hz] at this
  cases this
  simp
theorem mix_all {A l : List Int} (h : A.length = l.length) : mixL A l l.length = A := by unfold mixL; simp
theorem mix_none (l : List Int) : mixL [] l 0 = l := by unfold mixL; simp
theorem addR_v {q : Int} {M : List Int} {p : Int} {t : Nat} (hp : 0 ≤ p) (h : (t : Int) ≥ p) : addR q M p.toNat t = q * valM M ((t : Int) - p) / 64 := by
  unfold addR
  rw [if_pos (by omega), show ((t - p.toNat : Nat) : Int) = (t : Int) - p by omega]
theorem un_low {l : List Int} {p : Nat} {q : Int} : ∀ {t : Nat}, t ≤ p → t ≤ l.length → unF l p q t = l.take t
  | 0, _, _ => by rw [unF_0]; rfl
  | t + 1, h1, h2 => by
    obtain ⟨z, hz⟩ := get_of_lt l (show t < l.length by omega)
    rw [unF_n, un_low (by omega) (by omega), take_succ_of hz, valM_of hz]
    have : addR q l p t = 0 := by unfold addR; rw [if_neg (by omega)]
    rw [this, Int.sub_zero]
theorem d_With (l : List Int) (oa : Option Addr) (c : Nat) (H : Heap) [hsl : SlO H oa 1 encI l] (hll : l.length ≤ 9223372036854775807) (p q : Int) : VCall Tryz.prog 5 [.slice oa l.length c, I p, I q].toArray H (fun o H' => ∃ v, o = .val v ∧ ∃ B, H' = B ++ H ∧ ((¬ gdW l p q ∧ ∃ e, e ≠ 0 ∧ v = tup [.slice Option.none 0 0, I e]) ∨ (gdW l p q ∧ ∃ oo co, v = tup [.slice oo l.length co, I 0] ∧ SlO B oo 1 encI (ringF l p.toNat q l.length)))) := by
 refine CV 54 Tryz.func5 ?_
 refine KK2 (QA ?_)
 refine QA (vnil (vseq (KK2 ?_)))
 refine QM ?_
 refine QQ (vcq rfl rfl rfl (q_stnumbers l oa c _ hll)) rfl ?_
 refine QQ (vnotd rfl) rfl (vnil ?_)
 refine vcondd rfl (fun h12 => ?_) (fun h12 => ?_)
 ·
  refine KK2 (QA ?_)
  refine QA (vnil ?_)
  refine vret (vr2 (H' := H) Tryz.func5 rfl (.tmp rfl) (.tmp rfl) sb2 ?_)
  exact ⟨_, rfl, [], rfl, .inl ⟨fun e => h12 ⟨e.1.1, e.1.2.1⟩, 3, by decide, rfl⟩⟩
 ·
  obtain ⟨hk1, hk2⟩ := Classical.not_not.1 h12
  refine vskip (vseq (KK2 (QM ?_)))
  refine QQ (vcp rfl rfl rfl (c_stwithin _ _ _)) rfl ?_
  refine QQ (vnotd rfl) rfl ?_
  refine QM ?_
  refine vsplitd (d := 16) rfl (fun h16 => ?_) (fun h16 => ?_)
  ·
   refine NO3 ?_
   refine QT (vnil ?_)
   refine vcondt rfl (KK2 (QA ?_))
   refine QA (vnil ?_)
   refine vret (vr2 (H' := H) Tryz.func5 rfl (.tmp rfl) (.tmp rfl) sb2 ?_)
   exact ⟨_, rfl, [], rfl, .inl ⟨fun e => by have := e.1.2.2; omega, 95, by decide, rfl⟩⟩
  ·
   refine YM ?_
   refine YY (vcp rfl rfl rfl (c_repeats _)) rfl ?_
   refine YY (vnotd rfl) rfl ?_
   refine QU (vnil ?_)
   refine vcondd rfl (fun h20 => ?_) (fun h20 => ?_)
   ·
    refine KK2 (QA ?_)
    refine QA (vnil ?_)
    refine vret (vr2 (H' := H) Tryz.func5 rfl (.tmp rfl) (.tmp rfl) sb2 ?_)
    exact ⟨_, rfl, [], rfl, .inl ⟨fun e => by have := e.1.2.2; omega, 95, by decide, rfl⟩⟩
   ·
    have hk4 : stOk l p q := ⟨hk1, hk2, by omega, by omega⟩
    refine vskip (KK2 (QM ?_))
    refine vone rfl (vxg (vcg (R := fun v H' => ∃ gb rest co, v = .slice (some ⟨gb, 0, Option.none⟩) l.length co ∧ H' = (gb, blk (clI l ++ rest) 3) :: H) rfl rfl rfl (d_CloneI l oa _ c rfl (by omega) H) (fun o H' ⟨v, e1, B, e2, oa', c', e3, e4⟩ => by obtain ⟨g, rest, h1, h2⟩ := own_list e4 (by omega); subst h1; subst h2; exact ⟨_, e1, g, rest, c', e3, e2⟩)) rfl rfl ?_)
    rintro _ _ ⟨gb, rest, co, rfl, rfl⟩
    refine QA (vnil (vseq (KK2 ?_)))
    refine QM ?_
    refine QQ (vlen rfl) rfl ?_
    refine QM (vnil (vblock ?_))
    refine vwhile (σ := Nat × List Int) (fun ⟨t, K⟩ => l.length - t) (fun ⟨t, K⟩ => [(1, I p), (2, I q), (8, .slice (some ⟨gb, 0, Option.none⟩) l.length co), (23, .slice (some ⟨gb, 0, Option.none⟩) l.length co), (24, I (l.length : Int)), (25, I (t : Int))]) (fun ⟨t, K⟩ => (gb, blk (clI K ++ rest) 3) :: H) (fun ⟨t, K⟩ => t ≤ l.length ∧ K = mixL (ringF l p.toNat q t) l t ∧ allB 65536 (ringF l p.toNat q t)) (0, l) ⟨Nat.zero_le _, by rw [ringF_0]; exact (mix_none l).symm, by rw [ringF_0]; intro n hn; cases hn⟩ ⟨rfl, rfl, rfl, rfl, rfl, rfl, True.intro⟩ (.refl _) ?_
    rintro ⟨t, K⟩ ⟨ht, hK, hall⟩ IH
    change VRun _ _ _ _ _ [(1, I p), (2, I q), (8, .slice (some ⟨gb, 0, Option.none⟩) l.length co), (23, .slice (some ⟨gb, 0, Option.none⟩) l.length co), (24, I (l.length : Int)), (25, I (t : Int))] _ ((gb, blk (clI K ++ rest) 3) :: H) _
    subst hK
    refine KK2 (QS (vnil (vseq ?_)))
    refine vcondd rfl (fun h26 => ?_) (fun h26 => ?_)
    ·
     obtain ⟨z, hz⟩ := get_of_lt l (i := t) (by omega)
     have hzb := allB_at hk2 hz
     have hrl := ring_len l p.toNat q t
     have hrl2 := ring_len l p.toNat q (t + 1)
     have hml := mix_len (A := ringF l p.toNat q t) (l := l) hrl ht
     have hml2 := mix_len (A := ringF l p.toNat q (t + 1)) (l := l) hrl2 (by omega)
     have hnew : valM (mixL (ringF l p.toNat q (t + 1)) l (t + 1)) (t : Int) = valM l (t : Int) + addR q (ringF l p.toNat q t) p.toNat t := by rw [mix_lo hrl2 (Nat.lt_succ_self t), ring_new]
     refine vskip (vseq (vblock (KK2 (QM ?_))))
     refine QA (vnil (vseq (KK2 ?_)))
     refine QM ?_
     refine QM ?_
     refine QQ (vgeq rfl rfl) rfl (vnil ?_)
     refine vcondd rfl (fun h30 => ?_) (fun h30 => ?_)
     ·
      have hm1 : valM (mixL (ringF l p.toNat q t) l t) (t : Int) = z := by rw [mix_hi hrl (Nat.le_refl _), valM_of hz]
      have hm2 : valM (mixL (ringF l p.toNat q t) l t) ((t : Int) - p) = valM (ringF l p.toNat q t) ((t : Int) - p) := by have := mix_lo (A := ringF l p.toNat q t) (l := l) (t := t) (i := ((t : Int) - p).toNat) hrl (by omega); rwa [show ((((t : Int) - p).toNat : Nat) : Int) = (t : Int) - p by omega] at this
      have hyb := allB_val hall (by decide) ((t : Int) - p)
      rw [← hm2] at hyb
      have hmq := mul_q (q := q) (x := valM (mixL (ringF l p.toNat q t) l t) ((t : Int) - p)) (m := 65536) (by omega) (by decide) (by omega)
      have hdv := div_bd hmq
      have hval : valM (mixL (ringF l p.toNat q t) l t) (t : Int) + q * valM (mixL (ringF l p.toNat q t) l t) ((t : Int) - p) / 64 = valM l (t : Int) + addR q (ringF l p.toNat q t) p.toNat t := by rw [hm1, hm2, addR_v (by omega) h30, valM_of hz]
      have hset : (mixL (ringF l p.toNat q t) l t).set (t : Int).toNat (valM (mixL (ringF l p.toNat q t) l t) (t : Int) + q * valM (mixL (ringF l p.toNat q t) l t) ((t : Int) - p) / 64) = mixL (ringF l p.toNat q (t + 1)) l (t + 1) := by rw [hval, Int.toNat_natCast, ringF_n]; exact mix_set hrl (by omega)
      refine vdrawP (G0 := [(gb, blk (clI (mixL (ringF l p.toNat q t) l t) ++ rest) 3)]) (H0 := H) (.refl _) [(.q, 0), (.q, 1), (.q, 2), (.q, 4), (.q, 5), (.q, 6), (.q, 7), (.q, 8), (.q, 9), (.n, 3), (.n, 10), (.q, 11), (.q, 12), (.q, 13), (.q, 14), (.s, 15)] Tryz.mixed (by kernel_rfl) (allocOk_of _ (by kernel_rfl)) ?_
      refine DM ?_
      refine DM ?_
      refine DD (vis rfl rfl (by omega)) rfl ?_
      refine DM ?_
      refine DM ?_
      refine DM ?_
      refine DM ?_
      refine DD (vsub rfl rfl (by unfold InR; omega)) rfl ?_
      refine DD (vis rfl rfl (by omega)) rfl ?_
      refine vdn rfl (mone rfl) (vld1 rfl (nth_R (by omega))) rfl rfl ?_
      refine vdn rfl (mone rfl) (vld1 rfl (nth_R (by omega))) rfl rfl ?_
      refine DD (vmul rfl rfl (by unfold InR; omega)) rfl ?_
      refine DD (vcp rfl rfl rfl (c_sdown _ (by unfold InR; omega))) rfl ?_
      refine DD (vadd rfl rfl (by unfold InR; omega)) rfl ?_
      refine DD (vis rfl rfl (by omega)) rfl ?_
      refine vds (mone rfl) (vst1 (cs' := clI ((mixL (ringF l p.toNat q t) l t).set (t : Int).toNat (valM (mixL (ringF l p.toNat q t) l t) (t : Int) + q * valM (mixL (ringF l p.toNat q t) l t) ((t : Int) - p) / 64)) ++ rest) rfl rfl rfl (put_R _ (by omega))) rfl ?_
      rw [hset]
      refine vdend rfl (KK2 (QM ?_))
      refine QM ?_
      refine QQ (vis rfl rfl (by omega)) rfl ?_
      refine QQ (vld1 (v := I (valM l (t : Int) + addR q (ringF l p.toNat q t) p.toNat t)) rfl ((nth_R (by omega)).trans (by rw [hnew]))) rfl ?_
      refine QQ (vcp rfl rfl rfl (c_stwithin _ _ _)) rfl ?_
      refine QQ (vnotd rfl) rfl (vnil ?_)
      refine vcondd rfl (fun h51 => ?_) (fun h51 => ?_)
      ·
       refine KK2 (QA ?_)
       refine QA (vnil ?_)
       refine vret (vr2 (H' := H) Tryz.func5 rfl (.tmp rfl) (.tmp rfl) sb2 ?_)
       exact ⟨_, rfl, [], rfl, .inl ⟨fun e => ring_bad (m := 65536) (t := t) (by omega) h51 e.2, 7, by decide, rfl⟩⟩
      ·
       refine vskip (vinblock (vregion (QQ (vadd rfl rfl (by unfold InR; omega)) rfl ?_)))
       refine QM (vnil ?_)
       exact vback (IH (t + 1, mixL (ringF l p.toNat q (t + 1)) l (t + 1)) ⟨by omega, rfl, by rw [ringF_n]; exact allB_snoc hall (Classical.not_not.1 h51)⟩ (by show _ - (t + 1) < _ - t; omega)) ⟨rfl, rfl, rfl, rfl, rfl, rfl, True.intro⟩ (.refl _)
     ·
      have hkp : mixL (ringF l p.toNat q t) l t = mixL (ringF l p.toNat q (t + 1)) l (t + 1) := by rw [ringF_n]; exact mix_keep (by omega) (by rw [addR_n h30, Int.add_zero])
      rw [hkp]
      refine vskip (KK2 (QM ?_))
      refine QM ?_
      refine QQ (vis rfl rfl (by omega)) rfl ?_
      refine QQ (vld1 (v := I (valM l (t : Int) + addR q (ringF l p.toNat q t) p.toNat t)) rfl ((nth_R (by omega)).trans (by rw [hnew]))) rfl ?_
      refine QQ (vcp rfl rfl rfl (c_stwithin _ _ _)) rfl ?_
      refine QQ (vnotd rfl) rfl (vnil ?_)
      refine vcondd rfl (fun h51 => ?_) (fun h51 => ?_)
      ·
       refine KK2 (QA ?_)
       refine QA (vnil ?_)
       refine vret (vr2 (H' := H) Tryz.func5 rfl (.tmp rfl) (.tmp rfl) sb2 ?_)
       exact ⟨_, rfl, [], rfl, .inl ⟨fun e => ring_bad (m := 65536) (t := t) (by omega) h51 e.2, 7, by decide, rfl⟩⟩
      ·
       refine vskip (vinblock (vregion (QQ (vadd rfl rfl (by unfold InR; omega)) rfl ?_)))
       refine QM (vnil ?_)
       exact vback (IH (t + 1, mixL (ringF l p.toNat q (t + 1)) l (t + 1)) ⟨by omega, rfl, by rw [ringF_n]; exact allB_snoc hall (Classical.not_not.1 h51)⟩ (by show _ - (t + 1) < _ - t; omega)) ⟨rfl, rfl, rfl, rfl, rfl, rfl, True.intro⟩ (.refl _)
    ·
     refine vexit (k' := _) rfl ?_
     refine KK2 (QM ?_)
     refine QA ?_
     refine QA (vnil ?_)
     refine vret (vr2 (H' := (gb, blk (clI (mixL (ringF l p.toNat q t) l t) ++ rest) 3) :: H) Tryz.func5 rfl (.tmp rfl) (.tmp rfl) sb2 ?_)
     (have hil : t = l.length := (by omega); subst hil; rw [mix_all (ring_len l p.toNat q l.length)]; exact ⟨_, rfl, [_], rfl, .inr ⟨⟨hk4, hall⟩, _, _, rfl, list_own⟩⟩)
def WoI (l : List Int) (p : Nat) (q : Int) (t : Nat) (K : List Int) : Prop := (t ≤ l.length ∧ p ≤ t ∧ K = mixL (unF l p q t) l t) ∨ (l.length < t ∧ K = l ∧ t = p)
theorem WoI.first (l : List Int) (p : Nat) (q : Int) : WoI l p q p l := by
  by_cases h : p ≤ l.length
  · refine .inl ⟨h, Nat.le_refl _, ?_⟩
    rw [un_low (Nat.le_refl _) h]; unfold mixL; exact (List.take_append_drop p l).symm
  · exact .inr ⟨by omega, rfl, rfl⟩
theorem WoI.last {l : List Int} {p : Nat} {q : Int} {t : Nat} {K : List Int} (h : WoI l p q t K) (ht : ¬ (t : Int) < l.length) : K = unF l p q l.length := by
  rcases h with ⟨h1, _, h2⟩ | ⟨h1, h2, h3⟩
  · have e : t = l.length := by omega
    subst e
    rw [h2, mix_all (un_len l p q l.length)]
  · rw [h2, un_low (by omega) (Nat.le_refl _), List.take_length]
theorem d_without (l : List Int) (oa : Option Addr) (c : Nat) (H : Heap) [hsl : SlO H oa 1 encI l] (hll : l.length ≤ 9223372036854775807) (p q : Int) (hk : stOk l p q) : VCall Tryz.prog 18 [.slice oa l.length c, I p, I q].toArray H (fun o H' => ∃ v, o = .val v ∧ ∃ B, H' = B ++ H ∧ ∃ oo co, v = .slice oo l.length co ∧ SlO B oo 1 encI (unF l p.toNat q l.length)) := by
 obtain ⟨hk1, hk2, hk3, hk4⟩ := hk
 refine CV 34 Tryz.func18 ?_
 refine KK2 (QA (KK3 ?_))
 refine QM ?_
 refine vone rfl (vxg (vcg (R := fun v H' => ∃ gb rest co, v = .slice (some ⟨gb, 0, Option.none⟩) l.length co ∧ H' = (gb, blk (clI l ++ rest) 3) :: H) rfl rfl rfl (d_CloneI l oa _ c rfl (by omega) H) (fun o H' ⟨v, e1, B, e2, oa', c', e3, e4⟩ => by obtain ⟨g, rest, h1, h2⟩ := own_list e4 (by omega); subst h1; subst h2; exact ⟨_, e1, g, rest, c', e3, e2⟩)) rfl rfl ?_)
 rintro _ _ ⟨gb, rest, co, rfl, rfl⟩
 refine QA (vnil (vseq (KK2 ?_)))
 refine QM ?_
 refine QA (vnil (vblock ?_))
 refine vwhile (σ := Nat × List Int) (fun ⟨t, K⟩ => l.length - t) (fun ⟨t, K⟩ => [(0, .slice oa l.length c), (1, I p), (2, I q), (7, .slice (some ⟨gb, 0, Option.none⟩) l.length co), (8, I (t : Int))]) (fun ⟨t, K⟩ => (gb, blk (clI K ++ rest) 3) :: H) (fun ⟨t, K⟩ => WoI l p.toNat q t K) (p.toNat, l) (WoI.first l p.toNat q) ⟨rfl, rfl, rfl, rfl, by rw [show ((p.toNat : Nat) : Int) = p by omega]; rfl, True.intro⟩ (.refl _) ?_
 rintro ⟨t, K⟩ hI IH
 change VRun _ _ _ _ _ [(0, .slice oa l.length c), (1, I p), (2, I q), (7, .slice (some ⟨gb, 0, Option.none⟩) l.length co), (8, I (t : Int))] _ ((gb, blk (clI K ++ rest) 3) :: H) _
 refine vseq (KK2 (QM ?_))
 refine QM ?_
 refine QQ (vlen rfl) rfl ?_
 refine QS (vnil ?_)
 refine vcondd rfl (fun h15 => ?_) (fun h15 => ?_)
 ·
  obtain ⟨z, hz⟩ := get_of_lt l (i := t) (by omega)
  have hzb := allB_at hk2 hz
  obtain ⟨ht, hpt, rfl⟩ : t ≤ l.length ∧ p.toNat ≤ t ∧ K = mixL (unF l p.toNat q t) l t := by rcases hI with h | ⟨h, _⟩; exact h; omega
  obtain ⟨y, hy⟩ := get_of_lt l (i := ((t : Int) - p).toNat) (by omega)
  have hyb := allB_at hk2 hy
  have hmq := mul_q (q := q) (x := y) (m := 65536) (by omega) (by decide) (by omega)
  have hdv := div_bd hmq
  have hrl := un_len l p.toNat q t
  have hml := mix_len (A := unF l p.toNat q t) (l := l) hrl ht
  have hm1 : valM (mixL (unF l p.toNat q t) l t) (t : Int) = z := by rw [mix_hi hrl (Nat.le_refl _), valM_of hz]
  have hset : (mixL (unF l p.toNat q t) l t).set (t : Int).toNat (z - q * y / 64) = mixL (unF l p.toNat q (t + 1)) l (t + 1) := by rw [Int.toNat_natCast, unF_n, addR_y (by omega) (by omega) hy, valM_of hz]; exact mix_set hrl (by omega)
  refine vskip (vseq (vblock ?_))
  refine vdrawP (G0 := [(gb, blk (clI (mixL (unF l p.toNat q t) l t) ++ rest) 3)]) (H0 := H) (.refl _) [(.q, 0), (.q, 1), (.q, 2), (.q, 4), (.q, 5), (.q, 6), (.q, 7), (.q, 8), (.q, 9), (.q, 10), (.q, 11), (.q, 12), (.n, 3), (.q, 13), (.q, 14), (.s, 15)] Tryz.mixed (by kernel_rfl) (allocOk_of _ (by kernel_rfl)) ?_
  refine DM ?_
  refine DM ?_
  refine DD (vis rfl rfl (by omega)) rfl ?_
  refine DM ?_
  refine DM ?_
  refine DM ?_
  refine DM ?_
  refine DD (vsub rfl rfl (by unfold InR; omega)) rfl ?_
  refine DD (visg (enc := encI) rfl rfl (by omega) hy) rfl ?_
  refine DD (vldS1 (enc := encI) rfl hy rfl) rfl ?_
  refine DD (vmul rfl rfl (by unfold InR; omega)) rfl ?_
  refine DD (vcp rfl rfl rfl (c_sdown _ (by unfold InR; omega))) rfl ?_
  refine vdn rfl (mone rfl) (vld1 rfl ((nth_R (by omega)).trans (by rw [hm1]))) rfl rfl ?_
  refine DD (vsub rfl rfl (by unfold InR; omega)) rfl ?_
  refine DD (vis rfl rfl (by omega)) rfl ?_
  refine vds (mone rfl) (vst1 (cs' := clI ((mixL (unF l p.toNat q t) l t).set (t : Int).toNat (z - q * y / 64)) ++ rest) rfl rfl rfl (put_R _ (by omega))) rfl ?_
  rw [hset]
  refine vdend rfl (vinblock (vregion (QM ?_)))
  refine QQ (vadd rfl rfl (by unfold InR; omega)) rfl ?_
  refine QA (vnil ?_)
  exact vback (IH (t + 1, mixL (unF l p.toNat q (t + 1)) l (t + 1)) (.inl ⟨by omega, by omega, rfl⟩) (by show _ - (t + 1) < _ - t; omega)) ⟨rfl, rfl, rfl, rfl, rfl, True.intro⟩ (.refl _)
 ·
  refine vexit (k' := _) rfl ?_
  refine KK2 (QM ?_)
  refine QA (vnil ?_)
  refine vret (V1 ((gb, blk (clI K ++ rest) 3) :: H) Tryz.func18 ?_)
  exact ⟨_, rfl, [_], rfl, _, _, rfl, by rw [hI.last h15]; exact list_own⟩
theorem d_Without (l : List Int) (oa : Option Addr) (c : Nat) (H : Heap) [hsl : SlO H oa 1 encI l] (hll : l.length ≤ 9223372036854775807) (p q : Int) : VCall Tryz.prog 8 [.slice oa l.length c, I p, I q].toArray H (fun o H' => ∃ v, o = .val v ∧ ∃ B, H' = B ++ H ∧ ((¬ stOk l p q ∧ ∃ e, e ≠ 0 ∧ v = tup [.slice Option.none 0 0, I e]) ∨ (stOk l p q ∧ ∃ oo co, v = tup [.slice oo l.length co, I 0] ∧ SlO B oo 1 encI (unF l p.toNat q l.length)))) := by
 refine CV 23 Tryz.func8 ?_
 refine KK2 (QA ?_)
 refine QA (vnil (vseq (KK2 ?_)))
 refine QM ?_
 refine QQ (vcq rfl rfl rfl (q_stnumbers l oa c _ hll)) rfl ?_
 refine QQ (vnotd rfl) rfl (vnil ?_)
 refine vcondd rfl (fun h10 => ?_) (fun h10 => ?_)
 ·
  refine KK2 (QA ?_)
  refine QA (vnil ?_)
  refine vret (vr2 (H' := H) Tryz.func8 rfl (.tmp rfl) (.tmp rfl) sb2 ?_)
  exact ⟨_, rfl, [], rfl, .inl ⟨fun e => h10 ⟨e.1, e.2.1⟩, 3, by decide, rfl⟩⟩
 ·
  obtain ⟨hk1, hk2⟩ := Classical.not_not.1 h10
  refine vskip (vseq (KK2 (QM ?_)))
  refine QQ (vcp rfl rfl rfl (c_stwithin _ _ _)) rfl ?_
  refine QQ (vnotd rfl) rfl ?_
  refine QM ?_
  refine vsplitd (d := 14) rfl (fun h14 => ?_) (fun h14 => ?_)
  ·
   refine NO3 ?_
   refine QT (vnil ?_)
   refine vcondt rfl (KK2 (QA ?_))
   refine QA (vnil ?_)
   refine vret (vr2 (H' := H) Tryz.func8 rfl (.tmp rfl) (.tmp rfl) sb2 ?_)
   exact ⟨_, rfl, [], rfl, .inl ⟨fun e => by have := e.2.2; omega, 95, by decide, rfl⟩⟩
  ·
   refine YM ?_
   refine YY (vcp rfl rfl rfl (c_repeats _)) rfl ?_
   refine YY (vnotd rfl) rfl ?_
   refine QU (vnil ?_)
   refine vcondd rfl (fun h18 => ?_) (fun h18 => ?_)
   ·
    refine KK2 (QA ?_)
    refine QA (vnil ?_)
    refine vret (vr2 (H' := H) Tryz.func8 rfl (.tmp rfl) (.tmp rfl) sb2 ?_)
    exact ⟨_, rfl, [], rfl, .inl ⟨fun e => by have := e.2.2; omega, 95, by decide, rfl⟩⟩
   ·
    have hk4 : stOk l p q := ⟨hk1, hk2, by omega, by omega⟩
    refine vskip (KK2 (QM ?_))
    refine QM ?_
    refine QM ?_
    refine vone rfl (vxg (vcg rfl rfl rfl (d_without l oa c _ hll p q hk4) (fun o H' h => h)) rfl rfl ?_)
    rintro _ _ ⟨B, rfl, ⟨oo, co, rfl, hsr⟩⟩
    refine QA ?_
    refine QA (vnil ?_)
    refine vret (vr2 (H' := B ++ H) Tryz.func8 rfl (.tmp rfl) (.tmp rfl) sb2 ?_)
    exact ⟨_, rfl, B, rfl, .inr ⟨hk4, oo, co, rfl, hsr⟩⟩
end Go.Proofs.YtoebpndlbldfcaaGreatDoor
namespace Go.Proofs.YtoebpndlbldfcaaGreatDoor
open Go
set_option maxRecDepth 100000
attribute [local irreducible] tightP hullP rootP farP rows endsOf valM ringF unF addR
theorem c_vtime0  : VPure Tryz.prog 25 [I 2, I 4, I 100] (I 3) := by
 intro H
 refine CV 22 Tryz.func25 ?_
 refine KK2 (QA (KK3 ?_))
 refine QM ?_
 refine QM ?_
 refine QQ (vmul rfl rfl (by unfold InR; decide)) rfl ?_
 refine QM ?_
 refine QM ?_
 refine QQ (vmul rfl rfl (by unfold InR; decide)) rfl ?_
 refine QQ (vquo rfl rfl (by decide) (by unfold InR; decide)) rfl ?_
 refine QQ (vadd rfl rfl (by unfold InR; decide)) rfl ?_
 refine QQ (vcp rfl rfl rfl (c_RootX (show rootE (2 * 2 + (100 * 4 : Int).tdiv 64) = (3, 0) by kernel_rfl))) rfl ?_
 refine QM ?_
 refine QX ?_
 refine QX ?_
 refine QA ?_
 refine QA (KK3 ?_)
 refine QM ?_
 refine QA (vnil ?_)
 refine vret (V1 (H) Tryz.func25 ?_)
 exact ⟨rfl, rfl⟩
theorem c_Time0  : VPure Tryz.prog 19 [I 2, I 4, I 100] (tup [I 3, I 0]) := by
 intro H
 refine CV 25 Tryz.func19 ?_
 refine KK2 (QA ?_)
 refine QA (vnil (vseq (KK2 ?_)))
 refine QM ?_
 refine QQ (vcp rfl rfl rfl (c_vwithin _ _ _)) rfl ?_
 refine vknow (d := 9) (b' := true) rfl (by decide) ?_
 refine QQ (vnot rfl) rfl ?_
 refine QM ?_
 refine YM ?_
 refine YY (vcp rfl rfl rfl (c_vwithin _ _ _)) rfl ?_
 refine vknow (d := 13) (b' := true) rfl (by decide) ?_
 refine YY (vnot rfl) rfl ?_
 refine QU ?_
 refine QM ?_
 refine YM ?_
 refine YY (vcp rfl rfl rfl (c_vwithin _ _ _)) rfl ?_
 refine vknow (d := 18) (b' := true) rfl (by decide) ?_
 refine YY (vnot rfl) rfl ?_
 refine QU (vnil ?_)
 refine vcondf rfl (vskip (KK2 (QM ?_)))
 refine QM ?_
 refine QM ?_
 refine QQ (vcp rfl rfl rfl (c_vtime0)) rfl ?_
 refine QA ?_
 refine QA (vnil ?_)
 refine vret (vr2 (H' := H) Tryz.func19 rfl (.tmp rfl) (.tmp rfl) sb ?_)
 exact ⟨rfl, rfl⟩
theorem c_fast0  : VPure Tryz.prog 26 [I 1] (.bool true) := by
 intro H
 refine CV 5 Tryz.func26 ?_
 refine KK2 (QA (KK3 ?_))
 refine QM ?_
 refine QQ (vcp rfl rfl rfl (c_stwithin _ _ _)) rfl ?_
 refine vknow (d := 4) (b' := true) rfl (by decide) ?_
 refine QA (vnil ?_)
 refine vret (V1 (H) Tryz.func26 ?_)
 exact ⟨rfl, rfl⟩
theorem c_arrive0  : VPure Tryz.prog 27 [I 1, I 1, I 2] (I 2) := by
 intro H
 refine CV 25 Tryz.func27 ?_
 refine KK2 (QA (KK3 ?_))
 refine QM ?_
 refine QM ?_
 refine QQ (vmul rfl rfl (by unfold InR; decide)) rfl ?_
 refine QM ?_
 refine QM ?_
 refine QQ (vmul rfl rfl (by unfold InR; decide)) rfl ?_
 refine QM ?_
 refine QM ?_
 refine QQ (vmul rfl rfl (by unfold InR; decide)) rfl ?_
 refine QQ (vquo rfl rfl (by decide) (by unfold InR; decide)) rfl ?_
 refine QQ (vadd rfl rfl (by unfold InR; decide)) rfl ?_
 refine QQ (vcp rfl rfl rfl (c_RootX (show rootE (1 * 1 + (2 * 2 : Int).tdiv (1 * 1)) = (2, 0) by kernel_rfl))) rfl ?_
 refine QM ?_
 refine QX ?_
 refine QX ?_
 refine QA ?_
 refine QA (KK3 ?_)
 refine QM ?_
 refine QA (vnil ?_)
 refine vret (V1 (H) Tryz.func27 ?_)
 exact ⟨rfl, rfl⟩
theorem c_Arrive0  : VPure Tryz.prog 20 [I 1, I 1, I 2] (tup [I 2, I 0]) := by
 intro H
 refine CV 24 Tryz.func20 ?_
 refine KK2 (QA ?_)
 refine QA (vnil (vseq (vblock (KK2 ?_))))
 refine QM ?_
 refine QQ (vcp rfl rfl rfl (c_stwithin _ _ _)) rfl ?_
 refine vknow (d := 10) (b' := true) rfl (by decide) ?_
 refine QQ (vnot rfl) rfl ?_
 refine QA (vnil ?_)
 refine vcondf rfl (KK2 (QM ?_))
 refine QQ (vcp rfl rfl rfl (c_fast0)) rfl ?_
 refine QQ (vnot rfl) rfl ?_
 refine QA (vnil ?_)
 refine vcondf rfl (KK2 (QM ?_))
 refine QQ (vcp rfl rfl rfl (c_stwithin _ _ _)) rfl ?_
 refine vknow (d := 18) (b' := true) rfl (by decide) ?_
 refine QQ (vnot rfl) rfl ?_
 refine QA (vnil ?_)
 refine vcondf rfl (vskip (vinblock (KK2 (QM ?_))))
 refine QM ?_
 refine QM ?_
 refine QQ (vcp rfl rfl rfl (c_arrive0)) rfl ?_
 refine QA ?_
 refine QA (vnil ?_)
 refine vret (vr2 (H' := H) Tryz.func20 rfl (.tmp rfl) (.tmp rfl) sb ?_)
 exact ⟨rfl, rfl⟩
theorem c_bfloor0  : VPure Tryz.prog 55 [I 4, I 4] (I 1) := by
 intro H
 refine CV 16 Tryz.func55 ?_
 refine KK2 (QA (KK3 ?_))
 refine QM ?_
 refine QM ?_
 refine QQ (vquo rfl rfl (by decide) (by unfold InR; decide)) rfl ?_
 refine QA (vnil (vseq (KK2 ?_)))
 refine QM ?_
 refine QM ?_
 refine QQ (vrem rfl rfl (by decide)) rfl ?_
 refine QS ?_
 refine vknow (d := 12) (b' := false) rfl (by decide) ?_
 refine vnil (vcondf rfl (vskip (KK2 (QM ?_))))
 refine QA (vnil ?_)
 refine vret (V1 (H) Tryz.func55 ?_)
 exact ⟨rfl, rfl⟩
theorem cl0_at : [(⟨0, 25⟩ : Bd)][0]? = some (⟨0, 25⟩ : Bd) := rfl
theorem c_chk0 (p : Pt) (h : p.ok) : VPure Tryz.prog 39 [vP p] (I 0) := by
  have := c_region_CheckPoint p
  rw [chkP_zero.2 h] at this; exact this
theorem q_CheckGrid0 (oa : Option Addr) (cp : Nat) (H : Heap) [hs0 : SlO H oa 2 encBd [(⟨0, 25⟩ : Bd)]] : VHas Tryz.prog 38 [.agg #[I 0, I 0, I 2, I 3, I 2, .slice oa 1 cp]] (I 0) H H := by
 refine CV 61 Tryz.func38 ?_
 refine KK2 (BX fun b1 => ?_)
 refine QA (vnil (vseq (KK2 ?_)))
 refine QF ?_
 refine QN ?_
 refine QQ (vcp rfl rfl rfl (c_chk0 ⟨0, 0⟩ (by unfold Pt.ok; decide))) rfl ?_
 refine QG ?_
 refine vknow (d := 9) (b' := false) rfl (by decide) ?_
 refine QM ?_
 refine YF ?_
 refine YL ?_
 refine YY (vcp rfl rfl rfl (c_bnwithin _ _ _)) rfl ?_
 refine vknow (d := 13) (b' := true) rfl (by decide) ?_
 refine YY (vnot rfl) rfl ?_
 refine QU ?_
 refine QM ?_
 refine YF ?_
 refine YL ?_
 refine YY (vcp rfl rfl rfl (c_bnwithin _ _ _)) rfl ?_
 refine vknow (d := 19) (b' := true) rfl (by decide) ?_
 refine YY (vnot rfl) rfl ?_
 refine QU ?_
 refine QM ?_
 refine YF ?_
 refine YL ?_
 refine YY (vcp rfl rfl rfl (c_bnwithin _ _ _)) rfl ?_
 refine vknow (d := 25) (b' := true) rfl (by decide) ?_
 refine YY (vnot rfl) rfl ?_
 refine QU ?_
 refine QM ?_
 refine YF ?_
 refine YL ?_
 refine YY (vlen1 rfl rfl) rfl ?_
 refine YY (vcp rfl rfl rfl (c_bnwithin _ _ _)) rfl ?_
 refine vknow (d := 32) (b' := true) rfl (by decide) ?_
 refine YY (vnot rfl) rfl ?_
 refine QU (vnil ?_)
 refine vcondf rfl (vskip (KK2 (QA (vnil (vseq (KK2 ?_))))))
 refine QF ?_
 refine QL ?_
 refine QQ (vlen1 rfl rfl) rfl ?_
 refine QM (vnil (vblock ?_))
 refine vloop1 ?_
 refine KK2 (QS (vnil (vseq ?_)))
 refine vcondt rfl (vskip (vseq (vblock (KK2 (QQ (visg (enc := encBd) (z := (⟨0, 25⟩ : Bd)) rfl rfl (by decide) cl0_at) rfl ?_)))))
 refine QQ (vldS (enc := encBd) (z := (⟨0, 25⟩ : Bd)) rfl cl0_at) rfl ?_
 refine AL fun b2 => ?_
 refine SN (vnil (vseq (KK2 ?_)))
 refine QF ?_
 refine QL ?_
 refine QM ?_
 refine QQ (vleq rfl rfl) rfl ?_
 refine vknow (d := 45) (b' := false) rfl (by decide) ?_
 refine QM ?_
 refine YF ?_
 refine YL ?_
 refine YF ?_
 refine YL ?_
 refine YY (vgtr rfl rfl) rfl ?_
 refine vknow (d := 51) (b' := false) rfl (by decide) ?_
 refine QU ?_
 refine QM ?_
 refine YF ?_
 refine YL ?_
 refine YY (vgtr rfl rfl) rfl ?_
 refine vknow (d := 56) (b' := false) rfl (by decide) ?_
 refine QU (vnil ?_)
 refine vcondf rfl (vskip (vregion (QF ?_)))
 refine QL ?_
 refine QA (vnil (vinblock (vregion ?_)))
 refine QQ (vadd rfl rfl (by unfold InR; decide)) rfl ?_
 refine QM (vnil ?_)
 refine vinloop1 ?_
 refine KK2 (QS (vnil (vseq ?_)))
 refine vcondf rfl ?_
 refine vexit (k' := _) rfl ?_
 refine KK2 (QA (vnil ?_))
 refine vret (V1 (H) Tryz.func38 ?_)
 exact ⟨rfl, rfl⟩
theorem q_cell0 (oa : Option Addr) (cp : Nat) (H : Heap) [hs0 : SlO H oa 2 encBd [(⟨0, 25⟩ : Bd)]] : VHas Tryz.prog 40 [.agg #[I 0, I 0, I 2, I 3, I 2, .slice oa 1 cp], vP ⟨1, 1⟩, vP ⟨3, 3⟩] (.agg #[I 4, I 0]) H H := by
 refine CV 96 Tryz.func40 ?_
 refine KK2 (BX fun b1 => ?_)
 refine BX fun b2 => ?_
 refine BX fun b3 => ?_
 refine AL fun b4 => (vnil (vseq ?_))
 refine DR [(.q, 0), (.q, 1), (.q, 2), (.q, 3), (.q, 4), (.q, 5), (.q, 6), (.q, 7), (.q, 8), (.q, 9), (.q, 10), (.q, 11), (.q, 12), (.q, 13), (.q, 14), (.q, 15), (.q, 16), (.q, 17), (.q, 18), (.q, 19), (.q, 20), (.q, 21), (.q, 22), (.q, 23), (.q, 24), (.q, 25), (.q, 26), (.q, 27), (.q, 28), (.q, 29)] Tryz.mixed ?_
 refine DF ?_
 refine DL ?_
 refine DF ?_
 refine DL ?_
 refine DD (vadd rfl rfl (by unfold InR; decide)) rfl ?_
 refine DF ?_
 refine DF ?_
 refine DL ?_
 refine DD (vmul rfl rfl (by unfold InR; decide)) rfl ?_
 refine DD (vsub rfl rfl (by unfold InR; decide)) rfl ?_
 refine DF ?_
 refine DL ?_
 refine DD (vmul rfl rfl (by unfold InR; decide)) rfl ?_
 refine DD (vcp rfl rfl rfl (c_bfloor0)) rfl ?_
 refine DF ?_
 refine DL ?_
 refine DF ?_
 refine DL ?_
 refine DD (vadd rfl rfl (by unfold InR; decide)) rfl ?_
 refine DF ?_
 refine DF ?_
 refine DL ?_
 refine DD (vmul rfl rfl (by unfold InR; decide)) rfl ?_
 refine DD (vsub rfl rfl (by unfold InR; decide)) rfl ?_
 refine DF ?_
 refine DL ?_
 refine DD (vmul rfl rfl (by unfold InR; decide)) rfl ?_
 refine DD (vcp rfl rfl rfl (c_bfloor0)) rfl ?_
 refine DA ?_
 refine DA (vdend rfl (vseq (KK2 ?_)))
 refine QM ?_
 refine QF ?_
 refine QL ?_
 refine QQ (vsub rfl rfl (by unfold InR; decide)) rfl ?_
 refine QQ (vcp rfl rfl rfl (c_bnwithin _ _ _)) rfl ?_
 refine vknow (d := 45) (b' := true) rfl (by decide) ?_
 refine QQ (vnot rfl) rfl ?_
 refine QM ?_
 refine YM ?_
 refine YF ?_
 refine YL ?_
 refine YY (vsub rfl rfl (by unfold InR; decide)) rfl ?_
 refine YY (vcp rfl rfl rfl (c_bnwithin _ _ _)) rfl ?_
 refine vknow (d := 52) (b' := true) rfl (by decide) ?_
 refine YY (vnot rfl) rfl ?_
 refine QU (vnil ?_)
 refine vcondf rfl (vskip (vseq ?_))
 refine DR [(.q, 0), (.q, 1), (.q, 2), (.q, 3), (.q, 4), (.q, 5), (.q, 6), (.q, 7), (.q, 8), (.q, 9), (.q, 10), (.q, 11)] Tryz.mixed ?_
 refine DF ?_
 refine DL ?_
 refine DF ?_
 refine DL ?_
 refine DD (vsub rfl rfl (by unfold InR; decide)) rfl ?_
 refine DF ?_
 refine DL ?_
 refine DF ?_
 refine DL ?_
 refine DD (vsub rfl rfl (by unfold InR; decide)) rfl ?_
 refine DA ?_
 refine DA (vdend rfl (vseq (KK2 ?_)))
 refine QF ?_
 refine QL ?_
 refine QQ (vlen1 rfl rfl) rfl ?_
 refine QM (vnil (vblock ?_))
 refine vloop1 ?_
 refine KK2 (QS (vnil (vseq ?_)))
 refine vcondt rfl (vskip (vseq (vblock (KK2 (QM ?_)))))
 refine QQ (visg (enc := encBd) (z := (⟨0, 25⟩ : Bd)) rfl rfl (by decide) cl0_at) rfl ?_
 refine QQ (vldS (enc := encBd) (z := (⟨0, 25⟩ : Bd)) rfl cl0_at) rfl ?_
 refine AL fun b5 => ?_
 refine QA ?_
 refine SN (KK3 ?_)
 refine QM ?_
 refine QM ?_
 refine QQ (vmul rfl rfl (by unfold InR; decide)) rfl ?_
 refine QM ?_
 refine QM ?_
 refine QQ (vmul rfl rfl (by unfold InR; decide)) rfl ?_
 refine QQ (vadd rfl rfl (by unfold InR; decide)) rfl ?_
 refine QF ?_
 refine QL ?_
 refine QF ?_
 refine QL ?_
 refine QQ (vcp rfl rfl rfl (c_bnwithin _ _ _)) rfl ?_
 refine vknow (d := 85) (b' := true) rfl (by decide) ?_
 refine vnil (vcondt rfl (KK2 (QM ?_)))
 refine QF ?_
 refine QL ?_
 refine QQ (vmul rfl rfl (by unfold InR; decide)) rfl ?_
 refine QM ?_
 refine QQ (vadd rfl rfl (by unfold InR; decide)) rfl ?_
 refine QM ?_
 refine QB ?_
 refine SN (vnil ?_)
 refine vret (VN (H) Tryz.func40 ?_)
 exact ⟨rfl, rfl⟩
theorem q_Cell0 (oa : Option Addr) (cp : Nat) (H : Heap) [hs0 : SlO H oa 2 encBd [(⟨0, 25⟩ : Bd)]] : VHas Tryz.prog 30 [.agg #[I 0, I 0, I 2, I 3, I 2, .slice oa 1 cp], vP ⟨1, 1⟩, vP ⟨3, 3⟩] (tup [.agg #[I 4, I 0], I 0]) H H := by
 refine CV 28 Tryz.func30 ?_
 refine KK2 (BX fun b1 => ?_)
 refine BX fun b2 => ?_
 refine BX fun b3 => ?_
 refine AL fun b4 => ?_
 refine QA (vnil (vseq (KK2 ?_)))
 refine QN ?_
 refine QQ (vcq rfl rfl rfl (q_CheckGrid0 oa cp _)) rfl ?_
 refine QA (KK3 ?_)
 refine QM ?_
 refine QG ?_
 refine vknow (d := 12) (b' := false) rfl (by decide) ?_
 refine vnil (vcondf rfl (vskip (vseq (KK2 (QN ?_)))))
 refine QQ (vcp rfl rfl rfl (c_chk0 ⟨1, 1⟩ (by unfold Pt.ok; decide))) rfl ?_
 refine QG ?_
 refine vknow (d := 17) (b' := false) rfl (by decide) ?_
 refine QM ?_
 refine YN ?_
 refine YY (vcp rfl rfl rfl (c_chk0 ⟨3, 3⟩ (by unfold Pt.ok; decide))) rfl ?_
 refine YG ?_
 refine vknow (d := 21) (b' := false) rfl (by decide) ?_
 refine QU (vnil ?_)
 refine vcondf rfl (vskip (KK2 (QN ?_)))
 refine QN ?_
 refine QN ?_
 refine QQ (vcq rfl rfl rfl (q_cell0 oa cp _)) rfl ?_
 refine SN ?_
 refine QA (vnil ?_)
 refine vret (vr2 (H' := H) Tryz.func30 rfl (.celln rfl rfl) (.tmp rfl) sb2 ?_)
 exact ⟨rfl, rfl⟩
end Go.Proofs.YtoebpndlbldfcaaGreatDoor
namespace Go.Proofs.YtoebpndlbldfcaaGreatDoor
open Go
set_option maxRecDepth 100000
attribute [local irreducible] tightP hullP rootP farP rows endsOf valM ringF unF addR
instance tMsRs : TMs Tryz.prog 69 73 3 24 [I 0, I 0, I 0] := mkTMs (z := .agg [I 0, I 0, I 0].toArray) (by kernel_rfl) (by kernel_rfl) rfl
instance tApPs : TAp Tryz.prog 48 60 2 16 := mkTAp (z := .agg [I 0, I 0].toArray) (by kernel_rfl) (by kernel_rfl) rfl
theorem a35_0 : [(3 : Int), 5][0]? = some 3 := rfl
theorem a35_1 : [(3 : Int), 5][1]? = some 5 := rfl
theorem q_againOf0 (oa : Option Addr) (cp : Nat) (H : Heap) [hs0 : SlO H oa 1 encI [3, 5]] : VHas Tryz.prog 36 [.slice oa 2 cp, I 1, I 9] (tup [.agg #[.slice oa 2 cp, I 1, I 9], I 0]) H H := by
 refine CV 55 Tryz.func36 ?_
 refine KK2 (AL fun b1 => ?_)
 refine QA (KK3 ?_)
 refine QM ?_
 refine QQ (vlen rfl) rfl ?_
 refine QQ (vleq rfl rfl) rfl ?_
 refine vknow (d := 13) (b' := true) rfl (by decide) ?_
 refine QM ?_
 refine YM ?_
 refine YY (vcp rfl rfl rfl (c_tpwithin _ _ _)) rfl ?_
 refine vknow (d := 16) (b' := true) rfl (by decide) ?_
 refine QT ?_
 refine QM ?_
 refine YM ?_
 refine YY (vcp rfl rfl rfl (c_tpwithin _ _ _)) rfl ?_
 refine vknow (d := 20) (b' := true) rfl (by decide) ?_
 refine QT ?_
 refine QA (vnil (vseq (KK2 ?_)))
 refine QM ?_
 refine QQ (vlen rfl) rfl ?_
 refine QM (vnil (vblock ?_))
 refine vloop1 ?_
 refine KK2 (QS (vnil (vseq ?_)))
 refine vcondt rfl (vskip (vseq (vblock (KK2 (QM ?_)))))
 refine QQ (visg (enc := encI) (z := 3) rfl rfl (by decide) a35_0) rfl ?_
 refine QQ (vldS1 (enc := encI) (z := 3) rfl a35_0 rfl) rfl ?_
 refine QA ?_
 refine QA (vnil (vregion ?_))
 refine QM ?_
 refine QM ?_
 refine YM ?_
 refine YY (vcp rfl rfl rfl (c_tpwithin _ _ _)) rfl ?_
 refine vknow (d := 32) (b' := true) rfl (by decide) ?_
 refine QT ?_
 refine QM ?_
 refine YM ?_
 refine YE ?_
 refine YM ?_
 refine NO4 ?_
 refine NO3 ?_
 refine YT ?_
 refine QT ?_
 refine QA (vnil (vinblock (vregion ?_)))
 refine QQ (vadd rfl rfl (by unfold InR; decide)) rfl ?_
 refine QM (vnil ?_)
 refine vinloop1 ?_
 refine KK2 (QS (vnil (vseq ?_)))
 refine vcondt rfl (vskip (vseq (vblock (KK2 (QM ?_)))))
 refine QQ (visg (enc := encI) (z := 5) rfl rfl (by decide) a35_1) rfl ?_
 refine QQ (vldS1 (enc := encI) (z := 5) rfl a35_1 rfl) rfl ?_
 refine QA ?_
 refine QA (vnil (vregion ?_))
 refine QM ?_
 refine QM ?_
 refine YM ?_
 refine YY (vcp rfl rfl rfl (c_tpwithin _ _ _)) rfl ?_
 refine vknow (d := 32) (b' := true) rfl (by decide) ?_
 refine QT ?_
 refine QM ?_
 refine YM ?_
 refine YE ?_
 refine YM ?_
 refine YM ?_
 refine YM ?_
 refine YY (vsub rfl rfl (by unfold InR; decide)) rfl ?_
 refine YY (visg (enc := encI) (z := 3) rfl rfl (by decide) a35_0) rfl ?_
 refine YY (vldS1 (enc := encI) (z := 3) rfl a35_0 rfl) rfl ?_
 refine YM ?_
 refine YS ?_
 refine YU ?_
 refine QT ?_
 refine QA (vnil (vinblock (vregion ?_)))
 refine QQ (vadd rfl rfl (by unfold InR; decide)) rfl ?_
 refine QM (vnil ?_)
 refine vinloop1 ?_
 refine KK2 (QS (vnil (vseq ?_)))
 refine vcondf rfl ?_
 refine vexit (k' := _) rfl ?_
 refine vseq (KK2 (QM ?_))
 refine QQ (vnot rfl) rfl (vnil ?_)
 refine vcondf rfl (vskip (KK2 (QM ?_)))
 refine QM ?_
 refine QM ?_
 refine QB ?_
 refine SN ?_
 refine QA (vnil ?_)
 refine vret (vr2 (H' := H) Tryz.func36 rfl (.celln rfl rfl) (.tmp rfl) sb2 ?_)
 exact ⟨rfl, rfl⟩
theorem q_pass11 (oa : Option Addr) (cp : Nat) (H : Heap) [hs0 : SlO H oa 1 encI [3, 5]] : VHas Tryz.prog 37 [.agg #[.slice oa 2 cp, I 1, I 9], I 1, I 1] (tup [I 2, .bool true]) H H := by
 refine CV 29 Tryz.func37 ?_
 refine KK2 (BX fun b1 => ?_)
 refine QA ?_
 refine QA (vnil (vseq ?_))
 refine DR [(.q, 0), (.q, 1), (.q, 2), (.q, 3), (.q, 4), (.q, 5), (.q, 6), (.q, 7), (.q, 8), (.q, 9), (.q, 10), (.q, 11), (.q, 12)] Tryz.mixed ?_
 refine DF ?_
 refine DL ?_
 refine DM ?_
 refine DD (visg (enc := encI) (z := 5) rfl rfl (by decide) a35_1) rfl ?_
 refine DD (vldS1 (enc := encI) (z := 5) rfl a35_1 rfl) rfl ?_
 refine DF ?_
 refine DL ?_
 refine DM ?_
 refine DD (visg (enc := encI) (z := 5) rfl rfl (by decide) a35_1) rfl ?_
 refine DD (vldS1 (enc := encI) (z := 5) rfl a35_1 rfl) rfl ?_
 refine DD (vsub rfl rfl (by unfold InR; decide)) rfl ?_
 refine DD (vadd rfl rfl (by unfold InR; decide)) rfl ?_
 refine DA (vdend rfl (vseq ?_))
 refine DR [(.q, 0), (.q, 1), (.q, 2), (.q, 3), (.q, 4), (.q, 5), (.q, 6), (.q, 7), (.q, 8), (.q, 9)] Tryz.mixed ?_
 refine DF ?_
 refine DL ?_
 refine DM ?_
 refine DD (vadd rfl rfl (by unfold InR; decide)) rfl ?_
 refine DM ?_
 refine DF ?_
 refine DL ?_
 refine DD (vleq rfl rfl) rfl ?_
 refine DA ?_
 refine DA (vdend rfl ?_)
 refine vret (vr2 (H' := H) Tryz.func37 rfl (.tmp rfl) (.tmp rfl) sb2 ?_)
 exact ⟨rfl, rfl⟩
theorem q_pass00 (oa : Option Addr) (cp : Nat) (H : Heap) [hs0 : SlO H oa 1 encI [3, 5]] : VHas Tryz.prog 37 [.agg #[.slice oa 2 cp, I 1, I 9], I 0, I 0] (tup [I 2, .bool true]) H H := by
 refine CV 29 Tryz.func37 ?_
 refine KK2 (BX fun b1 => ?_)
 refine QA ?_
 refine QA (vnil (vseq ?_))
 refine DR [(.q, 0), (.q, 1), (.q, 2), (.q, 3), (.q, 4), (.q, 5), (.q, 6), (.q, 7), (.q, 8), (.q, 9), (.q, 10), (.q, 11), (.q, 12)] Tryz.mixed ?_
 refine DF ?_
 refine DL ?_
 refine DM ?_
 refine DD (visg (enc := encI) (z := 3) rfl rfl (by decide) a35_0) rfl ?_
 refine DD (vldS1 (enc := encI) (z := 3) rfl a35_0 rfl) rfl ?_
 refine DF ?_
 refine DL ?_
 refine DM ?_
 refine DD (visg (enc := encI) (z := 3) rfl rfl (by decide) a35_0) rfl ?_
 refine DD (vldS1 (enc := encI) (z := 3) rfl a35_0 rfl) rfl ?_
 refine DD (vsub rfl rfl (by unfold InR; decide)) rfl ?_
 refine DD (vadd rfl rfl (by unfold InR; decide)) rfl ?_
 refine DA (vdend rfl (vseq ?_))
 refine DR [(.q, 0), (.q, 1), (.q, 2), (.q, 3), (.q, 4), (.q, 5), (.q, 6), (.q, 7), (.q, 8), (.q, 9)] Tryz.mixed ?_
 refine DF ?_
 refine DL ?_
 refine DM ?_
 refine DD (vadd rfl rfl (by unfold InR; decide)) rfl ?_
 refine DM ?_
 refine DF ?_
 refine DL ?_
 refine DD (vleq rfl rfl) rfl ?_
 refine DA ?_
 refine DA (vdend rfl ?_)
 refine vret (vr2 (H' := H) Tryz.func37 rfl (.tmp rfl) (.tmp rfl) sb2 ?_)
 exact ⟨rfl, rfl⟩
theorem q_pass01 (oa : Option Addr) (cp : Nat) (H : Heap) [hs0 : SlO H oa 1 encI [3, 5]] : VHas Tryz.prog 37 [.agg #[.slice oa 2 cp, I 1, I 9], I 0, I 1] (tup [I 4, .bool true]) H H := by
 refine CV 29 Tryz.func37 ?_
 refine KK2 (BX fun b1 => ?_)
 refine QA ?_
 refine QA (vnil (vseq ?_))
 refine DR [(.q, 0), (.q, 1), (.q, 2), (.q, 3), (.q, 4), (.q, 5), (.q, 6), (.q, 7), (.q, 8), (.q, 9), (.q, 10), (.q, 11), (.q, 12)] Tryz.mixed ?_
 refine DF ?_
 refine DL ?_
 refine DM ?_
 refine DD (visg (enc := encI) (z := 5) rfl rfl (by decide) a35_1) rfl ?_
 refine DD (vldS1 (enc := encI) (z := 5) rfl a35_1 rfl) rfl ?_
 refine DF ?_
 refine DL ?_
 refine DM ?_
 refine DD (visg (enc := encI) (z := 3) rfl rfl (by decide) a35_0) rfl ?_
 refine DD (vldS1 (enc := encI) (z := 3) rfl a35_0 rfl) rfl ?_
 refine DD (vsub rfl rfl (by unfold InR; decide)) rfl ?_
 refine DD (vadd rfl rfl (by unfold InR; decide)) rfl ?_
 refine DA (vdend rfl (vseq ?_))
 refine DR [(.q, 0), (.q, 1), (.q, 2), (.q, 3), (.q, 4), (.q, 5), (.q, 6), (.q, 7), (.q, 8), (.q, 9)] Tryz.mixed ?_
 refine DF ?_
 refine DL ?_
 refine DM ?_
 refine DD (vadd rfl rfl (by unfold InR; decide)) rfl ?_
 refine DM ?_
 refine DF ?_
 refine DL ?_
 refine DD (vleq rfl rfl) rfl ?_
 refine DA ?_
 refine DA (vdend rfl ?_)
 refine vret (vr2 (H' := H) Tryz.func37 rfl (.tmp rfl) (.tmp rfl) sb2 ?_)
 exact ⟨rfl, rfl⟩
theorem d_Again0 (oa : Option Addr) (cp : Nat) (H : Heap) [hs0 : SlO H oa 1 encI [3, 5]] : VCall Tryz.prog 29 [.slice oa 2 cp, I 1, I 9].toArray H (fun o H' => ∃ oa' c' B, o = .val (tup [.slice oa' 1 c', I 4, I 0]) ∧ H' = B ++ H ∧ OwnS 60 2 (.slice oa' 1 c') 1 [I 3, I 5] B) := by
 refine CV 139 Tryz.func29 ?_
 refine KK2 (QA ?_)
 refine QA ?_
 refine QA (KK3 ?_)
 refine QM ?_
 refine QM ?_
 refine QM ?_
 refine QQ (vcq rfl rfl rfl (q_againOf0 oa cp _)) rfl ?_
 refine QM ?_
 refine QX ?_
 refine QX ?_
 refine AL fun b1 => ?_
 refine SN ?_
 refine QA (vnil (vseq (KK2 ?_)))
 refine QM ?_
 refine QG ?_
 refine vknow (d := 25) (b' := false) rfl (by decide) ?_
 refine vnil (vcondf rfl (vskip (KK2 (QM ?_))))
 refine QQ (vlen rfl) rfl ?_
 refine QQ (vadd rfl rfl (by unfold InR; decide)) rfl ?_
 refine vone rfl (vxg (vmksN (n := 3) (esz := 3) (by_ := 24) (zs := [I 0, I 0, I 0]) rfl rfl rfl (by decide) (by decide) (by decide)) rfl rfl ?_)
 rintro _ _ ⟨nb, rfl, rfl⟩
 refine QA (vnil (vseq (KK2 ?_)))
 refine QM ?_
 refine QQ (vlen rfl) rfl ?_
 refine QQ (vsub rfl rfl (by unfold InR; decide)) rfl ?_
 refine QA (vnil (vblock ?_))
 refine vloop1 ?_
 refine vseq (KK2 (QM ?_))
 refine QQ (vgeq rfl rfl) rfl (vnil ?_)
 refine vcondt rfl (vskip (vseq (vblock (KK2 (QM ?_)))))
 refine QA (vnil (vblock ?_))
 refine vloop1 ?_
 refine vseq (KK2 (QM ?_))
 refine QM ?_
 refine QQ (vlen rfl) rfl ?_
 refine QS (vnil ?_)
 refine vcondt rfl (vskip (vseq (vblock (KK2 (QN ?_)))))
 refine QM ?_
 refine QM ?_
 refine QQ (vcq rfl rfl rfl (q_pass11 oa cp _)) rfl ?_
 refine QM ?_
 refine QX ?_
 refine QX ?_
 refine QA ?_
 refine QA (vnil (vseq (KK2 ?_)))
 refine QM ?_
 refine QQ (vnot rfl) rfl (vnil ?_)
 refine vcondf rfl (vskip (vseq ?_))
 refine vdraw [(.q, 0), (.q, 1), (.q, 2), (.q, 3), (.q, 4), (.q, 5), (.q, 6), (.q, 7), (.q, 8), (.q, 9), (.q, 10), (.q, 11), (.q, 12), (.q, 13), (.q, 14), (.q, 15), (.q, 16), (.a (blk [.int .i64 0, .int .i64 0, .int .i64 0] (73)), 17), (.s, 18)] Tryz.mixed (by kernel_rfl) ⟨⟨_, _, _, _, _, rfl, _, inferInstance, rfl⟩, True.intro⟩ ?_
 refine DM ?_
 refine DM ?_
 refine DM ?_
 refine DD (vadd rfl rfl (by unfold InR; decide)) rfl ?_
 refine DD (vis rfl rfl (by decide)) rfl ?_
 refine DF ?_
 refine DL ?_
 refine DD (vadd rfl rfl (by unfold InR; decide)) rfl ?_
 refine DM ?_
 refine DM ?_
 refine DD (vadd rfl rfl (by unfold InR; decide)) rfl ?_
 refine DD (vis rfl rfl (by decide)) rfl ?_
 refine DF ?_
 refine DL ?_
 refine DD (vadd rfl rfl (by unfold InR; decide)) rfl ?_
 refine DM ?_
 refine DB ?_
 refine vda rfl rfl (fun b2 => ?_)
 refine vds (mone rfl) (vstn rfl rfl rfl rfl rfl) rfl ?_
 refine vdend rfl (vseq ?_)
 refine DR [(.q, 0), (.q, 1), (.q, 2), (.q, 3), (.q, 4), (.q, 5), (.q, 6), (.q, 7), (.q, 8), (.q, 9), (.q, 10), (.q, 11), (.q, 12), (.q, 13), (.q, 14), (.q, 15), (.q, 16), (.q, 17), (.q, 18), (.q, 19), (.q, 20), (.q, 21), (.q, 22), (.q, 23), (.q, 24), (.q, 25), (.q, 26), (.q, 27), (.q, 28), (.q, 29), (.q, 30), (.q, 31), (.q, 32)] Tryz.mixed ?_
 refine DM ?_
 refine DM ?_
 refine DE ?_
 refine DM ?_
 refine NP4 ?_
 refine NP4 ?_
 refine DT ?_
 refine DM ?_
 refine NP4 ?_
 refine NP4 ?_
 refine NP ?_
 refine vdnou rfl rfl rfl rfl rfl ?_
 refine vdnou rfl rfl rfl rfl rfl ?_
 refine vdnou rfl rfl rfl rfl rfl ?_
 refine vdnou rfl rfl rfl rfl rfl ?_
 refine vdnou rfl rfl rfl rfl rfl ?_
 refine vdnou rfl rfl rfl rfl rfl ?_
 refine vdnou rfl rfl rfl rfl rfl ?_
 refine vdnou rfl rfl rfl rfl rfl ?_
 refine NP ?_
 refine DT (vdend rfl ?_)
 refine vcondt rfl (vregion (QM ?_))
 refine QM ?_
 refine QN ?_
 refine QQ (vis rfl rfl (by decide)) rfl ?_
 refine SN (vnil (vinblock (vregion ?_)))
 refine QM ?_
 refine QQ (vadd rfl rfl (by unfold InR; decide)) rfl ?_
 refine QA (vnil ?_)
 refine vinloop1 ?_
 refine vseq (KK2 (QM ?_))
 refine QM ?_
 refine QQ (vlen rfl) rfl ?_
 refine QS (vnil ?_)
 refine vcondf rfl ?_
 refine vexit (k' := _) rfl ?_
 refine vinblock (vregion (QM ?_))
 refine QQ (vsub rfl rfl (by unfold InR; decide)) rfl ?_
 refine QA (vnil ?_)
 refine vinloop1 ?_
 refine vseq (KK2 (QM ?_))
 refine QQ (vgeq rfl rfl) rfl (vnil ?_)
 refine vcondt rfl (vskip (vseq (vblock (KK2 (QM ?_)))))
 refine QA (vnil (vblock ?_))
 refine vloop1 ?_
 refine vseq (KK2 (QM ?_))
 refine QM ?_
 refine QQ (vlen rfl) rfl ?_
 refine QS (vnil ?_)
 refine vcondt rfl (vskip (vseq (vblock (KK2 (QN ?_)))))
 refine QM ?_
 refine QM ?_
 refine QQ (vcq rfl rfl rfl (q_pass00 oa cp _)) rfl ?_
 refine QM ?_
 refine QX ?_
 refine QX ?_
 refine QA ?_
 refine QA (vnil (vseq (KK2 ?_)))
 refine QM ?_
 refine QQ (vnot rfl) rfl (vnil ?_)
 refine vcondf rfl (vskip (vseq ?_))
 refine vdraw [(.q, 0), (.q, 1), (.q, 2), (.q, 3), (.q, 4), (.q, 5), (.q, 6), (.q, 7), (.q, 8), (.q, 9), (.q, 10), (.q, 11), (.q, 12), (.q, 13), (.q, 14), (.q, 15), (.q, 16), (.a (blk [.int .i64 0, .int .i64 0, .int .i64 0] (73)), 17), (.s, 18)] Tryz.mixed (by kernel_rfl) ⟨⟨_, _, _, _, _, rfl, _, inferInstance, rfl⟩, True.intro⟩ ?_
 refine DM ?_
 refine DM ?_
 refine DM ?_
 refine DD (vadd rfl rfl (by unfold InR; decide)) rfl ?_
 refine DD (vis rfl rfl (by decide)) rfl ?_
 refine DF ?_
 refine DL ?_
 refine DD (vadd rfl rfl (by unfold InR; decide)) rfl ?_
 refine DM ?_
 refine DM ?_
 refine DD (vadd rfl rfl (by unfold InR; decide)) rfl ?_
 refine DD (vis rfl rfl (by decide)) rfl ?_
 refine DF ?_
 refine DL ?_
 refine DD (vadd rfl rfl (by unfold InR; decide)) rfl ?_
 refine DM ?_
 refine DB ?_
 refine vda rfl rfl (fun b3 => ?_)
 refine vds (mone rfl) (vstn rfl rfl rfl rfl rfl) rfl ?_
 refine vdend rfl (vseq ?_)
 refine DR [(.q, 0), (.q, 1), (.q, 2), (.q, 3), (.q, 4), (.q, 5), (.q, 6), (.q, 7), (.q, 8), (.q, 9), (.q, 10), (.q, 11), (.q, 12), (.q, 13), (.q, 14), (.q, 15), (.q, 16), (.q, 17), (.q, 18), (.q, 19), (.q, 20), (.q, 21), (.q, 22), (.q, 23), (.q, 24), (.q, 25), (.q, 26), (.q, 27), (.q, 28), (.q, 29), (.q, 30), (.q, 31), (.q, 32)] Tryz.mixed ?_
 refine DM ?_
 refine DM ?_
 refine DE ?_
 refine DM ?_
 refine NP4 ?_
 refine NP4 ?_
 refine DT ?_
 refine DM ?_
 refine NP4 ?_
 refine NP4 ?_
 refine NP ?_
 refine vdnou rfl rfl rfl rfl rfl ?_
 refine vdnou rfl rfl rfl rfl rfl ?_
 refine vdnou rfl rfl rfl rfl rfl ?_
 refine vdnou rfl rfl rfl rfl rfl ?_
 refine vdnou rfl rfl rfl rfl rfl ?_
 refine vdnou rfl rfl rfl rfl rfl ?_
 refine vdnou rfl rfl rfl rfl rfl ?_
 refine vdnou rfl rfl rfl rfl rfl ?_
 refine NP ?_
 refine DT (vdend rfl ?_)
 refine vcondt rfl (vregion (QM ?_))
 refine QM ?_
 refine QN ?_
 refine QQ (vis rfl rfl (by decide)) rfl ?_
 refine SN (vnil (vinblock (vregion ?_)))
 refine QM ?_
 refine QQ (vadd rfl rfl (by unfold InR; decide)) rfl ?_
 refine QA (vnil ?_)
 refine vinloop1 ?_
 refine vseq (KK2 (QM ?_))
 refine QM ?_
 refine QQ (vlen rfl) rfl ?_
 refine QS (vnil ?_)
 refine vcondt rfl (vskip (vseq (vblock (KK2 (QN ?_)))))
 refine QM ?_
 refine QM ?_
 refine QQ (vcq rfl rfl rfl (q_pass01 oa cp _)) rfl ?_
 refine QM ?_
 refine QX ?_
 refine QX ?_
 refine QA ?_
 refine QA (vnil (vseq (KK2 ?_)))
 refine QM ?_
 refine QQ (vnot rfl) rfl (vnil ?_)
 refine vcondf rfl (vskip (vseq ?_))
 refine vdraw [(.q, 0), (.q, 1), (.q, 2), (.q, 3), (.q, 4), (.q, 5), (.q, 6), (.q, 7), (.q, 8), (.q, 9), (.q, 10), (.q, 11), (.q, 12), (.q, 13), (.q, 14), (.q, 15), (.q, 16), (.a (blk [.int .i64 0, .int .i64 0, .int .i64 0] (73)), 17), (.s, 18)] Tryz.mixed (by kernel_rfl) ⟨⟨_, _, _, _, _, rfl, _, inferInstance, rfl⟩, True.intro⟩ ?_
 refine DM ?_
 refine DM ?_
 refine DM ?_
 refine DD (vadd rfl rfl (by unfold InR; decide)) rfl ?_
 refine DD (vis rfl rfl (by decide)) rfl ?_
 refine DF ?_
 refine DL ?_
 refine DD (vadd rfl rfl (by unfold InR; decide)) rfl ?_
 refine DM ?_
 refine DM ?_
 refine DD (vadd rfl rfl (by unfold InR; decide)) rfl ?_
 refine DD (vis rfl rfl (by decide)) rfl ?_
 refine DF ?_
 refine DL ?_
 refine DD (vadd rfl rfl (by unfold InR; decide)) rfl ?_
 refine DM ?_
 refine DB ?_
 refine vda rfl rfl (fun b4 => ?_)
 refine vds (mone rfl) (vstn rfl rfl rfl rfl rfl) rfl ?_
 refine vdend rfl (vseq ?_)
 refine DR [(.q, 0), (.q, 1), (.q, 2), (.q, 3), (.q, 4), (.q, 5), (.q, 6), (.q, 7), (.q, 8), (.q, 9), (.q, 10), (.q, 11), (.q, 12), (.q, 13), (.q, 14), (.q, 15), (.q, 16), (.q, 17), (.q, 18), (.q, 19), (.q, 20), (.q, 21), (.q, 22), (.q, 23), (.q, 24), (.q, 25), (.q, 26), (.q, 27), (.q, 28), (.q, 29), (.q, 30), (.q, 31), (.q, 32)] Tryz.mixed ?_
 refine DM ?_
 refine DM ?_
 refine DE ?_
 refine DM ?_
 refine WF ?_
 refine WL ?_
 refine WM ?_
 refine WM ?_
 refine WW (vis rfl rfl (by decide)) rfl ?_
 refine WF ?_
 refine WL ?_
 refine WS ?_
 refine DU ?_
 refine DM ?_
 refine WF ?_
 refine WL ?_
 refine WM ?_
 refine WM ?_
 refine WW (vis rfl rfl (by decide)) rfl ?_
 refine WF ?_
 refine WL ?_
 refine WE ?_
 refine WM ?_
 refine WF ?_
 refine WL ?_
 refine WM ?_
 refine WM ?_
 refine WW (vis rfl rfl (by decide)) rfl ?_
 refine WF ?_
 refine WL ?_
 refine WS ?_
 refine WT ?_
 refine DU (vdend rfl ?_)
 refine vcondt rfl (vregion (QM ?_))
 refine QM ?_
 refine QN ?_
 refine QQ (vis rfl rfl (by decide)) rfl ?_
 refine SN (vnil (vinblock (vregion ?_)))
 refine QM ?_
 refine QQ (vadd rfl rfl (by unfold InR; decide)) rfl ?_
 refine QA (vnil ?_)
 refine vinloop1 ?_
 refine vseq (KK2 (QM ?_))
 refine QM ?_
 refine QQ (vlen rfl) rfl ?_
 refine QS (vnil ?_)
 refine vcondf rfl ?_
 refine vexit (k' := _) rfl ?_
 refine vinblock (vregion (QM ?_))
 refine QQ (vsub rfl rfl (by unfold InR; decide)) rfl ?_
 refine QA (vnil ?_)
 refine vinloop1 ?_
 refine vseq (KK2 (QM ?_))
 refine QQ (vgeq rfl rfl) rfl (vnil ?_)
 refine vcondf rfl ?_
 refine vexit (k' := _) rfl ?_
 refine vseq (KK2 (QA (vnil (vblock ?_))))
 refine vloop1 ?_
 refine vseq (KK2 (QM ?_))
 refine QM ?_
 refine QQ (vlen rfl) rfl ?_
 refine QS (vnil ?_)
 refine vcondt rfl (vskip (vseq (vblock ?_)))
 refine DR [(.q, 0), (.q, 1), (.q, 2), (.q, 3), (.q, 4), (.q, 5), (.q, 6), (.q, 7), (.q, 8), (.q, 9), (.q, 10), (.q, 11), (.q, 12), (.q, 13), (.m, 14), (.s, 15), (.q, 16)] Tryz.mixed ?_
 refine DM ?_
 refine DM ?_
 refine DM ?_
 refine DD (visg (enc := encI) (z := 3) rfl rfl (by decide) a35_0) rfl ?_
 refine DD (vldS1 (enc := encI) (z := 3) rfl a35_0 rfl) rfl ?_
 refine DM ?_
 refine DM ?_
 refine DM ?_
 refine DD (vis rfl rfl (by decide)) rfl ?_
 refine DF ?_
 refine DL ?_
 refine DD (visg (enc := encI) (z := 5) rfl rfl (by decide) a35_1) rfl ?_
 refine DD (vldS1 (enc := encI) (z := 5) rfl a35_1 rfl) rfl ?_
 refine DB ?_
 refine vdm (mone rfl) (vbsP rfl rfl rfl rfl rfl rfl) rfl rfl (fun n1 => ?_)
 refine vdsd (mone rfl) (vappF (F := fun C => C ++ [(n1, blk [I 3, I 5] 60)]) (H0 := [(n1, blk [I 3, I 5] 60)]) (B := []) (xs := []) (a := ⟨n1, 0, Option.none⟩) (m := 1) (c := 1) (size := 2) (bytes := 16) (news := [I 3, I 5]) (fun C => .refl _) rfl rfl OwnS.nil rfl (news_blk (b := n1) (List.Mem.head _)) (fun u hu => by simp at hu; rcases hu with rfl | rfl <;> rfl) (by omega) (by simp only [maxLen]; omega) (by omega)) rfl rfl ?_
 rintro _ _ ⟨B2, hown2, _, rfl⟩
 obtain ⟨oa2, c2, rfl, hle2⟩ := hown2.shape
 refine DA ?_
 refine vdend (appHO_of _ _) ?_
 refine vinblock ?_
 rw [List.append_assoc]
 refine vregion (QM ?_)
 refine QM ?_
 refine QQ (vis rfl rfl (by decide)) rfl ?_
 refine QF ?_
 refine QL ?_
 refine QQ (vadd rfl rfl (by unfold InR; decide)) rfl ?_
 refine QA (vnil ?_)
 refine vinloop1 ?_
 refine vseq (KK2 (QM ?_))
 refine QM ?_
 refine QQ (vlen rfl) rfl ?_
 refine QS (vnil ?_)
 refine vcondf rfl ?_
 refine vexit (k' := _) rfl ?_
 refine vseq ?_
 refine DR [(.q, 0), (.q, 1), (.q, 2), (.q, 3), (.q, 4), (.q, 5), (.q, 6), (.q, 7)] Tryz.mixed ?_
 refine DM ?_
 refine DM ?_
 refine DD (vis rfl rfl (by decide)) rfl ?_
 refine DF ?_
 refine DL ?_
 refine DA ?_
 refine DA ?_
 refine DA (vdend rfl ?_)
 refine vret (vr3 (H' := B2 ++ H) Tryz.func29 rfl (.tmp rfl) (.tmp rfl) (.tmp rfl) sb2 ?_)
 exact ⟨oa2, c2, B2, rfl, rfl, hown2⟩
end Go.Proofs.YtoebpndlbldfcaaGreatDoor
namespace Go.Proofs.YtoebpndlbldfcaaGreatDoor
open Go
set_option maxRecDepth 100000
class Tabs (H : Heap) : Prop where
  pow : SlO H (some ⟨2, 0, Option.none⟩) 1 (fun v : Value => [v]) [.int .u64 1, .int .u64 10, .int .u64 100, .int .u64 1000]
  bru : SlO H (some ⟨5, 0, Option.none⟩) 1 (fun v : Value => [v]) [.int .u8 0, .int .u8 1, .int .u8 56, .int .u8 2, .int .u8 57, .int .u8 49, .int .u8 28, .int .u8 3, .int .u8 61, .int .u8 58, .int .u8 42, .int .u8 50, .int .u8 38, .int .u8 29, .int .u8 17, .int .u8 4]
theorem Tabs.sub {H H' : Heap} (h : Tabs H) (hm : ∀ e ∈ H, e ∈ H') : Tabs H' := ⟨h.pow.sub hm, h.bru.sub hm⟩
instance (priority := low) Tabs.tail {x : Nat × Obj} {H : Heap} [h : Tabs H] : Tabs (x :: H) := h.sub fun e he => List.mem_cons_of_mem _ he
instance (priority := low) Tabs.appR {A B : Heap} [h : Tabs B] : Tabs (A ++ B) := h.sub fun e he => List.mem_append_right _ he
attribute [local irreducible] tightP hullP rootP farP rows endsOf valM ringF unF addR
instance tFn98 : TFn Tryz.prog 98 := mFn Tryz.func98
instance tFn133 : TFn Tryz.prog 133 := mFn Tryz.func133
instance tFn134 : TFn Tryz.prog 134 := mFn Tryz.func134
instance tFn135 : TFn Tryz.prog 135 := mFn Tryz.func135
instance tFn136 : TFn Tryz.prog 136 := mFn Tryz.func136
instance tFn139 : TFn Tryz.prog 139 := mFn Tryz.func139
instance tFn165 : TFn Tryz.prog 165 := mFn Tryz.func165
instance tFn167 : TFn Tryz.prog 167 := mFn Tryz.func167
instance tFn168 : TFn Tryz.prog 168 := mFn Tryz.func168
theorem k_small12 (H : Heap) : VHas Tryz.prog 133 [.int .i64 12] (.string (ByteArray.mk #[49, 50])) H H := by
 refine CV 15 Tryz.func133 ?_
 refine KK2 (QA (vnil (vseq (KK2 ?_))))
 refine QM ?_
 refine QKb (.bool false) (vnil ?_)
 refine vcondf rfl (vskip (KK2 (QM ?_)))
 refine QKb (.int .i64 24) ?_
 refine QM ?_
 refine QKb (.int .i64 24) ?_
 refine QKb (.int .i64 26) ?_
 refine QQ (vslK (r := .string (ByteArray.mk #[49, 50])) rfl rfl rfl (fun _ => by kernel_rfl)) rfl ?_
 refine QA (vnil ?_)
 refine vret (V1 (H) Tryz.func133 ?_)
 exact ⟨rfl, rfl⟩
theorem k_b2t (H : Heap) : VHas Tryz.prog 167 [.bool true] (.int .i64 1) H H := by
 refine CV 4 Tryz.func167 ?_
 refine KK2 (QA (vnil (vseq (KK2 ?_))))
 refine QM (vnil ?_)
 refine vcondt rfl (KK2 (QA (vnil ?_)))
 refine vret (V1 (H) Tryz.func167 ?_)
 exact ⟨rfl, rfl⟩
theorem k_b2f (H : Heap) : VHas Tryz.prog 167 [.bool false] (.int .i64 0) H H := by
 refine CV 4 Tryz.func167 ?_
 refine KK2 (QA (vnil (vseq (KK2 ?_))))
 refine QM (vnil ?_)
 refine vcondf rfl (vskip (KK2 (QA (vnil ?_))))
 refine vret (V1 (H) Tryz.func167 ?_)
 exact ⟨rfl, rfl⟩
theorem k_log7 (H : Heap) : VHas Tryz.prog 165 [.int .i64 7] (.int .i64 2) H H := by
 refine CV 6 Tryz.func165 ?_
 refine KK2 (QA (KK3 ?_))
 refine QM ?_
 refine QKb (.int .i64 552391) ?_
 refine QKb (.int .i64 2) ?_
 refine QA (vnil ?_)
 refine vret (V1 (H) Tryz.func165 ?_)
 exact ⟨rfl, rfl⟩
theorem k_log13 (H : Heap) : VHas Tryz.prog 165 [.int .i64 13] (.int .i64 3) H H := by
 refine CV 6 Tryz.func165 ?_
 refine KK2 (QA (KK3 ?_))
 refine QM ?_
 refine QKb (.int .i64 1025869) ?_
 refine QKb (.int .i64 3) ?_
 refine QA (vnil ?_)
 refine vret (V1 (H) Tryz.func165 ?_)
 exact ⟨rfl, rfl⟩
theorem k_log10 (H : Heap) : VHas Tryz.prog 165 [.int .i64 10] (.int .i64 3) H H := by
 refine CV 6 Tryz.func165 ?_
 refine KK2 (QA (KK3 ?_))
 refine QM ?_
 refine QKb (.int .i64 789130) ?_
 refine QKb (.int .i64 3) ?_
 refine QA (vnil ?_)
 refine vret (V1 (H) Tryz.func165 ?_)
 exact ⟨rfl, rfl⟩
theorem k_len123 (H : Heap) : VHas Tryz.prog 166 [.int .u64 123] (.int .i64 7) H H := by
 refine CV 25 Tryz.func166 ?_
 refine KK2 (QA (vnil (vseq (KK2 ?_))))
 refine QM ?_
 refine QKb (.bool false) (vnil ?_)
 refine vcondf rfl (vskip (vseq (KK2 (QM ?_))))
 refine QKb (.bool false) (vnil ?_)
 refine vcondf rfl (vskip (vseq (KK2 (QM ?_))))
 refine QKb (.bool false) (vnil ?_)
 refine vcondf rfl (vskip (KK2 (QM ?_)))
 refine QM ?_
 refine QKc (.int .u8 123) ?_
 refine QKi (.int .u8 7) ?_
 refine QKc (.int .i64 7) ?_
 refine QKb (.int .i64 7) ?_
 refine QA (vnil ?_)
 refine vret (V1 (H) Tryz.func166 ?_)
 exact ⟨rfl, rfl⟩
theorem k_nd123 (H : Heap) [hg : Tabs H] : VHas Tryz.prog 134 [.int .u64 123] (.int .i64 3) H H := by
 refine CV 15 Tryz.func134 ?_
 refine KK2 (QA (KK3 ?_))
 refine QM ?_
 refine QQ (vcq rfl rfl rfl (k_len123 _)) rfl ?_
 refine QQ (vcq rfl rfl rfl (k_log7 _)) rfl ?_
 refine QA (KK3 ?_)
 refine QM ?_
 refine QM ?_
 refine QM ?_
 refine QQ (via rfl rfl (by decide)) rfl ?_
 refine QQ (vldS1 (hS := Tabs.pow) (m := 2) (z := .int .u64 100) rfl rfl rfl) rfl ?_
 refine QKb (.bool true) ?_
 refine QQ (vcq rfl rfl rfl (k_b2t _)) rfl ?_
 refine QKb (.int .i64 3) ?_
 refine QA (vnil ?_)
 refine vret (V1 (H) Tryz.func134 ?_)
 exact ⟨rfl, rfl⟩
theorem k_len4567 (H : Heap) : VHas Tryz.prog 166 [.int .u64 4567] (.int .i64 13) H H := by
 refine CV 25 Tryz.func166 ?_
 refine KK2 (QA (vnil (vseq (KK2 ?_))))
 refine QM ?_
 refine QKb (.bool false) (vnil ?_)
 refine vcondf rfl (vskip (vseq (KK2 (QM ?_))))
 refine QKb (.bool false) (vnil ?_)
 refine vcondf rfl (vskip (vseq (KK2 (QM ?_))))
 refine QKb (.bool true) (vnil ?_)
 refine vcondt rfl (KK2 (QM ?_))
 refine QKb (.int .u64 17) ?_
 refine QA (vnil (vregion ?_))
 refine QM ?_
 refine QKb (.int .i64 8) ?_
 refine QA (KK3 ?_)
 refine QM ?_
 refine QM ?_
 refine QKc (.int .u8 17) ?_
 refine QKi (.int .u8 5) ?_
 refine QKc (.int .i64 5) ?_
 refine QKb (.int .i64 13) ?_
 refine QA (vnil ?_)
 refine vret (V1 (H) Tryz.func166 ?_)
 exact ⟨rfl, rfl⟩
theorem k_nd4567 (H : Heap) [hg : Tabs H] : VHas Tryz.prog 134 [.int .u64 4567] (.int .i64 4) H H := by
 refine CV 15 Tryz.func134 ?_
 refine KK2 (QA (KK3 ?_))
 refine QM ?_
 refine QQ (vcq rfl rfl rfl (k_len4567 _)) rfl ?_
 refine QQ (vcq rfl rfl rfl (k_log13 _)) rfl ?_
 refine QA (KK3 ?_)
 refine QM ?_
 refine QM ?_
 refine QM ?_
 refine QQ (via rfl rfl (by decide)) rfl ?_
 refine QQ (vldS1 (hS := Tabs.pow) (m := 3) (z := .int .u64 1000) rfl rfl rfl) rfl ?_
 refine QKb (.bool true) ?_
 refine QQ (vcq rfl rfl rfl (k_b2t _)) rfl ?_
 refine QKb (.int .i64 4) ?_
 refine QA (vnil ?_)
 refine vret (V1 (H) Tryz.func134 ?_)
 exact ⟨rfl, rfl⟩
theorem k_len890 (H : Heap) : VHas Tryz.prog 166 [.int .u64 890] (.int .i64 10) H H := by
 refine CV 25 Tryz.func166 ?_
 refine KK2 (QA (vnil (vseq (KK2 ?_))))
 refine QM ?_
 refine QKb (.bool false) (vnil ?_)
 refine vcondf rfl (vskip (vseq (KK2 (QM ?_))))
 refine QKb (.bool false) (vnil ?_)
 refine vcondf rfl (vskip (vseq (KK2 (QM ?_))))
 refine QKb (.bool true) (vnil ?_)
 refine vcondt rfl (KK2 (QM ?_))
 refine QKb (.int .u64 3) ?_
 refine QA (vnil (vregion ?_))
 refine QM ?_
 refine QKb (.int .i64 8) ?_
 refine QA (KK3 ?_)
 refine QM ?_
 refine QM ?_
 refine QKc (.int .u8 3) ?_
 refine QKi (.int .u8 2) ?_
 refine QKc (.int .i64 2) ?_
 refine QKb (.int .i64 10) ?_
 refine QA (vnil ?_)
 refine vret (V1 (H) Tryz.func166 ?_)
 exact ⟨rfl, rfl⟩
theorem k_nd890 (H : Heap) [hg : Tabs H] : VHas Tryz.prog 134 [.int .u64 890] (.int .i64 3) H H := by
 refine CV 15 Tryz.func134 ?_
 refine KK2 (QA (KK3 ?_))
 refine QM ?_
 refine QQ (vcq rfl rfl rfl (k_len890 _)) rfl ?_
 refine QQ (vcq rfl rfl rfl (k_log10 _)) rfl ?_
 refine QA (KK3 ?_)
 refine QM ?_
 refine QM ?_
 refine QM ?_
 refine QQ (via rfl rfl (by decide)) rfl ?_
 refine QQ (vldS1 (hS := Tabs.pow) (m := 3) (z := .int .u64 1000) rfl rfl rfl) rfl ?_
 refine QKb (.bool false) ?_
 refine QQ (vcq rfl rfl rfl (k_b2f _)) rfl ?_
 refine QKb (.int .i64 3) ?_
 refine QA (vnil ?_)
 refine vret (V1 (H) Tryz.func134 ?_)
 exact ⟨rfl, rfl⟩
end Go.Proofs.YtoebpndlbldfcaaGreatDoor
namespace Go.Proofs.YtoebpndlbldfcaaGreatDoor
open Go Go.ChangeShapes Go.WideShapes Go.ChangeAt Go.RowKit
theorem add_blk (b k : Nat) : (⟨b, 0, Option.none⟩ : Addr).add k = ⟨b, k, Option.none⟩ := by
  unfold Addr.add
  by_cases h : k = 0
  · subst h; rfl
  · simp [h]
theorem slo_glob {α : Type} {W : World} {b esz : Nat} {en : α → List Value} {l : List α} (h0 : 0 < esz) (hlen : ∀ x ∈ l, (en x).length = esz) (hc : ∀ (i : Nat) x (j : Nat) v, l[i]? = some x → (en x)[j]? = some v → W.cell? ⟨b, i * esz + j, Option.none⟩ = some v) : SlO (allH W) (some ⟨b, 0, Option.none⟩) esz en l := by
  refine ⟨fun i x hx => ?_⟩
  have hl := hlen x (List.mem_of_getElem? hx)
  refine ⟨hl, ⟨b, 0, Option.none⟩, ?_⟩
  obtain ⟨ob, hb, _⟩ := cell_block (hc i x 0 _ hx (List.getElem?_eq_getElem (show 0 < (en x).length by omega)))
  refine ⟨ob, rfl, allH_mem.2 hb, fun j v hv => ?_⟩
  have := hc i x j v hx hv
  rw [add_blk, ← oCell_eq (w := W) (a := ⟨b, i * esz + j, Option.none⟩) hb]; exact this
section
variable {HH : Type} {enc : TypeId × Value → HH} {P : Program} {w : World} {base : Nat} {sp : Nat → Bool} {held : Bool}
theorem arr_cell {n : Nat} {t e : TypeId} {fuel : Nat} {cs : List Value} {ds : List (DataW HH)} {p : List MemPlace} (ht : P.underlying t = some (.array n e)) (hc : P.cellsOf e = 1) (hct : P.cellsOf t = n) (h : DataW.trod enc P w base sp held fuel t cs = some (.agg ds, p)) :
    ds.length = n ∧ ∀ (i : Nat) d, ds[i]? = some d → ∃ v m q, cs[i]? = some v ∧ DataW.trod enc P w base sp held m e [v] = some (d, q) := by
  obtain ⟨xs, m, _, hx, hl, hn, hf⟩ := DataW.trod_array ht h
  simp only [Prod.mk.injEq, DataW.agg.injEq] at hx
  obtain ⟨rfl, _⟩ := hx
  refine ⟨by simpa using hn, fun i d hd => ?_⟩
  rw [List.getElem?_map] at hd
  cases hy : xs[i]? with
  | none => rw [hy] at hd; cases hd
  | some y =>
    rw [hy] at hd
    simp only [Option.map_some, Option.some.injEq] at hd
    have hi : i < n := by have := (List.getElem?_eq_some_iff.1 hy).1; omega
    have h1 := hf i hi
    rw [hc, Nat.mul_one, hy] at h1
    have hlt : i < cs.length := by rw [hl, hct]; exact hi
    rw [List.drop_eq_getElem_cons hlt] at h1
    simp only [List.take_succ_cons, List.take_zero] at h1
    exact ⟨cs[i], m, y.2, List.getElem?_eq_getElem hlt, by rw [h1, ← hd]⟩
theorem str_cell {fs : Array Field} {t : TypeId} {fuel : Nat} {cs : List Value} {ds : List (DataW HH)} {p : List MemPlace} (ht : P.underlying t = some (.struct fs)) (hct : P.cellsOf t = fs.size) (hfs : ∀ (i : Nat) (f : Field), fs[i]? = some f → f.offset = i ∧ P.cellsOf f.type = 1) (h : DataW.trod enc P w base sp held fuel t cs = some (.agg ds, p)) :
    ds.length = fs.size ∧ ∀ (i : Nat) (f : Field) d, fs[i]? = some f → ds[i]? = some d → ∃ v m q, cs[i]? = some v ∧ DataW.trod enc P w base sp held m f.type [v] = some (d, q) := by
  obtain ⟨xs, m, _, hx, hl, hn, hf⟩ := DataW.trod_struct ht h
  simp only [Prod.mk.injEq, DataW.agg.injEq] at hx
  obtain ⟨rfl, _⟩ := hx
  refine ⟨by simpa using hn, fun i f d hff hd => ?_⟩
  rw [List.getElem?_map] at hd
  cases hy : xs[i]? with
  | none => rw [hy] at hd; cases hd
  | some y =>
    rw [hy] at hd
    simp only [Option.map_some, Option.some.injEq] at hd
    have hi : i < fs.size := by have := (List.getElem?_eq_some_iff.1 hy).1; omega
    have h1 := hf i f hff
    obtain ⟨g1, g2⟩ := hfs i f hff
    rw [g1, g2, hy] at h1
    have hlt : i < cs.length := by rw [hl, hct]; exact hi
    rw [List.drop_eq_getElem_cons hlt] at h1
    simp only [List.take_succ_cons, List.take_zero] at h1
    exact ⟨cs[i], m, y.2, List.getElem?_eq_getElem hlt, by rw [h1, ← hd]⟩
end
abbrev plainL : List (String × DataW Unit) := [("math/bits.deBruijn32tab", Rows.laid_math_bits_deBruijn32tab), ("math/bits.deBruijn64tab", Rows.laid_math_bits_deBruijn64tab), ("internal/strconv.uint64pow10", Rows.laid_internal_strconv_uint64pow10), ("paravane/bin.none", Rows.laid_paravane_bin_none), ("paravane/watch.first", Rows.laid_paravane_watch_first)]
abbrev laidL : List (String × DataW Unit) := [("math/bits.deBruijn32tab", Rows.laid_math_bits_deBruijn32tab), ("math/bits.deBruijn64tab", Rows.laid_math_bits_deBruijn64tab), ("internal/strconv.uint64pow10", Rows.laid_internal_strconv_uint64pow10), ("paravane/bin.none", Rows.laid_paravane_bin_none), ("paravane/watch.first", Rows.laid_paravane_watch_first), ("paravane/watch.octants", Rows.laid_paravane_watch_octants)]
theorem gl_plain {W : World} (h : laidMetH Tryz.prog laidL W) : laidMet Tryz.prog plainL W := by
  have e1 : (laidL.filter fun x => x.2.handleName?.isSome) = [("paravane/watch.octants", Rows.laid_paravane_watch_octants)] := by kernel_rfl
  have e2 : (laidL.filter fun x => x.2.handleName?.isNone) = plainL := by kernel_rfl
  unfold laidMetH at h
  rw [e1, e2] at h
  exact h.1
theorem gl_split {W : World} (h : laidMetH Tryz.prog laidL W) : laidMet Tryz.prog [("paravane/watch.first", Rows.laid_paravane_watch_first)] W := by
  have h1 := (gl_plain h).filter (fun x => x.1 == "paravane/watch.first")
  rwa [show plainL.filter (fun x => x.1 == "paravane/watch.first") = [("paravane/watch.first", Rows.laid_paravane_watch_first)] by kernel_rfl] at h1
theorem tab_slo {W : World} {name : String} {g : Nat} {k : IntKind} {zs : List Int} {l : List Value} (m : Nat) (h : Lib.TabIs Tryz.prog W name k zs) (hg : Tryz.prog.globalNamed name = some g) (hl : (zs.map (Value.int k)).take m = l) : SlO (allH W) (some ⟨g, 0, Option.none⟩) 1 (fun v : Value => [v]) l := by
  refine slo_glob (by decide) (fun x _ => rfl) (fun i x j v hx hv => ?_)
  rcases j with _ | j
  · cases hv
    rw [Nat.mul_one, Nat.add_zero, World.var?_cell hg h i]
    rw [← hl, List.getElem?_take] at hx
    split at hx
    · rw [← Array.getElem?_toList]; exact hx
    · cases hx
  · simp at hv
theorem tabs_of {W : World} (h : laidMetH Tryz.prog laidL W) : Tabs (allH W) := by
  have h1 := (gl_plain h).filter (fun x => x.1 == "internal/strconv.uint64pow10")
  rw [show plainL.filter (fun x => x.1 == "internal/strconv.uint64pow10") = [("internal/strconv.uint64pow10", Lib.tabData .u64 [1, 10, 100, 1000, 10000, 100000, 1000000, 10000000, 100000000, 1000000000, 10000000000, 100000000000, 1000000000000, 10000000000000, 100000000000000, 1000000000000000, 10000000000000000, 100000000000000000, 1000000000000000000, 10000000000000000000])] by kernel_rfl] at h1
  have h2 := (gl_plain h).filter (fun x => x.1 == "math/bits.deBruijn64tab")
  rw [show plainL.filter (fun x => x.1 == "math/bits.deBruijn64tab") = [("math/bits.deBruijn64tab", Lib.tabData .u8 [0, 1, 56, 2, 57, 49, 28, 3, 61, 58, 42, 50, 38, 29, 17, 4, 62, 47, 59, 36, 45, 43, 51, 22, 53, 39, 33, 30, 24, 18, 12, 5, 63, 55, 48, 27, 60, 41, 37, 16, 46, 35, 44, 21, 52, 32, 23, 11, 54, 26, 40, 15, 34, 20, 31, 10, 25, 14, 19, 9, 13, 8, 7, 6])] by kernel_rfl] at h2
  refine ⟨tab_slo 4 (Lib.tabIs_of_head (g := 2) (by kernel_rfl) (by kernel_rfl) Tryz.underlying293 Tryz.underlying239 (by kernel_rfl) (by kernel_rfl) h1) (by kernel_rfl) rfl, tab_slo 16 (Lib.tabIs_of_head (g := 5) (by kernel_rfl) (by kernel_rfl) Tryz.underlying364 Tryz.underlying5 (by kernel_rfl) (by kernel_rfl) h2) (by kernel_rfl) rfl⟩
theorem gl_first {W : World} (h : laidMetH Tryz.prog laidL W) : W.cell? ⟨1, 0, Option.none⟩ = some (I 0) ∧ W.cell? ⟨1, 1, Option.none⟩ = some (I (-1)) := by
  obtain ⟨ps, ⟨g, t, cs, fuel, p, q, hg, ht, hv, hd, _, _⟩, _⟩ := gl_split h
  obtain rfl := Option.some.inj ((show Tryz.prog.globalNamed "paravane/watch.first" = some 1 by kernel_rfl).symm.trans hg)
  obtain rfl := Option.some.inj ((show (Tryz.prog.globals[1]?).map (·.type) = some 117 by kernel_rfl).symm.trans ht)
  obtain ⟨_, hf⟩ := str_cell Tryz.underlying117 (by kernel_rfl) (fun i f hif => by
    rcases i with _ | _ | i
    · cases hif; exact ⟨rfl, by kernel_rfl⟩
    · cases hif; exact ⟨rfl, by kernel_rfl⟩
    · simp at hif) (show DataW.trod _ _ _ _ _ _ _ _ _ = some (.agg [.lit (.int .i64 0), .lit (.int .i64 (-1))], p) from hd)
  obtain ⟨v0, m0, q0, c0, h0⟩ := hf 0 _ _ rfl rfl
  obtain ⟨v1, m1, q1, c1, h1⟩ := hf 1 _ _ rfl rfl
  obtain ⟨n0, e0, r0, _⟩ := DataW.trod_int Tryz.underlying3 h0
  obtain ⟨n1, e1, r1, _⟩ := DataW.trod_int Tryz.underlying3 h1
  cases e0; cases e1; cases r0; cases r1
  have k := fun i => World.var?_cell hg hv i
  refine ⟨(k 0).trans ?_, (k 1).trans ?_⟩
  · rw [← Array.getElem?_toList]; exact c0
  · rw [← Array.getElem?_toList]; exact c1
theorem gl_oct {W : World} (h : laidMetH Tryz.prog laidL W) : ∀ (i : Nat) v, octL[i]? = some v → W.cell? ⟨6, i, Option.none⟩ = some v := by
  obtain ⟨g, t, cs, fuel, p, hg, ht, hv, hd⟩ := h.funcs (n := "paravane/watch.octants") (by simp only [laidL, List.mem_cons]; exact .inr (.inr (.inr (.inr (.inr (.inl rfl))))))
  obtain rfl := Option.some.inj ((show Tryz.prog.globalNamed "paravane/watch.octants" = some 6 by kernel_rfl).symm.trans hg)
  obtain rfl := Option.some.inj ((show (Tryz.prog.globals[6]?).map (·.type) = some 368 by kernel_rfl).symm.trans ht)
  obtain ⟨_, hf⟩ := arr_cell Tryz.underlying368 (by kernel_rfl) (by kernel_rfl) hd
  have k := fun i => World.var?_cell hg hv i
  have one : ∀ (i : Nat) (f0 : FuncId) (b : UInt8) (r : List UInt8), (∃ v m q, cs.toList[i]? = some v ∧ DataW.trod (funcToken Tryz.prog) Tryz.prog W 0 (fun _ => true) true m 367 [v] = some (.held (b :: r), q)) → ((List.range Tryz.prog.funcs.size).filter fun f => (Tryz.prog.funcs[f]?).any (·.name.toUTF8.data.toList == b :: r)) = [f0] → W.cell? ⟨6, i, Option.none⟩ = some (fnv f0) := by
    rintro i f0 b r ⟨v, m, q, hcv, htr⟩ hone
    have := func_of_trod Tryz.underlying367 hone htr
    subst this
    refine (k i).trans ?_
    rw [← Array.getElem?_toList]; exact hcv
  intro i v hiv
  rcases i with _ | _ | _ | _ | _ | _ | _ | _ | i
  · cases hiv; exact one 0 _ _ _ (hf 0 _ rfl) (by kernel_rfl)
  · cases hiv; exact one 1 _ _ _ (hf 1 _ rfl) (by kernel_rfl)
  · cases hiv; exact one 2 _ _ _ (hf 2 _ rfl) (by kernel_rfl)
  · cases hiv; exact one 3 _ _ _ (hf 3 _ rfl) (by kernel_rfl)
  · cases hiv; exact one 4 _ _ _ (hf 4 _ rfl) (by kernel_rfl)
  · cases hiv; exact one 5 _ _ _ (hf 5 _ rfl) (by kernel_rfl)
  · cases hiv; exact one 6 _ _ _ (hf 6 _ rfl) (by kernel_rfl)
  · cases hiv; exact one 7 _ _ _ (hf 7 _ rfl) (by kernel_rfl)
  · simp [octL] at hiv
theorem glob_of {W : World} (h : laidMetH Tryz.prog laidL W) : Glob (allH W) := by
  obtain ⟨h0, h1⟩ := gl_first h
  refine ⟨slo_glob (by decide) (fun x hx => by rw [List.mem_singleton.1 hx]; rfl) (fun i x j v hx hv => ?_), slo_glob (by decide) (fun x _ => rfl) (fun i x j v hx hv => ?_)⟩
  · rcases i with _ | i
    · cases hx
      rcases j with _ | _ | j
      · cases hv; exact h0
      · cases hv; exact h1
      · simp at hv
    · simp at hx
  · rcases j with _ | j
    · cases hv; rw [Nat.mul_one, Nat.add_zero]; exact gl_oct h i _ hx
    · simp at hv
theorem door_met (os : Os) (args : Array Value) : laidMetH Tryz.prog laidL ((World.doorLaid Tryz.prog 99 os).forCall (fun _ _ => 0) ⟨#[], args, []⟩).memory :=
  laidMetH_of_parts3 (fuel := 8) (laidMet_of_run' 8 (by kernel_rfl) (by kernel_rfl)) (by kernel_rfl) (by kernel_rfl)
end Go.Proofs.YtoebpndlbldfcaaGreatDoor
namespace Go.Proofs.YtoebpndlbldfcaaGreatDoor
open Go
set_option maxRecDepth 100000
attribute [local irreducible] tightP hullP rootP farP rows endsOf valM ringF unF addR
theorem k_fb123 (b : Nat) (H : Heap) : VHas Tryz.prog 135 [.slice (some ⟨b, 1, Option.none⟩) 3 23, .int .u64 123] (.tuple #[]) ((b, blk [.int .u8 0, .int .u8 0, .int .u8 0, .int .u8 0, .int .u8 0, .int .u8 0, .int .u8 0, .int .u8 0, .int .u8 0, .int .u8 0, .int .u8 0, .int .u8 0, .int .u8 0, .int .u8 0, .int .u8 0, .int .u8 0, .int .u8 0, .int .u8 0, .int .u8 0, .int .u8 0, .int .u8 0, .int .u8 0, .int .u8 0, .int .u8 0] 238) :: H) ((b, blk [.int .u8 0, .int .u8 49, .int .u8 50, .int .u8 51, .int .u8 0, .int .u8 0, .int .u8 0, .int .u8 0, .int .u8 0, .int .u8 0, .int .u8 0, .int .u8 0, .int .u8 0, .int .u8 0, .int .u8 0, .int .u8 0, .int .u8 0, .int .u8 0, .int .u8 0, .int .u8 0, .int .u8 0, .int .u8 0, .int .u8 0, .int .u8 0] 238) :: H) := by
 refine CV 167 Tryz.func135 ?_
 refine KK2 (QM ?_)
 refine QQ (vlen rfl) rfl ?_
 refine QA (vnil (vseq (vblock ?_)))
 refine vloop1 ?_
 refine vseq (KK2 (QM ?_))
 refine QKb (.bool false) (vnil ?_)
 refine vcondf rfl ?_
 refine vexit (k' := _) rfl ?_
 refine KK2 (QM ?_)
 refine QKc (.int .u32 123) ?_
 refine QA (vnil (vseq (KK2 ?_)))
 refine QM ?_
 refine QKb (.bool false) (vnil ?_)
 refine vcondf rfl (vskip (vseq (KK2 (QM ?_))))
 refine QKb (.bool true) (vnil ?_)
 refine vcondt rfl (KK2 (QM ?_))
 refine QKb (.int .u32 23) ?_
 refine QKb (.int .u32 46) ?_
 refine QA (KK3 ?_)
 refine QM ?_
 refine QKb (.int .u32 1) ?_
 refine QA (vnil (vseq ?_))
 refine vdrawP (G0 := [(b, blk [.int .u8 0, .int .u8 0, .int .u8 0, .int .u8 0, .int .u8 0, .int .u8 0, .int .u8 0, .int .u8 0, .int .u8 0, .int .u8 0, .int .u8 0, .int .u8 0, .int .u8 0, .int .u8 0, .int .u8 0, .int .u8 0, .int .u8 0, .int .u8 0, .int .u8 0, .int .u8 0, .int .u8 0, .int .u8 0, .int .u8 0, .int .u8 0] 238)]) (H0 := H) (.refl _) [(.q, 0), (.q, 1), (.q, 2), (.q, 3), (.q, 4), (.q, 5), (.q, 6), (.q, 7), (.q, 8), (.q, 9), (.q, 10), (.q, 11), (.s, 12), (.q, 13), (.s, 14)] Tryz.mixed (by kernel_rfl) (allocOk_of _ (by kernel_rfl)) ?_
 refine DM ?_
 refine DM ?_
 refine DD (vbinK (r := .int .i64 2) rfl rfl (fun _ => by kernel_rfl) (fun _ => by kernel_rfl)) rfl ?_
 refine DM ?_
 refine DM ?_
 refine DD (vbinK (r := .int .i64 1) rfl rfl (fun _ => by kernel_rfl) (fun _ => by kernel_rfl)) rfl ?_
 refine DM ?_
 refine DD (vbinK (r := .int .u32 47) rfl rfl (fun _ => by kernel_rfl) (fun _ => by kernel_rfl)) rfl ?_
 refine DD (vixK (r := .int .u8 51) rfl rfl (fun _ => by kernel_rfl)) rfl ?_
 refine DM ?_
 refine DD (vixK (r := .int .u8 50) rfl rfl (fun _ => by kernel_rfl)) rfl ?_
 refine DD (vis rfl rfl (by decide)) rfl ?_
 refine vds (mone rfl) (vst1 rfl rfl rfl rfl) rfl ?_
 refine DD (vis rfl rfl (by decide)) rfl ?_
 refine vds (mone rfl) (vst1 rfl rfl rfl rfl) rfl ?_
 refine vdend rfl (vregion (QM ?_))
 refine QKb (.int .i64 1) ?_
 refine QA (KK3 ?_)
 refine QM ?_
 refine QKb (.bool true) (vnil ?_)
 refine vcondt rfl (vregion (QM ?_))
 refine QM ?_
 refine QKb (.int .u32 49) ?_
 refine QKc (.int .u8 49) ?_
 refine QQ (vis rfl rfl (by decide)) rfl ?_
 refine SU (vnil ?_)
 refine vend (vr0 (H' := (b, blk [.int .u8 0, .int .u8 49, .int .u8 50, .int .u8 51, .int .u8 0, .int .u8 0, .int .u8 0, .int .u8 0, .int .u8 0, .int .u8 0, .int .u8 0, .int .u8 0, .int .u8 0, .int .u8 0, .int .u8 0, .int .u8 0, .int .u8 0, .int .u8 0, .int .u8 0, .int .u8 0, .int .u8 0, .int .u8 0, .int .u8 0, .int .u8 0] 238) :: H) Tryz.func135 rfl  sb ?_)
 exact ⟨rfl, rfl⟩
theorem k_fi123 (H : Heap) [hg : Tabs H] : VHas Tryz.prog 98 [.int .i64 123, .int .i64 10] (.string (ByteArray.mk #[49, 50, 51])) H H := by
 refine CV 54 Tryz.func98 ?_
 refine KK2 (QA (vnil (vseq (KK2 ?_))))
 refine QM ?_
 refine QKb (.bool true) (vnil ?_)
 refine vcondt rfl (vseq (KK2 (QM ?_)))
 refine QKb (.bool true) ?_
 refine QM ?_
 refine YM ?_
 refine YY (vbinK (r := .bool false) rfl rfl (fun _ => by kernel_rfl) (fun _ => by kernel_rfl)) rfl ?_
 refine QT (vnil ?_)
 refine vcondf rfl (vskip (KK2 (AL fun b1 => (KK3 ?_))))
 refine QM ?_
 refine QKc (.int .u64 123) ?_
 refine QA (vnil (vseq (KK2 ?_)))
 refine QM ?_
 refine QKb (.bool false) (vnil ?_)
 refine vcondf rfl (vskip (KK2 (QM ?_)))
 refine QQ (vcq rfl rfl rfl (k_nd123 _)) rfl ?_
 refine QA (KK3 ?_)
 refine QM ?_
 refine QKb (.int .i64 4) ?_
 refine QQ (vslK (r := .slice (some ⟨b1, 1, Option.none⟩) 3 23) rfl rfl rfl (fun _ => by kernel_rfl)) rfl ?_
 refine QM ?_
 refine vone rfl (vxg (vch rfl rfl rfl (k_fb123 b1 _)) rfl rfl ?_)
 rintro _ _ ⟨rfl, rfl⟩
 refine vnil (vseq (KK2 (QM ?_)))
 refine QKb (.bool false) (vnil ?_)
 refine vcondf rfl (vskip (KK2 (QM ?_)))
 refine QKb (.int .i64 4) ?_
 refine QQ (vslK (r := .slice (some ⟨b1, 1, Option.none⟩) 3 23) rfl rfl rfl (fun _ => by kernel_rfl)) rfl ?_
 refine QQ (vcvB (e := 5) (xs := [49, 50, 51]) (s := ByteArray.mk #[49, 50, 51]) (by kernel_rfl) (by kernel_rfl) (by kernel_rfl) rfl rfl rfl) rfl ?_
 refine QA (vnil ?_)
 refine vret (V1 (H) Tryz.func98 ?_)
 exact ⟨rfl, rfl⟩
theorem k_fb4567 (b : Nat) (H : Heap) : VHas Tryz.prog 135 [.slice (some ⟨b, 1, Option.none⟩) 4 23, .int .u64 4567] (.tuple #[]) ((b, blk [.int .u8 0, .int .u8 0, .int .u8 0, .int .u8 0, .int .u8 0, .int .u8 0, .int .u8 0, .int .u8 0, .int .u8 0, .int .u8 0, .int .u8 0, .int .u8 0, .int .u8 0, .int .u8 0, .int .u8 0, .int .u8 0, .int .u8 0, .int .u8 0, .int .u8 0, .int .u8 0, .int .u8 0, .int .u8 0, .int .u8 0, .int .u8 0] 238) :: H) ((b, blk [.int .u8 0, .int .u8 52, .int .u8 53, .int .u8 54, .int .u8 55, .int .u8 0, .int .u8 0, .int .u8 0, .int .u8 0, .int .u8 0, .int .u8 0, .int .u8 0, .int .u8 0, .int .u8 0, .int .u8 0, .int .u8 0, .int .u8 0, .int .u8 0, .int .u8 0, .int .u8 0, .int .u8 0, .int .u8 0, .int .u8 0, .int .u8 0] 238) :: H) := by
 refine CV 167 Tryz.func135 ?_
 refine KK2 (QM ?_)
 refine QQ (vlen rfl) rfl ?_
 refine QA (vnil (vseq (vblock ?_)))
 refine vloop1 ?_
 refine vseq (KK2 (QM ?_))
 refine QKb (.bool false) (vnil ?_)
 refine vcondf rfl ?_
 refine vexit (k' := _) rfl ?_
 refine KK2 (QM ?_)
 refine QKc (.int .u32 4567) ?_
 refine QA (vnil (vseq (KK2 ?_)))
 refine QM ?_
 refine QKb (.bool true) (vnil ?_)
 refine vcondt rfl (KK2 (QM ?_))
 refine QKb (.int .u32 4567) ?_
 refine QA (KK3 ?_)
 refine QM ?_
 refine QKb (.int .u32 0) ?_
 refine QA (KK3 ?_)
 refine QM ?_
 refine QKb (.int .u32 45) ?_
 refine QKb (.int .u32 90) ?_
 refine QM ?_
 refine QKb (.int .u32 67) ?_
 refine QKb (.int .u32 134) ?_
 refine QA ?_
 refine QA (vnil (vseq ?_))
 refine vdrawP (G0 := [(b, blk [.int .u8 0, .int .u8 0, .int .u8 0, .int .u8 0, .int .u8 0, .int .u8 0, .int .u8 0, .int .u8 0, .int .u8 0, .int .u8 0, .int .u8 0, .int .u8 0, .int .u8 0, .int .u8 0, .int .u8 0, .int .u8 0, .int .u8 0, .int .u8 0, .int .u8 0, .int .u8 0, .int .u8 0, .int .u8 0, .int .u8 0, .int .u8 0] 238)]) (H0 := H) (.refl _) [(.q, 0), (.q, 1), (.q, 2), (.q, 3), (.q, 4), (.q, 5), (.q, 6), (.q, 7), (.q, 8), (.q, 9), (.q, 10), (.q, 11), (.s, 12), (.q, 13), (.s, 14)] Tryz.mixed (by kernel_rfl) (allocOk_of _ (by kernel_rfl)) ?_
 refine DM ?_
 refine DM ?_
 refine DD (vbinK (r := .int .i64 3) rfl rfl (fun _ => by kernel_rfl) (fun _ => by kernel_rfl)) rfl ?_
 refine DM ?_
 refine DM ?_
 refine DD (vbinK (r := .int .i64 2) rfl rfl (fun _ => by kernel_rfl) (fun _ => by kernel_rfl)) rfl ?_
 refine DM ?_
 refine DD (vbinK (r := .int .u32 135) rfl rfl (fun _ => by kernel_rfl) (fun _ => by kernel_rfl)) rfl ?_
 refine DD (vixK (r := .int .u8 55) rfl rfl (fun _ => by kernel_rfl)) rfl ?_
 refine DM ?_
 refine DD (vixK (r := .int .u8 54) rfl rfl (fun _ => by kernel_rfl)) rfl ?_
 refine DD (vis rfl rfl (by decide)) rfl ?_
 refine vds (mone rfl) (vst1 rfl rfl rfl rfl) rfl ?_
 refine DD (vis rfl rfl (by decide)) rfl ?_
 refine vds (mone rfl) (vst1 rfl rfl rfl rfl) rfl ?_
 refine vdend rfl (vseq ?_)
 refine vdrawP (G0 := [(b, blk [.int .u8 0, .int .u8 0, .int .u8 0, .int .u8 54, .int .u8 55, .int .u8 0, .int .u8 0, .int .u8 0, .int .u8 0, .int .u8 0, .int .u8 0, .int .u8 0, .int .u8 0, .int .u8 0, .int .u8 0, .int .u8 0, .int .u8 0, .int .u8 0, .int .u8 0, .int .u8 0, .int .u8 0, .int .u8 0, .int .u8 0, .int .u8 0] 238)]) (H0 := H) (.refl _) [(.q, 0), (.q, 1), (.q, 2), (.q, 3), (.q, 4), (.q, 5), (.q, 6), (.q, 7), (.q, 8), (.q, 9), (.q, 10), (.q, 11), (.s, 12), (.q, 13), (.s, 14)] Tryz.mixed (by kernel_rfl) (allocOk_of _ (by kernel_rfl)) ?_
 refine DM ?_
 refine DM ?_
 refine DD (vbinK (r := .int .i64 1) rfl rfl (fun _ => by kernel_rfl) (fun _ => by kernel_rfl)) rfl ?_
 refine DM ?_
 refine DM ?_
 refine DD (vbinK (r := .int .i64 0) rfl rfl (fun _ => by kernel_rfl) (fun _ => by kernel_rfl)) rfl ?_
 refine DM ?_
 refine DD (vbinK (r := .int .u32 91) rfl rfl (fun _ => by kernel_rfl) (fun _ => by kernel_rfl)) rfl ?_
 refine DD (vixK (r := .int .u8 53) rfl rfl (fun _ => by kernel_rfl)) rfl ?_
 refine DM ?_
 refine DD (vixK (r := .int .u8 52) rfl rfl (fun _ => by kernel_rfl)) rfl ?_
 refine DD (vis rfl rfl (by decide)) rfl ?_
 refine vds (mone rfl) (vst1 rfl rfl rfl rfl) rfl ?_
 refine DD (vis rfl rfl (by decide)) rfl ?_
 refine vds (mone rfl) (vst1 rfl rfl rfl rfl) rfl ?_
 refine vdend rfl (vregion (QM ?_))
 refine QKb (.int .i64 0) ?_
 refine QA (vnil (vseq (KK2 ?_)))
 refine QM ?_
 refine QKb (.bool false) (vnil ?_)
 refine vcondf rfl (vskip (KK2 (QM ?_)))
 refine QKb (.bool false) (vnil ?_)
 refine vcondf rfl (vskip ?_)
 refine vend (vr0 (H' := (b, blk [.int .u8 0, .int .u8 52, .int .u8 53, .int .u8 54, .int .u8 55, .int .u8 0, .int .u8 0, .int .u8 0, .int .u8 0, .int .u8 0, .int .u8 0, .int .u8 0, .int .u8 0, .int .u8 0, .int .u8 0, .int .u8 0, .int .u8 0, .int .u8 0, .int .u8 0, .int .u8 0, .int .u8 0, .int .u8 0, .int .u8 0, .int .u8 0] 238) :: H) Tryz.func135 rfl  sb ?_)
 exact ⟨rfl, rfl⟩
theorem k_fi4567 (H : Heap) [hg : Tabs H] : VHas Tryz.prog 98 [.int .i64 4567, .int .i64 10] (.string (ByteArray.mk #[52, 53, 54, 55])) H H := by
 refine CV 54 Tryz.func98 ?_
 refine KK2 (QA (vnil (vseq (KK2 ?_))))
 refine QM ?_
 refine QKb (.bool true) (vnil ?_)
 refine vcondt rfl (vseq (KK2 (QM ?_)))
 refine QKb (.bool true) ?_
 refine QM ?_
 refine YM ?_
 refine YY (vbinK (r := .bool false) rfl rfl (fun _ => by kernel_rfl) (fun _ => by kernel_rfl)) rfl ?_
 refine QT (vnil ?_)
 refine vcondf rfl (vskip (KK2 (AL fun b1 => (KK3 ?_))))
 refine QM ?_
 refine QKc (.int .u64 4567) ?_
 refine QA (vnil (vseq (KK2 ?_)))
 refine QM ?_
 refine QKb (.bool false) (vnil ?_)
 refine vcondf rfl (vskip (KK2 (QM ?_)))
 refine QQ (vcq rfl rfl rfl (k_nd4567 _)) rfl ?_
 refine QA (KK3 ?_)
 refine QM ?_
 refine QKb (.int .i64 5) ?_
 refine QQ (vslK (r := .slice (some ⟨b1, 1, Option.none⟩) 4 23) rfl rfl rfl (fun _ => by kernel_rfl)) rfl ?_
 refine QM ?_
 refine vone rfl (vxg (vch rfl rfl rfl (k_fb4567 b1 _)) rfl rfl ?_)
 rintro _ _ ⟨rfl, rfl⟩
 refine vnil (vseq (KK2 (QM ?_)))
 refine QKb (.bool false) (vnil ?_)
 refine vcondf rfl (vskip (KK2 (QM ?_)))
 refine QKb (.int .i64 5) ?_
 refine QQ (vslK (r := .slice (some ⟨b1, 1, Option.none⟩) 4 23) rfl rfl rfl (fun _ => by kernel_rfl)) rfl ?_
 refine QQ (vcvB (e := 5) (xs := [52, 53, 54, 55]) (s := ByteArray.mk #[52, 53, 54, 55]) (by kernel_rfl) (by kernel_rfl) (by kernel_rfl) rfl rfl rfl) rfl ?_
 refine QA (vnil ?_)
 refine vret (V1 (H) Tryz.func98 ?_)
 exact ⟨rfl, rfl⟩
theorem k_fb890 (b : Nat) (H : Heap) : VHas Tryz.prog 135 [.slice (some ⟨b, 1, Option.none⟩) 3 23, .int .u64 890] (.tuple #[]) ((b, blk [.int .u8 0, .int .u8 0, .int .u8 0, .int .u8 0, .int .u8 0, .int .u8 0, .int .u8 0, .int .u8 0, .int .u8 0, .int .u8 0, .int .u8 0, .int .u8 0, .int .u8 0, .int .u8 0, .int .u8 0, .int .u8 0, .int .u8 0, .int .u8 0, .int .u8 0, .int .u8 0, .int .u8 0, .int .u8 0, .int .u8 0, .int .u8 0] 238) :: H) ((b, blk [.int .u8 0, .int .u8 56, .int .u8 57, .int .u8 48, .int .u8 0, .int .u8 0, .int .u8 0, .int .u8 0, .int .u8 0, .int .u8 0, .int .u8 0, .int .u8 0, .int .u8 0, .int .u8 0, .int .u8 0, .int .u8 0, .int .u8 0, .int .u8 0, .int .u8 0, .int .u8 0, .int .u8 0, .int .u8 0, .int .u8 0, .int .u8 0] 238) :: H) := by
 refine CV 167 Tryz.func135 ?_
 refine KK2 (QM ?_)
 refine QQ (vlen rfl) rfl ?_
 refine QA (vnil (vseq (vblock ?_)))
 refine vloop1 ?_
 refine vseq (KK2 (QM ?_))
 refine QKb (.bool false) (vnil ?_)
 refine vcondf rfl ?_
 refine vexit (k' := _) rfl ?_
 refine KK2 (QM ?_)
 refine QKc (.int .u32 890) ?_
 refine QA (vnil (vseq (KK2 ?_)))
 refine QM ?_
 refine QKb (.bool false) (vnil ?_)
 refine vcondf rfl (vskip (vseq (KK2 (QM ?_))))
 refine QKb (.bool true) (vnil ?_)
 refine vcondt rfl (KK2 (QM ?_))
 refine QKb (.int .u32 90) ?_
 refine QKb (.int .u32 180) ?_
 refine QA (KK3 ?_)
 refine QM ?_
 refine QKb (.int .u32 8) ?_
 refine QA (vnil (vseq ?_))
 refine vdrawP (G0 := [(b, blk [.int .u8 0, .int .u8 0, .int .u8 0, .int .u8 0, .int .u8 0, .int .u8 0, .int .u8 0, .int .u8 0, .int .u8 0, .int .u8 0, .int .u8 0, .int .u8 0, .int .u8 0, .int .u8 0, .int .u8 0, .int .u8 0, .int .u8 0, .int .u8 0, .int .u8 0, .int .u8 0, .int .u8 0, .int .u8 0, .int .u8 0, .int .u8 0] 238)]) (H0 := H) (.refl _) [(.q, 0), (.q, 1), (.q, 2), (.q, 3), (.q, 4), (.q, 5), (.q, 6), (.q, 7), (.q, 8), (.q, 9), (.q, 10), (.q, 11), (.s, 12), (.q, 13), (.s, 14)] Tryz.mixed (by kernel_rfl) (allocOk_of _ (by kernel_rfl)) ?_
 refine DM ?_
 refine DM ?_
 refine DD (vbinK (r := .int .i64 2) rfl rfl (fun _ => by kernel_rfl) (fun _ => by kernel_rfl)) rfl ?_
 refine DM ?_
 refine DM ?_
 refine DD (vbinK (r := .int .i64 1) rfl rfl (fun _ => by kernel_rfl) (fun _ => by kernel_rfl)) rfl ?_
 refine DM ?_
 refine DD (vbinK (r := .int .u32 181) rfl rfl (fun _ => by kernel_rfl) (fun _ => by kernel_rfl)) rfl ?_
 refine DD (vixK (r := .int .u8 48) rfl rfl (fun _ => by kernel_rfl)) rfl ?_
 refine DM ?_
 refine DD (vixK (r := .int .u8 57) rfl rfl (fun _ => by kernel_rfl)) rfl ?_
 refine DD (vis rfl rfl (by decide)) rfl ?_
 refine vds (mone rfl) (vst1 rfl rfl rfl rfl) rfl ?_
 refine DD (vis rfl rfl (by decide)) rfl ?_
 refine vds (mone rfl) (vst1 rfl rfl rfl rfl) rfl ?_
 refine vdend rfl (vregion (QM ?_))
 refine QKb (.int .i64 1) ?_
 refine QA (KK3 ?_)
 refine QM ?_
 refine QKb (.bool true) (vnil ?_)
 refine vcondt rfl (vregion (QM ?_))
 refine QM ?_
 refine QKb (.int .u32 56) ?_
 refine QKc (.int .u8 56) ?_
 refine QQ (vis rfl rfl (by decide)) rfl ?_
 refine SU (vnil ?_)
 refine vend (vr0 (H' := (b, blk [.int .u8 0, .int .u8 56, .int .u8 57, .int .u8 48, .int .u8 0, .int .u8 0, .int .u8 0, .int .u8 0, .int .u8 0, .int .u8 0, .int .u8 0, .int .u8 0, .int .u8 0, .int .u8 0, .int .u8 0, .int .u8 0, .int .u8 0, .int .u8 0, .int .u8 0, .int .u8 0, .int .u8 0, .int .u8 0, .int .u8 0, .int .u8 0] 238) :: H) Tryz.func135 rfl  sb ?_)
 exact ⟨rfl, rfl⟩
theorem k_fi890 (H : Heap) [hg : Tabs H] : VHas Tryz.prog 98 [.int .i64 890, .int .i64 10] (.string (ByteArray.mk #[56, 57, 48])) H H := by
 refine CV 54 Tryz.func98 ?_
 refine KK2 (QA (vnil (vseq (KK2 ?_))))
 refine QM ?_
 refine QKb (.bool true) (vnil ?_)
 refine vcondt rfl (vseq (KK2 (QM ?_)))
 refine QKb (.bool true) ?_
 refine QM ?_
 refine YM ?_
 refine YY (vbinK (r := .bool false) rfl rfl (fun _ => by kernel_rfl) (fun _ => by kernel_rfl)) rfl ?_
 refine QT (vnil ?_)
 refine vcondf rfl (vskip (KK2 (AL fun b1 => (KK3 ?_))))
 refine QM ?_
 refine QKc (.int .u64 890) ?_
 refine QA (vnil (vseq (KK2 ?_)))
 refine QM ?_
 refine QKb (.bool false) (vnil ?_)
 refine vcondf rfl (vskip (KK2 (QM ?_)))
 refine QQ (vcq rfl rfl rfl (k_nd890 _)) rfl ?_
 refine QA (KK3 ?_)
 refine QM ?_
 refine QKb (.int .i64 4) ?_
 refine QQ (vslK (r := .slice (some ⟨b1, 1, Option.none⟩) 3 23) rfl rfl rfl (fun _ => by kernel_rfl)) rfl ?_
 refine QM ?_
 refine vone rfl (vxg (vch rfl rfl rfl (k_fb890 b1 _)) rfl rfl ?_)
 rintro _ _ ⟨rfl, rfl⟩
 refine vnil (vseq (KK2 (QM ?_)))
 refine QKb (.bool false) (vnil ?_)
 refine vcondf rfl (vskip (KK2 (QM ?_)))
 refine QKb (.int .i64 4) ?_
 refine QQ (vslK (r := .slice (some ⟨b1, 1, Option.none⟩) 3 23) rfl rfl rfl (fun _ => by kernel_rfl)) rfl ?_
 refine QQ (vcvB (e := 5) (xs := [56, 57, 48]) (s := ByteArray.mk #[56, 57, 48]) (by kernel_rfl) (by kernel_rfl) (by kernel_rfl) rfl rfl rfl) rfl ?_
 refine QA (vnil ?_)
 refine vret (V1 (H) Tryz.func98 ?_)
 exact ⟨rfl, rfl⟩
theorem k_fi12 (H : Heap) [hg : Tabs H] : VHas Tryz.prog 98 [.int .i64 12, .int .i64 10] (.string (ByteArray.mk #[49, 50])) H H := by
 refine CV 54 Tryz.func98 ?_
 refine KK2 (QA (vnil (vseq (KK2 ?_))))
 refine QM ?_
 refine QKb (.bool true) (vnil ?_)
 refine vcondt rfl (vseq (KK2 (QM ?_)))
 refine QKb (.bool true) ?_
 refine QM ?_
 refine YM ?_
 refine YY (vbinK (r := .bool true) rfl rfl (fun _ => by kernel_rfl) (fun _ => by kernel_rfl)) rfl ?_
 refine QT (vnil ?_)
 refine vcondt rfl (KK2 (QM ?_))
 refine QQ (vcq rfl rfl rfl (k_small12 _)) rfl ?_
 refine QA (vnil ?_)
 refine vret (V1 (H) Tryz.func98 ?_)
 exact ⟨rfl, rfl⟩
theorem k_tz16 (H : Heap) [hg : Tabs H] : VHas Tryz.prog 203 [.int .u64 16] (.int .i64 4) H H := by
 refine CV 14 Tryz.func203 ?_
 refine KK2 (QA (vnil (vseq (KK2 ?_))))
 refine QM ?_
 refine QKb (.bool false) (vnil ?_)
 refine vcondf rfl (vskip (KK2 (QM ?_)))
 refine QM ?_
 refine QQ (vunK (r := .int .u64 18446744073709551600) rfl (fun _ => by kernel_rfl)) rfl ?_
 refine QKb (.int .u64 16) ?_
 refine QKb (.int .u64 4573923408821661840) ?_
 refine QKb (.int .u64 15) ?_
 refine QQ (via rfl rfl (by decide)) rfl ?_
 refine QQ (vldS1 (hS := Tabs.bru) (m := 15) (z := .int .u8 4) rfl rfl rfl) rfl ?_
 refine QKc (.int .i64 4) ?_
 refine QA (vnil ?_)
 refine vret (V1 (H) Tryz.func203 ?_)
 exact ⟨rfl, rfl⟩
theorem k_168_1 (H : Heap) [hg : Tabs H] : VHas Tryz.prog 168 [.int .i64 16] (.bool true) H H := by
 refine CV 8 Tryz.func168 ?_
 refine KK2 (QA (KK3 ?_))
 refine QM ?_
 refine QM ?_
 refine QKb (.int .i64 15) ?_
 refine QKb (.int .i64 0) ?_
 refine QKb (.bool true) ?_
 refine QA (vnil ?_)
 refine vret (V1 (H) Tryz.func168 ?_)
 exact ⟨rfl, rfl⟩
theorem k_169_2 (H : Heap) [hg : Tabs H] : VHas Tryz.prog 169 [.int .u64 16] (.int .i64 4) H H := by
 refine CV 8 Tryz.func169 ?_
 refine KK2 (QA (vnil (vseq ?_)))
 refine vcondf rfl (vskip (KK2 (QM ?_)))
 refine QQ (vcq rfl rfl rfl (k_tz16 _)) rfl ?_
 refine QA (vnil ?_)
 refine vret (V1 (H) Tryz.func169 ?_)
 exact ⟨rfl, rfl⟩
theorem k_fbits (H : Heap) [hg : Tabs H] : VHas Tryz.prog 136 [.slice Option.none 0 0, .int .u64 200, .int .i64 16, .bool false, .bool false] (.tuple #[.slice Option.none 0 0, .string (ByteArray.mk #[99, 56])]) H H := by
 refine CV 102 Tryz.func136 ?_
 refine KK2 (QA ?_)
 refine QA (vnil (vseq (KK2 ?_)))
 refine QM ?_
 refine QKb (.bool false) ?_
 refine QM ?_
 refine YM ?_
 refine YY (vbinK (r := .bool false) rfl rfl (fun _ => by kernel_rfl) (fun _ => by kernel_rfl)) rfl ?_
 refine QU ?_
 refine QM ?_
 refine YM ?_
 refine YY (vbinK (r := .bool false) rfl rfl (fun _ => by kernel_rfl) (fun _ => by kernel_rfl)) rfl ?_
 refine QU (vnil ?_)
 refine vcondf rfl (vskip (KK2 (AL fun b1 => (KK3 ?_))))
 refine QA (vnil (vseq (KK2 ?_)))
 refine QM (vnil ?_)
 refine vcondf rfl (vskip (vseq (KK2 (QM ?_))))
 refine QQ (vcq rfl rfl rfl (k_168_1 _)) rfl (vnil ?_)
 refine vcondt rfl (KK2 (QM ?_))
 refine QKc (.int .u64 16) ?_
 refine QQ (vcq rfl rfl rfl (k_169_2 _)) rfl ?_
 refine QKc (.int .u64 4) ?_
 refine QA (KK3 ?_)
 refine QM ?_
 refine QKc (.int .u64 16) ?_
 refine QA (KK3 ?_)
 refine QM ?_
 refine QKc (.int .u64 16) ?_
 refine QKb (.int .u64 15) ?_
 refine QA (vnil (vseq (vblock ?_)))
 refine vloop1 ?_
 refine vseq (KK2 (QM ?_))
 refine QM ?_
 refine QKb (.bool true) (vnil ?_)
 refine vcondt rfl (vskip (vblock (KK2 (QM ?_))))
 refine QKb (.int .i64 64) ?_
 refine QA (KK3 ?_)
 refine QM ?_
 refine QM ?_
 refine QM ?_
 refine QKb (.int .u64 8) ?_
 refine QKi (.int .u8 56) ?_
 refine QQ (via rfl rfl (by decide)) rfl ?_
 refine SU (vnil (vregion ?_))
 refine QM ?_
 refine QM ?_
 refine QKb (.int .u64 12) ?_
 refine QA (vnil (vinblock ?_))
 refine vinloop1 ?_
 refine vseq (KK2 (QM ?_))
 refine QM ?_
 refine QKb (.bool false) (vnil ?_)
 refine vcondf rfl ?_
 refine vexit (k' := _) rfl ?_
 refine KK2 (QM ?_)
 refine QKb (.int .i64 63) ?_
 refine QA (vnil (vregion ?_))
 refine QM ?_
 refine QM ?_
 refine QKi (.int .u8 99) ?_
 refine QQ (via rfl rfl (by decide)) rfl ?_
 refine SU (vnil (vseq (KK2 ?_)))
 refine QM (vnil ?_)
 refine vcondf rfl (vskip (vseq (KK2 (QM (vnil ?_)))))
 refine vcondf rfl (vskip (KK2 (QM ?_)))
 refine QQ (vslKL (r := .slice (some ⟨b1, 63, Option.none⟩) 2 2) rfl rfl (fun _ => by kernel_rfl)) rfl ?_
 refine QQ (vcvB (e := 5) (xs := [99, 56]) (s := ByteArray.mk #[99, 56]) (by kernel_rfl) (by kernel_rfl) (by kernel_rfl) rfl rfl rfl) rfl ?_
 refine QA (vnil ?_)
 refine vret (vr2 (H' := H) Tryz.func136 rfl (.tmp rfl) (.tmp rfl) sb ?_)
 exact ⟨rfl, rfl⟩
theorem k_fi200 (H : Heap) [hg : Tabs H] : VHas Tryz.prog 98 [.int .i64 200, .int .i64 16] (.string (ByteArray.mk #[99, 56])) H H := by
 refine CV 54 Tryz.func98 ?_
 refine KK2 (QA (vnil (vseq (KK2 ?_))))
 refine QM ?_
 refine QKb (.bool false) (vnil ?_)
 refine vcondf rfl (vskip (KK2 (QM ?_)))
 refine QKc (.int .u64 200) ?_
 refine QM ?_
 refine QM ?_
 refine QKb (.bool false) ?_
 refine QQ (vcq rfl rfl rfl (k_fbits _)) rfl ?_
 refine QM ?_
 refine QX ?_
 refine QX ?_
 refine QA ?_
 refine QA (KK3 ?_)
 refine QM ?_
 refine QA (vnil ?_)
 refine vret (V1 (H) Tryz.func98 ?_)
 exact ⟨rfl, rfl⟩
theorem k_73_4 (H : Heap) [hg : Tabs H] : VHas Tryz.prog 73 [.int .i64 12, .int .i64 10] (.string (ByteArray.mk #[49, 50])) H H := by
 refine CV 8 Tryz.func73 ?_
 refine KK2 (QA (KK3 ?_))
 refine QM ?_
 refine QM ?_
 refine QQ (vcq rfl rfl rfl (k_fi12 _)) rfl ?_
 refine QA (vnil ?_)
 refine vret (V1 (H) Tryz.func73 ?_)
 exact ⟨rfl, rfl⟩
theorem k_138_7 (H : Heap) [hg : Tabs H] : VHas Tryz.prog 138 [.int .u64 1, .int .u64 3] (.tuple #[.int .u64 0, .int .u64 3]) H H := by
 refine CV 51 Tryz.func138 ?_
 refine KK2 (QA ?_)
 refine QA (KK3 ?_)
 refine QM ?_
 refine QKb (.int .u64 1) ?_
 refine QA (KK3 ?_)
 refine QM ?_
 refine QKb (.int .u64 0) ?_
 refine QA (KK3 ?_)
 refine QM ?_
 refine QKb (.int .u64 3) ?_
 refine QA (KK3 ?_)
 refine QM ?_
 refine QKb (.int .u64 0) ?_
 refine QA (KK3 ?_)
 refine QM ?_
 refine QM ?_
 refine QKb (.int .u64 3) ?_
 refine QA (KK3 ?_)
 refine QM ?_
 refine QM ?_
 refine QKb (.int .u64 0) ?_
 refine QM ?_
 refine QKb (.int .u64 0) ?_
 refine QKb (.int .u64 0) ?_
 refine QA (KK3 ?_)
 refine QM ?_
 refine QKb (.int .u64 0) ?_
 refine QA (KK3 ?_)
 refine QM ?_
 refine QKb (.int .u64 0) ?_
 refine QA (KK3 ?_)
 refine QM ?_
 refine QM ?_
 refine QM ?_
 refine QKb (.int .u64 0) ?_
 refine QKb (.int .u64 0) ?_
 refine QA (KK3 ?_)
 refine QM ?_
 refine QM ?_
 refine QKb (.int .u64 0) ?_
 refine QM ?_
 refine QKb (.int .u64 0) ?_
 refine QM ?_
 refine QKb (.int .u64 0) ?_
 refine QKb (.int .u64 0) ?_
 refine QA (KK3 ?_)
 refine QM ?_
 refine QM ?_
 refine QKb (.int .u64 3) ?_
 refine QA (vnil ?_)
 refine vret (vr2 (H' := H) Tryz.func138 rfl (.tmp rfl) (.tmp rfl) sb ?_)
 exact ⟨rfl, rfl⟩
theorem k_99_6 (H : Heap) [hg : Tabs H] : VHas Tryz.prog 99 [.int .u64 1, .int .u64 3] (.tuple #[.int .u64 0, .int .u64 3]) H H := by
 refine CV 30 Tryz.func99 ?_
 refine KK2 (QA ?_)
 refine QA (vnil (vseq ?_))
 refine vcondf rfl (vskip (KK2 (QM ?_)))
 refine QM ?_
 refine QQ (vcq rfl rfl rfl (k_138_7 _)) rfl ?_
 refine QM ?_
 refine QX ?_
 refine QX ?_
 refine QA ?_
 refine QA (KK3 ?_)
 refine QM ?_
 refine QM ?_
 refine QA ?_
 refine QA (vnil ?_)
 refine vret (vr2 (H' := H) Tryz.func99 rfl (.tmp rfl) (.tmp rfl) sb ?_)
 exact ⟨rfl, rfl⟩
theorem k_139_9 (H : Heap) [hg : Tabs H] : VHas Tryz.prog 139 [.string (ByteArray.mk #[32, 32, 32, 32, 32, 32, 32, 32, 32, 32, 32, 32, 32, 32, 32, 32, 32, 32, 32, 32, 32, 32, 32, 32, 32, 32, 32, 32, 32, 32, 32, 32, 32, 32, 32, 32, 32, 32, 32, 32, 32, 32, 32, 32, 32, 32, 32, 32, 32, 32, 32, 32, 32, 32, 32, 32, 32, 32, 32, 32, 32, 32, 32, 32, 32, 32, 32, 32, 32, 32, 32, 32, 32, 32, 32, 32, 32, 32, 32, 32, 32, 32, 32, 32, 32, 32, 32, 32, 32, 32, 32, 32, 32, 32, 32, 32, 32, 32, 32, 32, 32, 32, 32, 32, 32, 32, 32, 32, 32, 32, 32, 32, 32, 32, 32, 32, 32, 32, 32, 32, 32, 32, 32, 32, 32, 32, 32, 32]), .string (ByteArray.mk #[48])] (.bool false) H H := by
 refine CV 18 Tryz.func139 ?_
 refine KK2 (QA (KK3 ?_))
 refine QM ?_
 refine QQ (vlenK (n := 128) rfl rfl) rfl ?_
 refine QM ?_
 refine QQ (vlenK (n := 1) rfl rfl) rfl ?_
 refine QKb (.bool true) ?_
 refine QM ?_
 refine YM ?_
 refine YM ?_
 refine YY (vlenK (n := 1) rfl rfl) rfl ?_
 refine YY (vslKH (r := .string (ByteArray.mk #[32])) rfl rfl (fun _ => by kernel_rfl)) rfl ?_
 refine YM ?_
 refine YY (vbinK (r := .bool false) rfl rfl (fun _ => by kernel_rfl) (fun _ => by kernel_rfl)) rfl ?_
 refine QT ?_
 refine QA (vnil ?_)
 refine vret (V1 (H) Tryz.func139 ?_)
 exact ⟨rfl, rfl⟩
theorem k_100_8 (H : Heap) [hg : Tabs H] : VHas Tryz.prog 100 [.string (ByteArray.mk #[32, 32, 32, 32, 32, 32, 32, 32, 32, 32, 32, 32, 32, 32, 32, 32, 32, 32, 32, 32, 32, 32, 32, 32, 32, 32, 32, 32, 32, 32, 32, 32, 32, 32, 32, 32, 32, 32, 32, 32, 32, 32, 32, 32, 32, 32, 32, 32, 32, 32, 32, 32, 32, 32, 32, 32, 32, 32, 32, 32, 32, 32, 32, 32, 32, 32, 32, 32, 32, 32, 32, 32, 32, 32, 32, 32, 32, 32, 32, 32, 32, 32, 32, 32, 32, 32, 32, 32, 32, 32, 32, 32, 32, 32, 32, 32, 32, 32, 32, 32, 32, 32, 32, 32, 32, 32, 32, 32, 32, 32, 32, 32, 32, 32, 32, 32, 32, 32, 32, 32, 32, 32, 32, 32, 32, 32, 32, 32]), .string (ByteArray.mk #[48])] (.bool false) H H := by
 refine CV 8 Tryz.func100 ?_
 refine KK2 (QA (KK3 ?_))
 refine QM ?_
 refine QM ?_
 refine QQ (vcq rfl rfl rfl (k_139_9 _)) rfl ?_
 refine QA (vnil ?_)
 refine vret (V1 (H) Tryz.func100 ?_)
 exact ⟨rfl, rfl⟩
theorem k_139_11 (H : Heap) [hg : Tabs H] : VHas Tryz.prog 139 [.string (ByteArray.mk #[45, 45, 45, 45, 45, 45, 45, 45, 45, 45, 45, 45, 45, 45, 45, 45, 45, 45, 45, 45, 45, 45, 45, 45, 45, 45, 45, 45, 45, 45, 45, 45, 45, 45, 45, 45, 45, 45, 45, 45, 45, 45, 45, 45, 45, 45, 45, 45, 45, 45, 45, 45, 45, 45, 45, 45, 45, 45, 45, 45, 45, 45, 45, 45, 45, 45, 45, 45, 45, 45, 45, 45, 45, 45, 45, 45, 45, 45, 45, 45, 45, 45, 45, 45, 45, 45, 45, 45, 45, 45, 45, 45, 45, 45, 45, 45, 45, 45, 45, 45, 45, 45, 45, 45, 45, 45, 45, 45, 45, 45, 45, 45, 45, 45, 45, 45, 45, 45, 45, 45, 45, 45, 45, 45, 45, 45, 45, 45]), .string (ByteArray.mk #[48])] (.bool false) H H := by
 refine CV 18 Tryz.func139 ?_
 refine KK2 (QA (KK3 ?_))
 refine QM ?_
 refine QQ (vlenK (n := 128) rfl rfl) rfl ?_
 refine QM ?_
 refine QQ (vlenK (n := 1) rfl rfl) rfl ?_
 refine QKb (.bool true) ?_
 refine QM ?_
 refine YM ?_
 refine YM ?_
 refine YY (vlenK (n := 1) rfl rfl) rfl ?_
 refine YY (vslKH (r := .string (ByteArray.mk #[45])) rfl rfl (fun _ => by kernel_rfl)) rfl ?_
 refine YM ?_
 refine YY (vbinK (r := .bool false) rfl rfl (fun _ => by kernel_rfl) (fun _ => by kernel_rfl)) rfl ?_
 refine QT ?_
 refine QA (vnil ?_)
 refine vret (V1 (H) Tryz.func139 ?_)
 exact ⟨rfl, rfl⟩
theorem k_100_10 (H : Heap) [hg : Tabs H] : VHas Tryz.prog 100 [.string (ByteArray.mk #[45, 45, 45, 45, 45, 45, 45, 45, 45, 45, 45, 45, 45, 45, 45, 45, 45, 45, 45, 45, 45, 45, 45, 45, 45, 45, 45, 45, 45, 45, 45, 45, 45, 45, 45, 45, 45, 45, 45, 45, 45, 45, 45, 45, 45, 45, 45, 45, 45, 45, 45, 45, 45, 45, 45, 45, 45, 45, 45, 45, 45, 45, 45, 45, 45, 45, 45, 45, 45, 45, 45, 45, 45, 45, 45, 45, 45, 45, 45, 45, 45, 45, 45, 45, 45, 45, 45, 45, 45, 45, 45, 45, 45, 45, 45, 45, 45, 45, 45, 45, 45, 45, 45, 45, 45, 45, 45, 45, 45, 45, 45, 45, 45, 45, 45, 45, 45, 45, 45, 45, 45, 45, 45, 45, 45, 45, 45, 45]), .string (ByteArray.mk #[48])] (.bool false) H H := by
 refine CV 8 Tryz.func100 ?_
 refine KK2 (QA (KK3 ?_))
 refine QM ?_
 refine QM ?_
 refine QQ (vcq rfl rfl rfl (k_139_11 _)) rfl ?_
 refine QA (vnil ?_)
 refine vret (V1 (H) Tryz.func100 ?_)
 exact ⟨rfl, rfl⟩
theorem k_139_13 (H : Heap) [hg : Tabs H] : VHas Tryz.prog 139 [.string (ByteArray.mk #[48, 48, 48, 48, 48, 48, 48, 48, 48, 48, 48, 48, 48, 48, 48, 48, 48, 48, 48, 48, 48, 48, 48, 48, 48, 48, 48, 48, 48, 48, 48, 48, 48, 48, 48, 48, 48, 48, 48, 48, 48, 48, 48, 48, 48, 48, 48, 48, 48, 48, 48, 48, 48, 48, 48, 48, 48, 48, 48, 48, 48, 48, 48, 48]), .string (ByteArray.mk #[48])] (.bool true) H H := by
 refine CV 18 Tryz.func139 ?_
 refine KK2 (QA (KK3 ?_))
 refine QM ?_
 refine QQ (vlenK (n := 64) rfl rfl) rfl ?_
 refine QM ?_
 refine QQ (vlenK (n := 1) rfl rfl) rfl ?_
 refine QKb (.bool true) ?_
 refine QM ?_
 refine YM ?_
 refine YM ?_
 refine YY (vlenK (n := 1) rfl rfl) rfl ?_
 refine YY (vslKH (r := .string (ByteArray.mk #[48])) rfl rfl (fun _ => by kernel_rfl)) rfl ?_
 refine YM ?_
 refine YY (vbinK (r := .bool true) rfl rfl (fun _ => by kernel_rfl) (fun _ => by kernel_rfl)) rfl ?_
 refine QT ?_
 refine QA (vnil ?_)
 refine vret (V1 (H) Tryz.func139 ?_)
 exact ⟨rfl, rfl⟩
theorem k_100_12 (H : Heap) [hg : Tabs H] : VHas Tryz.prog 100 [.string (ByteArray.mk #[48, 48, 48, 48, 48, 48, 48, 48, 48, 48, 48, 48, 48, 48, 48, 48, 48, 48, 48, 48, 48, 48, 48, 48, 48, 48, 48, 48, 48, 48, 48, 48, 48, 48, 48, 48, 48, 48, 48, 48, 48, 48, 48, 48, 48, 48, 48, 48, 48, 48, 48, 48, 48, 48, 48, 48, 48, 48, 48, 48, 48, 48, 48, 48]), .string (ByteArray.mk #[48])] (.bool true) H H := by
 refine CV 8 Tryz.func100 ?_
 refine KK2 (QA (KK3 ?_))
 refine QM ?_
 refine QM ?_
 refine QQ (vcq rfl rfl rfl (k_139_13 _)) rfl ?_
 refine QA (vnil ?_)
 refine vret (V1 (H) Tryz.func100 ?_)
 exact ⟨rfl, rfl⟩
theorem k_74_5 (H : Heap) [hg : Tabs H] : VHas Tryz.prog 74 [.string (ByteArray.mk #[48]), .int .i64 3] (.string (ByteArray.mk #[48, 48, 48])) H H := by
 refine CV 125 Tryz.func74 ?_
 refine KK2 (QA (vnil (vseq (KK2 ?_))))
 refine QM (vnil (vblock (KK2 ?_)))
 refine QKb (.bool false) ?_
 refine QA (vnil ?_)
 refine vcondf rfl (KK2 (QKb (.bool false) ?_))
 refine QA (vnil ?_)
 refine vcondf rfl (vskip (vinblock (vseq (KK2 (QM ?_)))))
 refine QKb (.bool false) (vnil ?_)
 refine vcondf rfl (vskip (KK2 (QM ?_)))
 refine QQ (vlenK (n := 1) rfl rfl) rfl ?_
 refine QKc (.int .u64 1) ?_
 refine QM ?_
 refine QKc (.int .u64 3) ?_
 refine QQ (vcq rfl rfl rfl (k_99_6 _)) rfl ?_
 refine QM ?_
 refine QX ?_
 refine QX ?_
 refine QA ?_
 refine QA (vnil (vseq (KK2 ?_)))
 refine QM ?_
 refine QKb (.bool false) ?_
 refine QM ?_
 refine YM ?_
 refine YY (vbinK (r := .bool false) rfl rfl (fun _ => by kernel_rfl) (fun _ => by kernel_rfl)) rfl ?_
 refine QU (vnil ?_)
 refine vcondf rfl (vskip (KK2 (QM ?_)))
 refine QKc (.int .i64 3) ?_
 refine QA (vnil (vseq (KK2 ?_)))
 refine QM ?_
 refine QQ (vlenK (n := 1) rfl rfl) rfl ?_
 refine QKb (.bool false) (vnil ?_)
 refine vcondf rfl (vskip (vseq (KK2 (QM ?_))))
 refine QKi (.int .u8 48) (vnil (vblock (vseq (KK2 ?_))))
 refine QKb (.bool false) ?_
 refine QA (vnil ?_)
 refine vcondf rfl (KK2 (QKb (.bool false) ?_))
 refine QA (vnil ?_)
 refine vcondf rfl (KK2 (QKb (.bool true) ?_))
 refine QA (vnil ?_)
 refine vcondt rfl (vskip (vcondt rfl (vblock (KK2 (QM ?_)))))
 refine QKb (.bool true) ?_
 refine QM ?_
 refine YM ?_
 refine YY (vcq rfl rfl rfl (k_100_8 _)) rfl ?_
 refine QT ?_
 refine QA (vnil ?_)
 refine vcondf rfl (KK2 (QM ?_))
 refine QKb (.bool true) ?_
 refine QM ?_
 refine YM ?_
 refine YY (vcq rfl rfl rfl (k_100_10 _)) rfl ?_
 refine QT ?_
 refine QA (vnil ?_)
 refine vcondf rfl (KK2 (QM ?_))
 refine QKb (.bool true) ?_
 refine QM ?_
 refine YM ?_
 refine YY (vcq rfl rfl rfl (k_100_12 _)) rfl ?_
 refine QT ?_
 refine QA (vnil ?_)
 refine vcondt rfl (KK2 (QM ?_))
 refine QQ (vslKH (r := .string (ByteArray.mk #[48, 48, 48])) rfl rfl (fun _ => by kernel_rfl)) rfl ?_
 refine QA (vnil ?_)
 refine vret (V1 (H) Tryz.func74 ?_)
 exact ⟨rfl, rfl⟩
theorem k_50_3 (H : Heap) [hg : Tabs H] : VHas Tryz.prog 50 [.int .i64 12, .int .i64 10, .int .i64 5] (.string (ByteArray.mk #[48, 48, 48, 49, 50])) H H := by
 refine CV 19 Tryz.func50 ?_
 refine KK2 (QA (KK3 ?_))
 refine QM ?_
 refine QM ?_
 refine QQ (vcq rfl rfl rfl (k_73_4 _)) rfl ?_
 refine QA (KK3 ?_)
 refine QM ?_
 refine QM ?_
 refine QQ (vlenK (n := 2) rfl rfl) rfl ?_
 refine QKb (.int .i64 3) ?_
 refine QQ (vmaxK (n := 3) rfl rfl rfl) rfl ?_
 refine QQ (vcq rfl rfl rfl (k_74_5 _)) rfl ?_
 refine QM ?_
 refine QKb (.string (ByteArray.mk #[48, 48, 48, 49, 50])) ?_
 refine QA (vnil ?_)
 refine vret (V1 (H) Tryz.func50 ?_)
 exact ⟨rfl, rfl⟩
theorem k_73_15 (H : Heap) [hg : Tabs H] : VHas Tryz.prog 73 [.int .i64 890, .int .i64 10] (.string (ByteArray.mk #[56, 57, 48])) H H := by
 refine CV 8 Tryz.func73 ?_
 refine KK2 (QA (KK3 ?_))
 refine QM ?_
 refine QM ?_
 refine QQ (vcq rfl rfl rfl (k_fi890 _)) rfl ?_
 refine QA (vnil ?_)
 refine vret (V1 (H) Tryz.func73 ?_)
 exact ⟨rfl, rfl⟩
theorem k_138_18 (H : Heap) [hg : Tabs H] : VHas Tryz.prog 138 [.int .u64 1, .int .u64 2] (.tuple #[.int .u64 0, .int .u64 2]) H H := by
 refine CV 51 Tryz.func138 ?_
 refine KK2 (QA ?_)
 refine QA (KK3 ?_)
 refine QM ?_
 refine QKb (.int .u64 1) ?_
 refine QA (KK3 ?_)
 refine QM ?_
 refine QKb (.int .u64 0) ?_
 refine QA (KK3 ?_)
 refine QM ?_
 refine QKb (.int .u64 2) ?_
 refine QA (KK3 ?_)
 refine QM ?_
 refine QKb (.int .u64 0) ?_
 refine QA (KK3 ?_)
 refine QM ?_
 refine QM ?_
 refine QKb (.int .u64 2) ?_
 refine QA (KK3 ?_)
 refine QM ?_
 refine QM ?_
 refine QKb (.int .u64 0) ?_
 refine QM ?_
 refine QKb (.int .u64 0) ?_
 refine QKb (.int .u64 0) ?_
 refine QA (KK3 ?_)
 refine QM ?_
 refine QKb (.int .u64 0) ?_
 refine QA (KK3 ?_)
 refine QM ?_
 refine QKb (.int .u64 0) ?_
 refine QA (KK3 ?_)
 refine QM ?_
 refine QM ?_
 refine QM ?_
 refine QKb (.int .u64 0) ?_
 refine QKb (.int .u64 0) ?_
 refine QA (KK3 ?_)
 refine QM ?_
 refine QM ?_
 refine QKb (.int .u64 0) ?_
 refine QM ?_
 refine QKb (.int .u64 0) ?_
 refine QM ?_
 refine QKb (.int .u64 0) ?_
 refine QKb (.int .u64 0) ?_
 refine QA (KK3 ?_)
 refine QM ?_
 refine QM ?_
 refine QKb (.int .u64 2) ?_
 refine QA (vnil ?_)
 refine vret (vr2 (H' := H) Tryz.func138 rfl (.tmp rfl) (.tmp rfl) sb ?_)
 exact ⟨rfl, rfl⟩
theorem k_99_17 (H : Heap) [hg : Tabs H] : VHas Tryz.prog 99 [.int .u64 1, .int .u64 2] (.tuple #[.int .u64 0, .int .u64 2]) H H := by
 refine CV 30 Tryz.func99 ?_
 refine KK2 (QA ?_)
 refine QA (vnil (vseq ?_))
 refine vcondf rfl (vskip (KK2 (QM ?_)))
 refine QM ?_
 refine QQ (vcq rfl rfl rfl (k_138_18 _)) rfl ?_
 refine QM ?_
 refine QX ?_
 refine QX ?_
 refine QA ?_
 refine QA (KK3 ?_)
 refine QM ?_
 refine QM ?_
 refine QA ?_
 refine QA (vnil ?_)
 refine vret (vr2 (H' := H) Tryz.func99 rfl (.tmp rfl) (.tmp rfl) sb ?_)
 exact ⟨rfl, rfl⟩
theorem k_74_16 (H : Heap) [hg : Tabs H] : VHas Tryz.prog 74 [.string (ByteArray.mk #[48]), .int .i64 2] (.string (ByteArray.mk #[48, 48])) H H := by
 refine CV 125 Tryz.func74 ?_
 refine KK2 (QA (vnil (vseq (KK2 ?_))))
 refine QM (vnil (vblock (KK2 ?_)))
 refine QKb (.bool false) ?_
 refine QA (vnil ?_)
 refine vcondf rfl (KK2 (QKb (.bool false) ?_))
 refine QA (vnil ?_)
 refine vcondf rfl (vskip (vinblock (vseq (KK2 (QM ?_)))))
 refine QKb (.bool false) (vnil ?_)
 refine vcondf rfl (vskip (KK2 (QM ?_)))
 refine QQ (vlenK (n := 1) rfl rfl) rfl ?_
 refine QKc (.int .u64 1) ?_
 refine QM ?_
 refine QKc (.int .u64 2) ?_
 refine QQ (vcq rfl rfl rfl (k_99_17 _)) rfl ?_
 refine QM ?_
 refine QX ?_
 refine QX ?_
 refine QA ?_
 refine QA (vnil (vseq (KK2 ?_)))
 refine QM ?_
 refine QKb (.bool false) ?_
 refine QM ?_
 refine YM ?_
 refine YY (vbinK (r := .bool false) rfl rfl (fun _ => by kernel_rfl) (fun _ => by kernel_rfl)) rfl ?_
 refine QU (vnil ?_)
 refine vcondf rfl (vskip (KK2 (QM ?_)))
 refine QKc (.int .i64 2) ?_
 refine QA (vnil (vseq (KK2 ?_)))
 refine QM ?_
 refine QQ (vlenK (n := 1) rfl rfl) rfl ?_
 refine QKb (.bool false) (vnil ?_)
 refine vcondf rfl (vskip (vseq (KK2 (QM ?_))))
 refine QKi (.int .u8 48) (vnil (vblock (vseq (KK2 ?_))))
 refine QKb (.bool false) ?_
 refine QA (vnil ?_)
 refine vcondf rfl (KK2 (QKb (.bool false) ?_))
 refine QA (vnil ?_)
 refine vcondf rfl (KK2 (QKb (.bool true) ?_))
 refine QA (vnil ?_)
 refine vcondt rfl (vskip (vcondt rfl (vblock (KK2 (QM ?_)))))
 refine QKb (.bool true) ?_
 refine QM ?_
 refine YM ?_
 refine YY (vcq rfl rfl rfl (k_100_8 _)) rfl ?_
 refine QT ?_
 refine QA (vnil ?_)
 refine vcondf rfl (KK2 (QM ?_))
 refine QKb (.bool true) ?_
 refine QM ?_
 refine YM ?_
 refine YY (vcq rfl rfl rfl (k_100_10 _)) rfl ?_
 refine QT ?_
 refine QA (vnil ?_)
 refine vcondf rfl (KK2 (QM ?_))
 refine QKb (.bool true) ?_
 refine QM ?_
 refine YM ?_
 refine YY (vcq rfl rfl rfl (k_100_12 _)) rfl ?_
 refine QT ?_
 refine QA (vnil ?_)
 refine vcondt rfl (KK2 (QM ?_))
 refine QQ (vslKH (r := .string (ByteArray.mk #[48, 48])) rfl rfl (fun _ => by kernel_rfl)) rfl ?_
 refine QA (vnil ?_)
 refine vret (V1 (H) Tryz.func74 ?_)
 exact ⟨rfl, rfl⟩
theorem k_50_14 (H : Heap) [hg : Tabs H] : VHas Tryz.prog 50 [.int .i64 890, .int .i64 10, .int .i64 5] (.string (ByteArray.mk #[48, 48, 56, 57, 48])) H H := by
 refine CV 19 Tryz.func50 ?_
 refine KK2 (QA (KK3 ?_))
 refine QM ?_
 refine QM ?_
 refine QQ (vcq rfl rfl rfl (k_73_15 _)) rfl ?_
 refine QA (KK3 ?_)
 refine QM ?_
 refine QM ?_
 refine QQ (vlenK (n := 3) rfl rfl) rfl ?_
 refine QKb (.int .i64 2) ?_
 refine QQ (vmaxK (n := 2) rfl rfl rfl) rfl ?_
 refine QQ (vcq rfl rfl rfl (k_74_16 _)) rfl ?_
 refine QM ?_
 refine QKb (.string (ByteArray.mk #[48, 48, 56, 57, 48])) ?_
 refine QA (vnil ?_)
 refine vret (V1 (H) Tryz.func50 ?_)
 exact ⟨rfl, rfl⟩
theorem k_73_20 (H : Heap) [hg : Tabs H] : VHas Tryz.prog 73 [.int .i64 200, .int .i64 16] (.string (ByteArray.mk #[99, 56])) H H := by
 refine CV 8 Tryz.func73 ?_
 refine KK2 (QA (KK3 ?_))
 refine QM ?_
 refine QM ?_
 refine QQ (vcq rfl rfl rfl (k_fi200 _)) rfl ?_
 refine QA (vnil ?_)
 refine vret (V1 (H) Tryz.func73 ?_)
 exact ⟨rfl, rfl⟩
theorem k_74_21 (H : Heap) [hg : Tabs H] : VHas Tryz.prog 74 [.string (ByteArray.mk #[48]), .int .i64 0] (.string (ByteArray.mk #[])) H H := by
 refine CV 125 Tryz.func74 ?_
 refine KK2 (QA (vnil (vseq (KK2 ?_))))
 refine QM (vnil (vblock (KK2 ?_)))
 refine QKb (.bool true) ?_
 refine QA (vnil ?_)
 refine vcondt rfl (KK2 (QA (vnil ?_)))
 refine vret (V1 (H) Tryz.func74 ?_)
 exact ⟨rfl, rfl⟩
theorem k_50_19 (H : Heap) [hg : Tabs H] : VHas Tryz.prog 50 [.int .i64 200, .int .i64 16, .int .i64 2] (.string (ByteArray.mk #[99, 56])) H H := by
 refine CV 19 Tryz.func50 ?_
 refine KK2 (QA (KK3 ?_))
 refine QM ?_
 refine QM ?_
 refine QQ (vcq rfl rfl rfl (k_73_20 _)) rfl ?_
 refine QA (KK3 ?_)
 refine QM ?_
 refine QM ?_
 refine QQ (vlenK (n := 2) rfl rfl) rfl ?_
 refine QKb (.int .i64 0) ?_
 refine QQ (vmaxK (n := 0) rfl rfl rfl) rfl ?_
 refine QQ (vcq rfl rfl rfl (k_74_21 _)) rfl ?_
 refine QM ?_
 refine QKb (.string (ByteArray.mk #[99, 56])) ?_
 refine QA (vnil ?_)
 refine vret (V1 (H) Tryz.func50 ?_)
 exact ⟨rfl, rfl⟩
theorem k_73_24 (H : Heap) [hg : Tabs H] : VHas Tryz.prog 73 [.int .i64 123, .int .i64 10] (.string (ByteArray.mk #[49, 50, 51])) H H := by
 refine CV 8 Tryz.func73 ?_
 refine KK2 (QA (KK3 ?_))
 refine QM ?_
 refine QM ?_
 refine QQ (vcq rfl rfl rfl (k_fi123 _)) rfl ?_
 refine QA (vnil ?_)
 refine vret (V1 (H) Tryz.func73 ?_)
 exact ⟨rfl, rfl⟩
theorem k_50_23 (H : Heap) [hg : Tabs H] : VHas Tryz.prog 50 [.int .i64 123, .int .i64 10, .int .i64 5] (.string (ByteArray.mk #[48, 48, 49, 50, 51])) H H := by
 refine CV 19 Tryz.func50 ?_
 refine KK2 (QA (KK3 ?_))
 refine QM ?_
 refine QM ?_
 refine QQ (vcq rfl rfl rfl (k_73_24 _)) rfl ?_
 refine QA (KK3 ?_)
 refine QM ?_
 refine QM ?_
 refine QQ (vlenK (n := 3) rfl rfl) rfl ?_
 refine QKb (.int .i64 2) ?_
 refine QQ (vmaxK (n := 2) rfl rfl rfl) rfl ?_
 refine QQ (vcq rfl rfl rfl (k_74_16 _)) rfl ?_
 refine QM ?_
 refine QKb (.string (ByteArray.mk #[48, 48, 49, 50, 51])) ?_
 refine QA (vnil ?_)
 refine vret (V1 (H) Tryz.func50 ?_)
 exact ⟨rfl, rfl⟩
theorem k_51_22 (H : Heap) [hg : Tabs H] : VHas Tryz.prog 51 [.int .i64 (-123)] (.string (ByteArray.mk #[45, 48, 48, 49, 50, 51])) H H := by
 refine CV 12 Tryz.func51 ?_
 refine KK2 (QA (vnil (vseq (KK2 ?_))))
 refine QM ?_
 refine QKb (.bool true) (vnil ?_)
 refine vcondt rfl (KK2 (QM ?_))
 refine QQ (vunK (r := .int .i64 123) rfl (fun _ => by kernel_rfl)) rfl ?_
 refine QQ (vcq rfl rfl rfl (k_50_23 _)) rfl ?_
 refine QKb (.string (ByteArray.mk #[45, 48, 48, 49, 50, 51])) ?_
 refine QA (vnil ?_)
 refine vret (V1 (H) Tryz.func51 ?_)
 exact ⟨rfl, rfl⟩
theorem k_73_27 (H : Heap) [hg : Tabs H] : VHas Tryz.prog 73 [.int .i64 4567, .int .i64 10] (.string (ByteArray.mk #[52, 53, 54, 55])) H H := by
 refine CV 8 Tryz.func73 ?_
 refine KK2 (QA (KK3 ?_))
 refine QM ?_
 refine QM ?_
 refine QQ (vcq rfl rfl rfl (k_fi4567 _)) rfl ?_
 refine QA (vnil ?_)
 refine vret (V1 (H) Tryz.func73 ?_)
 exact ⟨rfl, rfl⟩
theorem k_74_28 (H : Heap) [hg : Tabs H] : VHas Tryz.prog 74 [.string (ByteArray.mk #[48]), .int .i64 1] (.string (ByteArray.mk #[48])) H H := by
 refine CV 125 Tryz.func74 ?_
 refine KK2 (QA (vnil (vseq (KK2 ?_))))
 refine QM (vnil (vblock (KK2 ?_)))
 refine QKb (.bool false) ?_
 refine QA (vnil ?_)
 refine vcondf rfl (KK2 (QKb (.bool true) ?_))
 refine QA (vnil ?_)
 refine vcondt rfl (KK2 (QM ?_))
 refine QA (vnil ?_)
 refine vret (V1 (H) Tryz.func74 ?_)
 exact ⟨rfl, rfl⟩
theorem k_50_26 (H : Heap) [hg : Tabs H] : VHas Tryz.prog 50 [.int .i64 4567, .int .i64 10, .int .i64 5] (.string (ByteArray.mk #[48, 52, 53, 54, 55])) H H := by
 refine CV 19 Tryz.func50 ?_
 refine KK2 (QA (KK3 ?_))
 refine QM ?_
 refine QM ?_
 refine QQ (vcq rfl rfl rfl (k_73_27 _)) rfl ?_
 refine QA (KK3 ?_)
 refine QM ?_
 refine QM ?_
 refine QQ (vlenK (n := 4) rfl rfl) rfl ?_
 refine QKb (.int .i64 1) ?_
 refine QQ (vmaxK (n := 1) rfl rfl rfl) rfl ?_
 refine QQ (vcq rfl rfl rfl (k_74_28 _)) rfl ?_
 refine QM ?_
 refine QKb (.string (ByteArray.mk #[48, 52, 53, 54, 55])) ?_
 refine QA (vnil ?_)
 refine vret (V1 (H) Tryz.func50 ?_)
 exact ⟨rfl, rfl⟩
theorem k_51_25 (H : Heap) [hg : Tabs H] : VHas Tryz.prog 51 [.int .i64 4567] (.string (ByteArray.mk #[43, 48, 52, 53, 54, 55])) H H := by
 refine CV 12 Tryz.func51 ?_
 refine KK2 (QA (vnil (vseq (KK2 ?_))))
 refine QM ?_
 refine QKb (.bool false) (vnil ?_)
 refine vcondf rfl (vskip (KK2 (QM ?_)))
 refine QQ (vcq rfl rfl rfl (k_50_26 _)) rfl ?_
 refine QKb (.string (ByteArray.mk #[43, 48, 52, 53, 54, 55])) ?_
 refine QA (vnil ?_)
 refine vret (V1 (H) Tryz.func51 ?_)
 exact ⟨rfl, rfl⟩
end Go.Proofs.YtoebpndlbldfcaaGreatDoor
namespace Go.Proofs.YtoebpndlbldfcaaGreatDoor
open Go
set_option maxRecDepth 100000
attribute [local irreducible] tightP hullP rootP farP rows endsOf valM ringF unF addR
def psum : Nat → Int | 0 => 0 | i + 1 => psum i + byteAt (ByteArray.mk #[48, 48, 48, 49, 50, 32, 45, 48, 48, 49, 50, 51, 32, 43, 48, 52, 53, 54, 55, 32, 48, 48, 56, 57, 48, 32]) i
theorem psum_ok : ∀ i, i < 26 → (0 ≤ psum i ∧ psum i ≤ 10000) ∧ 0 ≤ byteAt (ByteArray.mk #[48, 48, 48, 49, 50, 32, 45, 48, 48, 49, 50, 51, 32, 43, 48, 52, 53, 54, 55, 32, 48, 48, 56, 57, 48, 32]) i ∧ byteAt (ByteArray.mk #[48, 48, 48, 49, 50, 32, 45, 48, 48, 49, 50, 51, 32, 43, 48, 52, 53, 54, 55, 32, 48, 48, 56, 57, 48, 32]) i ≤ 255 := by decide
def lineL : List UInt8 := [48, 48, 48, 49, 50, 32, 45, 48, 48, 49, 50, 51, 32, 43, 48, 52, 53, 54, 55, 32, 48, 48, 56, 57, 48, 32, 99, 56, 10]
instance tApU8 : TAp Tryz.prog 95 5 1 1 := mkTAp (z := .int .u8 0) (by kernel_rfl) (by kernel_rfl) rfl
theorem k_line (b : Nat) (H : Heap) [hg : Tabs H] : VHas Tryz.prog 49 [.slice (some ⟨b, 0, Option.none⟩) 4 4] (.string (ByteArray.mk #[48, 48, 48, 49, 50, 32, 45, 48, 48, 49, 50, 51, 32, 43, 48, 52, 53, 54, 55, 32, 48, 48, 56, 57, 48, 32, 99, 56, 10])) ((b, blk [.string (ByteArray.mk #[48, 48, 48, 49, 50]), .string (ByteArray.mk #[45, 48, 48, 49, 50, 51]), .string (ByteArray.mk #[43, 48, 52, 53, 54, 55]), .string (ByteArray.mk #[48, 48, 56, 57, 48])] 9) :: H) ((b, blk [.string (ByteArray.mk #[48, 48, 48, 49, 50]), .string (ByteArray.mk #[45, 48, 48, 49, 50, 51]), .string (ByteArray.mk #[43, 48, 52, 53, 54, 55]), .string (ByteArray.mk #[48, 48, 56, 57, 48])] 9) :: H) := by
 refine CV 37 Tryz.func49 ?_
 refine KK2 (QA (KK3 ?_))
 refine QA (vnil (vseq (KK2 ?_)))
 refine QM ?_
 refine QQ (vlen rfl) rfl ?_
 refine QM (vnil (vblock ?_))
 refine vloop1 ?_
 refine KK2 (QKb (.bool true) (vnil (vseq ?_)))
 refine vcondt rfl (vskip (vseq (vblock (KK2 (QQ (vis rfl rfl (by decide)) rfl ?_)))))
 refine QL ?_
 refine QA (vnil (vregion ?_))
 refine QM ?_
 refine QM ?_
 refine QKb (.string (ByteArray.mk #[48, 48, 48, 49, 50, 32])) ?_
 refine QKb (.string (ByteArray.mk #[48, 48, 48, 49, 50, 32])) ?_
 refine QA (vnil (vinblock (vregion ?_)))
 refine QKb (.int .i64 1) ?_
 refine QM (vnil ?_)
 refine vinloop1 ?_
 refine KK2 (QKb (.bool true) (vnil (vseq ?_)))
 refine vcondt rfl (vskip (vseq (vblock (KK2 (QQ (vis rfl rfl (by decide)) rfl ?_)))))
 refine QL ?_
 refine QA (vnil (vregion ?_))
 refine QM ?_
 refine QM ?_
 refine QKb (.string (ByteArray.mk #[45, 48, 48, 49, 50, 51, 32])) ?_
 refine QKb (.string (ByteArray.mk #[48, 48, 48, 49, 50, 32, 45, 48, 48, 49, 50, 51, 32])) ?_
 refine QA (vnil (vinblock (vregion ?_)))
 refine QKb (.int .i64 2) ?_
 refine QM (vnil ?_)
 refine vinloop1 ?_
 refine KK2 (QKb (.bool true) (vnil (vseq ?_)))
 refine vcondt rfl (vskip (vseq (vblock (KK2 (QQ (vis rfl rfl (by decide)) rfl ?_)))))
 refine QL ?_
 refine QA (vnil (vregion ?_))
 refine QM ?_
 refine QM ?_
 refine QKb (.string (ByteArray.mk #[43, 48, 52, 53, 54, 55, 32])) ?_
 refine QKb (.string (ByteArray.mk #[48, 48, 48, 49, 50, 32, 45, 48, 48, 49, 50, 51, 32, 43, 48, 52, 53, 54, 55, 32])) ?_
 refine QA (vnil (vinblock (vregion ?_)))
 refine QKb (.int .i64 3) ?_
 refine QM (vnil ?_)
 refine vinloop1 ?_
 refine KK2 (QKb (.bool true) (vnil (vseq ?_)))
 refine vcondt rfl (vskip (vseq (vblock (KK2 (QQ (vis rfl rfl (by decide)) rfl ?_)))))
 refine QL ?_
 refine QA (vnil (vregion ?_))
 refine QM ?_
 refine QM ?_
 refine QKb (.string (ByteArray.mk #[48, 48, 56, 57, 48, 32])) ?_
 refine QKb (.string (ByteArray.mk #[48, 48, 48, 49, 50, 32, 45, 48, 48, 49, 50, 51, 32, 43, 48, 52, 53, 54, 55, 32, 48, 48, 56, 57, 48, 32])) ?_
 refine QA (vnil (vinblock (vregion ?_)))
 refine QKb (.int .i64 4) ?_
 refine QM (vnil ?_)
 refine vinloop1 ?_
 refine KK2 (QKb (.bool false) (vnil (vseq ?_)))
 refine vcondf rfl ?_
 refine vexit (k' := _) rfl ?_
 refine KK2 (QA (vnil (vseq (KK2 ?_))))
 refine QM ?_
 refine QQ (vlenK (n := 26) rfl rfl) rfl ?_
 refine QM (vnil (vblock ?_))
 refine vwhile (σ := Nat) (fun i => 26 - i) (fun i => [(3, .string (ByteArray.mk #[48, 48, 48, 49, 50, 32, 45, 48, 48, 49, 50, 51, 32, 43, 48, 52, 53, 54, 55, 32, 48, 48, 56, 57, 48, 32])), (6, I (psum i)), (20, I 26), (21, I (i : Int))]) (fun i => (b, blk [.string (ByteArray.mk #[48, 48, 48, 49, 50]), .string (ByteArray.mk #[45, 48, 48, 49, 50, 51]), .string (ByteArray.mk #[43, 48, 52, 53, 54, 55]), .string (ByteArray.mk #[48, 48, 56, 57, 48])] 9) :: H) (fun i => i ≤ 26) 0 (Nat.zero_le _) ⟨rfl, rfl, rfl, rfl, True.intro⟩ sb ?_
 rintro i hle IH
 change VRun _ _ _ _ _ [(3, .string (ByteArray.mk #[48, 48, 48, 49, 50, 32, 45, 48, 48, 49, 50, 51, 32, 43, 48, 52, 53, 54, 55, 32, 48, 48, 56, 57, 48, 32])), (6, I (psum i)), (20, I 26), (21, I (i : Int))] _ ((b, blk [.string (ByteArray.mk #[48, 48, 48, 49, 50]), .string (ByteArray.mk #[45, 48, 48, 49, 50, 51]), .string (ByteArray.mk #[43, 48, 52, 53, 54, 55]), .string (ByteArray.mk #[48, 48, 56, 57, 48])] 9) :: H) _
 refine KK2 (QS (vnil (vseq ?_)))
 refine vcondd rfl (fun h22 => ?_) (fun h22 => ?_)
 ·
  have hlt : i < 26 := by omega
  refine vskip (vseq (vblock (KK2 (QM ?_))))
  refine QA (vnil (vregion ?_))
  refine QM ?_
  refine QM ?_
  refine QM ?_
  refine QQ (vixs rfl rfl (by show _ ∧ _ < ((26 : Nat) : Int); omega)) rfl ?_
  refine QQ (vcvI (by kernel_rfl) (by kernel_rfl) (by kernel_rfl) rfl (by have := psum_ok i (by omega); unfold InR; show _ ≤ byteAt _ i ∧ byteAt _ i ≤ _; omega)) rfl ?_
  refine QQ (vadd rfl rfl (by have := psum_ok i (by omega); unfold InR; show _ ≤ psum i + byteAt _ i ∧ psum i + byteAt _ i ≤ _; omega)) rfl ?_
  refine QA (vnil (vinblock (vregion ?_)))
  refine QQ (vadd rfl rfl (by unfold InR; omega)) rfl ?_
  refine QM (vnil ?_)
  exact vback (IH (i + 1) (by omega) (by show _ < _; omega)) ⟨rfl, rfl, rfl, rfl, True.intro⟩ sb
 ·
  obtain rfl : i = 26 := by omega
  refine vexit (k' := _) rfl ?_
  refine KK2 (QM ?_)
  refine QM ?_
  refine QKb (.int .i64 200) ?_
  refine QQ (vcq rfl rfl rfl (k_50_19 _)) rfl ?_
  refine QKb (.string (ByteArray.mk #[48, 48, 48, 49, 50, 32, 45, 48, 48, 49, 50, 51, 32, 43, 48, 52, 53, 54, 55, 32, 48, 48, 56, 57, 48, 32, 99, 56])) ?_
  refine QKb (.string (ByteArray.mk #[48, 48, 48, 49, 50, 32, 45, 48, 48, 49, 50, 51, 32, 43, 48, 52, 53, 54, 55, 32, 48, 48, 56, 57, 48, 32, 99, 56, 10])) ?_
  refine QA (vnil ?_)
  refine vret (V1 ((b, blk [.string (ByteArray.mk #[48, 48, 48, 49, 50]), .string (ByteArray.mk #[45, 48, 48, 49, 50, 51]), .string (ByteArray.mk #[43, 48, 52, 53, 54, 55]), .string (ByteArray.mk #[48, 48, 56, 57, 48])] 9) :: H) Tryz.func49 ?_)
  exact ⟨rfl, rfl⟩
theorem ws_hv {V : Value} {Fh : Nat → Nat → List Value → Heap} : ∀ (o : Out) (H' : Heap), (∃ g cap rest, o = .val V ∧ H' = Fh g cap rest) → ∃ v, o = .val v ∧ (∃ g cap rest, v = V ∧ H' = Fh g cap rest) := fun o H' ⟨g, cap, rest, h1, h2⟩ => ⟨V, h1, g, cap, rest, rfl, h2⟩
theorem k_copy (x3 x2 : Nat × Obj) (b : Nat) (H : Heap) : VHas Tryz.prog 72 [ptr b] (.tuple #[]) (x3 :: x2 :: (b, blk [.pointer Option.none, .slice Option.none 0 0] 97) :: H) (x3 :: x2 :: (b, blk [ptr b, .slice Option.none 0 0] 97) :: H) := by
 refine CV 20 Tryz.func72 ?_
 refine KK2 (QM ?_)
 refine QC ?_
 refine QF ?_
 refine QL ?_
 refine QKb (.bool true) (vnil ?_)
 refine vcondt rfl (vregion (QM ?_))
 refine QM ?_
 refine QQ (vcvTU (t := 97) (by kernel_rfl) (by kernel_rfl) (by kernel_rfl) rfl rfl) rfl ?_
 refine QQ (vcne (fn := Tryz.f97) Tryz.func97 (by kernel_rfl) (by kernel_rfl) (by kernel_rfl) (by kernel_rfl) rfl rfl) rfl ?_
 refine QQ (vcvFU (u := 97) (by kernel_rfl) (by kernel_rfl) (by kernel_rfl) (by kernel_rfl) rfl) rfl ?_
 refine QC ?_
 refine QF ?_
 refine SU (vnil ?_)
 refine vend (vr0 (H' := x3 :: x2 :: (b, blk [ptr b, .slice Option.none 0 0] 97) :: H) Tryz.func72 rfl  sb ?_)
 exact ⟨rfl, rfl⟩
theorem k_ws (x3 x2 : Nat × Obj) (b : Nat) (H : Heap) : VCall Tryz.prog 48 [ptr b, .string (ByteArray.mk #[48, 48, 48, 49, 50, 32, 45, 48, 48, 49, 50, 51, 32, 43, 48, 52, 53, 54, 55, 32, 48, 48, 56, 57, 48, 32, 99, 56, 10])].toArray (x3 :: x2 :: (b, blk [.pointer Option.none, .slice Option.none 0 0] 97) :: H) (fun o H' => ∃ g cap rest, o = .val (.tuple #[I 29, .nilIface]) ∧ H' = (g, blk (Lib.byteCells lineL ++ rest) 5) :: x3 :: x2 :: (b, blk [ptr b, .slice (some ⟨g, 0, Option.none⟩) 29 (cap + 1)] 97) :: H) := by
 refine CV 19 Tryz.func48 ?_
 refine KK2 (QA ?_)
 refine QA (KK3 ?_)
 refine QM ?_
 refine vone rfl (vxg (vch rfl rfl rfl (k_copy x3 x2 b H)) rfl rfl ?_)
 rintro _ _ ⟨rfl, rfl⟩
 refine KK3 (QM ?_)
 refine QM ?_
 refine QC ?_
 refine QF ?_
 refine QL ?_
 refine QM ?_
 refine vone rfl (vxg (vaps (xs := Lib.byteCells lineL) (by kernel_rfl) rfl rfl rfl rfl rfl rfl) rfl rfl ?_)
 rintro _ _ ⟨g, cap, rest, rfl, rfl⟩
 refine QC ?_
 refine QF ?_
 refine SU (KK3 ?_)
 refine QM ?_
 refine QQ (vlenK (n := 29) rfl rfl) rfl ?_
 refine QA ?_
 refine QA (vnil ?_)
 refine vret (vr2 (H' := (g, blk (Lib.byteCells lineL ++ rest) 5) :: x3 :: x2 :: (b, blk [ptr b, .slice (some ⟨g, 0, Option.none⟩) 29 (cap + 1)] 97) :: H) Tryz.func48 rfl (.tmp rfl) (.tmp rfl) sb ?_)
 exact ⟨g, cap, rest, rfl, rfl⟩
theorem k_str (g cap : Nat) (rest : List Value) (x3 x2 : Nat × Obj) (b : Nat) (H : Heap) : VHas Tryz.prog 52 [ptr b] (.string (ByteArray.mk #[48, 48, 48, 49, 50, 32, 45, 48, 48, 49, 50, 51, 32, 43, 48, 52, 53, 54, 55, 32, 48, 48, 56, 57, 48, 32, 99, 56, 10])) ((g, blk (Lib.byteCells lineL ++ rest) 5) :: x3 :: x2 :: (b, blk [ptr b, .slice (some ⟨g, 0, Option.none⟩) 29 (cap + 1)] 97) :: H) (x3 :: x2 :: (b, blk [ptr b, .slice (some ⟨g, 0, Option.none⟩) 29 (cap + 1)] 97) :: H) := by
 refine CV 14 Tryz.func52 ?_
 refine KK2 (QA (vnil (vseq ?_)))
 refine DR [(.q, 0), (.q, 1), (.q, 2), (.q, 3), (.q, 4), (.q, 5), (.q, 6), (.q, 7), (.q, 8), (.q, 9), (.w, 10), (.q, 11)] Tryz.mixed ?_
 refine DM ?_
 refine DC ?_
 refine DF ?_
 refine DL ?_
 refine DD (vusd rfl) rfl ?_
 refine DM ?_
 refine DC ?_
 refine DF ?_
 refine DL ?_
 refine DD (vlen rfl) rfl ?_
 refine vdw rfl (mone rfl) (vuss (xs := lineL) (by kernel_rfl) (by kernel_rfl) (.refl _) rfl rfl (by simp [lineL]) rfl) rfl rfl ?_
 rintro _ _ ⟨rfl, rfl⟩
 refine DA (vdend rfl ?_)
 refine vret (V1 (x3 :: x2 :: (b, blk [ptr b, .slice (some ⟨g, 0, Option.none⟩) 29 (cap + 1)] 97) :: H) Tryz.func52 ?_)
 exact ⟨rfl, rfl⟩
theorem q_CheckMarks0 (mb : Nat) (H : Heap) [hm : HAt H mb [I 12, I (-123), I 4567, I 890] 46] : VHas Tryz.prog 34 [.slice (some ⟨mb, 0, Option.none⟩) 1 1] (I 0) H H := by
 refine CV 56 Tryz.func34 ?_
 refine KK2 (QA (vnil (vseq (KK2 ?_))))
 refine QM ?_
 refine QQ (vlen rfl) rfl ?_
 refine QQ (vgtr rfl rfl) rfl (vnil ?_)
 refine vcondf rfl (vskip (vseq (KK2 (QM ?_))))
 refine QQ (vlen rfl) rfl ?_
 refine QM (vnil (vblock ?_))
 refine vloop1 ?_
 refine KK2 (QS (vnil (vseq ?_)))
 refine vcondt rfl (vskip (vseq (vblock (KK2 (QM ?_)))))
 refine QQ (vis rfl rfl (by decide)) rfl ?_
 refine QN ?_
 refine AL fun b1 => ?_
 refine QA ?_
 refine SN (vnil (vseq (KK2 ?_)))
 refine QF ?_
 refine QL ?_
 refine QQ (vcp rfl rfl rfl (c_tpwithin _ _ _)) rfl ?_
 refine vknow (d := 17) (b' := true) rfl (by decide) ?_
 refine QQ (vnot rfl) rfl ?_
 refine QM ?_
 refine YF ?_
 refine YN ?_
 refine YY (vcp rfl rfl rfl (c_chk0 ⟨-123, 4567⟩ (by unfold Pt.ok; decide))) rfl ?_
 refine YG ?_
 refine vknow (d := 23) (b' := false) rfl (by decide) ?_
 refine QU ?_
 refine QM ?_
 refine YF ?_
 refine YL ?_
 refine YY (vcp rfl rfl rfl (c_tpwithin _ _ _)) rfl ?_
 refine vknow (d := 28) (b' := true) rfl (by decide) ?_
 refine YY (vnot rfl) rfl ?_
 refine QU (vnil ?_)
 refine vcondf rfl (vskip (vseq ?_))
 refine DR [(.q, 0), (.q, 1), (.q, 2), (.q, 3), (.q, 4), (.q, 5), (.q, 6), (.q, 7), (.q, 8), (.q, 9), (.q, 10), (.q, 11), (.q, 12), (.q, 13), (.q, 14), (.q, 15), (.q, 16), (.q, 17), (.q, 18), (.q, 19), (.q, 20), (.q, 21), (.q, 22), (.q, 23)] Tryz.mixed ?_
 refine DM ?_
 refine DD (vgtr rfl rfl) rfl ?_
 refine DM ?_
 refine NP4 ?_
 refine NP4 ?_
 refine NP2 ?_
 refine vdnou rfl rfl rfl rfl rfl ?_
 refine vdnou rfl rfl rfl rfl rfl ?_
 refine vdnou rfl rfl rfl rfl rfl ?_
 refine vdnou rfl rfl rfl rfl rfl ?_
 refine vdnou rfl rfl rfl rfl rfl ?_
 refine vdnou rfl rfl rfl rfl rfl ?_
 refine vdnou rfl rfl rfl rfl rfl ?_
 refine vdnou rfl rfl rfl rfl rfl ?_
 refine vdnou rfl rfl rfl rfl rfl ?_
 refine NP ?_
 refine DU (vdend rfl ?_)
 refine vcondf rfl (vskip (vinblock (vregion (QQ (vadd rfl rfl (by unfold InR; decide)) rfl ?_))))
 refine QM (vnil ?_)
 refine vinloop1 ?_
 refine KK2 (QS (vnil (vseq ?_)))
 refine vcondf rfl ?_
 refine vexit (k' := _) rfl ?_
 refine KK2 (QA (vnil ?_))
 refine vret (V1 (H) Tryz.func34 ?_)
 exact ⟨rfl, rfl⟩
theorem q_text0 (mb : Nat) (H : Heap) [hm : HAt H mb [I 12, I (-123), I 4567, I 890] 46] [hg : Tabs H] : VHas Tryz.prog 35 [.slice (some ⟨mb, 0, Option.none⟩) 1 1] (.string (ByteArray.mk #[48, 48, 48, 49, 50, 32, 45, 48, 48, 49, 50, 51, 32, 43, 48, 52, 53, 54, 55, 32, 48, 48, 56, 57, 48, 32, 99, 56, 10])) H H := by
 refine CV 31 Tryz.func35 ?_
 refine KK2 (QA (KK3 ?_))
 refine AL fun b1 => (vnil (vseq (KK2 ?_)))
 refine QM ?_
 refine QQ (vlen rfl) rfl ?_
 refine QM (vnil (vblock ?_))
 refine vloop1 ?_
 refine KK2 (QKb (.bool true) (vnil (vseq ?_)))
 refine vcondt rfl (vskip (vseq (vblock (KK2 (QQ (vis rfl rfl (by decide)) rfl ?_)))))
 refine QN ?_
 refine AL fun b2 => ?_
 refine SN (vnil ?_)
 refine DR [(.q, 0), (.q, 1), (.q, 2), (.q, 3), (.q, 4), (.q, 5), (.q, 6), (.q, 7), (.q, 8), (.q, 9), (.q, 10), (.q, 11), (.q, 12), (.q, 13), (.m, 14), (.n, 15), (.w, 16)] Tryz.mixed ?_
 refine DF ?_
 refine DL ?_
 refine DD (vcq rfl rfl rfl (k_50_3 _)) rfl ?_
 refine DF ?_
 refine DF ?_
 refine DL ?_
 refine DD (vcq rfl rfl rfl (k_51_22 _)) rfl ?_
 refine DF ?_
 refine DF ?_
 refine DL ?_
 refine DD (vcq rfl rfl rfl (k_51_25 _)) rfl ?_
 refine DF ?_
 refine DL ?_
 refine DD (vcq rfl rfl rfl (k_50_14 _)) rfl ?_
 refine vdm (mone rfl) (vbsP rfl rfl rfl rfl rfl rfl) rfl rfl (fun b3 => ?_)
 refine vdn rfl (mone rfl) (vcq rfl rfl rfl (k_line _ _)) rfl rfl ?_
 refine vdw rfl (mone rfl) (vcg rfl rfl rfl (k_ws _ _ b1 _) ws_hv) rfl rfl ?_
 rintro _ _ ⟨g, cap, rest, rfl, rfl⟩
 refine vdend rfl (vinblock (vregion (QKb (.int .i64 1) ?_)))
 refine QM (vnil ?_)
 refine vinloop1 ?_
 refine KK2 (QKb (.bool false) (vnil (vseq ?_)))
 refine vcondf rfl ?_
 refine vexit (k' := _) rfl ?_
 refine KK2 ?_
 refine vone rfl (vxg (vch rfl rfl rfl (k_str g cap rest _ _ b1 _)) rfl rfl ?_)
 rintro _ _ ⟨rfl, rfl⟩
 refine QA (vnil ?_)
 refine vret (V1 (H) Tryz.func35 ?_)
 exact ⟨rfl, rfl⟩
theorem q_PrintMarks0 (mb : Nat) (H : Heap) [hm : HAt H mb [I 12, I (-123), I 4567, I 890] 46] [hg : Tabs H] : VHas Tryz.prog 28 [.slice (some ⟨mb, 0, Option.none⟩) 1 1] (tup [.string (ByteArray.mk #[48, 48, 48, 49, 50, 32, 45, 48, 48, 49, 50, 51, 32, 43, 48, 52, 53, 54, 55, 32, 48, 48, 56, 57, 48, 32, 99, 56, 10]), I 0]) H H := by
 refine CV 12 Tryz.func28 ?_
 refine KK2 (QA ?_)
 refine QA (vnil (vseq (KK2 ?_)))
 refine QM ?_
 refine QQ (vcq rfl rfl rfl (q_CheckMarks0 mb _)) rfl ?_
 refine QA (KK3 ?_)
 refine QM ?_
 refine QG ?_
 refine vknow (d := 8) (b' := false) rfl (by decide) ?_
 refine vnil (vcondf rfl (vskip (KK2 (QM ?_))))
 refine QQ (vcq rfl rfl rfl (q_text0 mb _)) rfl ?_
 refine QA ?_
 refine QA (vnil ?_)
 refine vret (vr2 (H' := H) Tryz.func28 rfl (.tmp rfl) (.tmp rfl) sb2 ?_)
 exact ⟨rfl, rfl⟩
end Go.Proofs.YtoebpndlbldfcaaGreatDoor
