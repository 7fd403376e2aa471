/-
  Walks of fields.
-/
import Derived.Test.YtffpfcomikcimaaWl
import Derived.Test.YtffpfcomikcimaaPlf
namespace Go.Proofs.Ytffpfcomikcimaa
open Go
set_option maxRecDepth 100000

attribute [local irreducible] tightP hullP rootP farP rows endsOf sqL sqP twoE pickL
theorem turn_bd {a b c : Pt} (ha : a.sm 1048576) (hb : b.sm 1048576) (hc : c.sm 1048576) : (-4398046511104 ≤ (b.x - a.x) * (c.y - a.y) ∧ (b.x - a.x) * (c.y - a.y) ≤ 4398046511104) ∧ (-4398046511104 ≤ (b.y - a.y) * (c.x - a.x) ∧ (b.y - a.y) * (c.x - a.x) ≤ 4398046511104) := by
  unfold Pt.sm at *
  have h1 := abs_mul_bd (a := b.x - a.x) (b := c.y - a.y) (m := 2097152) (k := 2097152) (by omega) (by omega)
  have h2 := abs_mul_bd (a := b.y - a.y) (b := c.x - a.x) (m := 2097152) (k := 2097152) (by omega) (by omega)
  omega

/-- paravane/region.left -/
theorem c_left (a b c : Pt) (ha : a.sm 1048576) (hb : b.sm 1048576) (hc : c.sm 1048576) : VPure Try.prog 122 [vP a, vP b, vP c] (I (turnP a b c)) := by
  have hbd := turn_bd ha hb hc
  unfold Pt.sm at ha hb hc
  intro H
  refine vcall_of_vrun Try.func122 rfl (N := 30) rfl rfl ?_
  refine vseq ?_
  refine vregion ?_
  refine vone rfl (vxa (vbox rfl rfl) rfl rfl (fun b1 => ?_))
  refine vone rfl (vxa (vbox rfl rfl) rfl rfl (fun b2 => ?_))
  refine vone rfl (vxa (vbox rfl rfl) rfl rfl (fun b3 => ?_))
  refine vone rfl (vxq (vas rfl) rfl rfl ?_)
  refine vnil ?_
  refine vseq ?_
  refine vregion ?_
  refine vone rfl (vxq (vfa rfl) rfl rfl ?_)
  refine vone rfl (vxq (vld1 rfl rfl) rfl rfl ?_)
  refine vone rfl (vxq (vfa rfl) rfl rfl ?_)
  refine vone rfl (vxq (vld1 rfl rfl) rfl rfl ?_)
  refine vone rfl (vxq (vsub rfl rfl (by unfold InR; omega)) rfl rfl ?_)
  refine vone rfl (vxq (vfa rfl) rfl rfl ?_)
  refine vone rfl (vxq (vld1 rfl rfl) rfl rfl ?_)
  refine vone rfl (vxq (vfa rfl) rfl rfl ?_)
  refine vone rfl (vxq (vld1 rfl rfl) rfl rfl ?_)
  refine vone rfl (vxq (vsub rfl rfl (by unfold InR; omega)) rfl rfl ?_)
  refine vone rfl (vxq (vmul rfl rfl (by unfold InR; omega)) rfl rfl ?_)
  refine vone rfl (vxq (vfa rfl) rfl rfl ?_)
  refine vone rfl (vxq (vld1 rfl rfl) rfl rfl ?_)
  refine vone rfl (vxq (vfa rfl) rfl rfl ?_)
  refine vone rfl (vxq (vld1 rfl rfl) rfl rfl ?_)
  refine vone rfl (vxq (vsub rfl rfl (by unfold InR; omega)) rfl rfl ?_)
  refine vone rfl (vxq (vfa rfl) rfl rfl ?_)
  refine vone rfl (vxq (vld1 rfl rfl) rfl rfl ?_)
  refine vone rfl (vxq (vfa rfl) rfl rfl ?_)
  refine vone rfl (vxq (vld1 rfl rfl) rfl rfl ?_)
  refine vone rfl (vxq (vsub rfl rfl (by unfold InR; omega)) rfl rfl ?_)
  refine vone rfl (vxq (vmul rfl rfl (by unfold InR; omega)) rfl rfl ?_)
  refine vone rfl (vxq (vsub rfl rfl (by unfold InR; omega)) rfl rfl ?_)
  refine vone rfl (vxq (vas rfl) rfl rfl ?_)
  refine vnil ?_
  refine vret (vr1 (H' := H) Try.func122 rfl (.tmp rfl) (by repeat first | exact .refl _ | refine .cons_cons _ ?_ | refine .cons _ ?_ | exact sl0 _ | refine slA ?_) ?_)
  exact ⟨rfl, rfl⟩
/-- paravane/paravaneref01.turn -/
theorem c_turn (a b c : Pt) (ha : a.sm 1048576) (hb : b.sm 1048576) (hc : c.sm 1048576) : VPure Try.prog 123 [vP a, vP b, vP c] (I (turnP a b c)) := by
  have hbd := turn_bd ha hb hc
  unfold Pt.sm at ha hb hc
  intro H
  refine vcall_of_vrun Try.func123 rfl (N := 30) rfl rfl ?_
  refine vseq ?_
  refine vregion ?_
  refine vone rfl (vxa (vbox rfl rfl) rfl rfl (fun b1 => ?_))
  refine vone rfl (vxa (vbox rfl rfl) rfl rfl (fun b2 => ?_))
  refine vone rfl (vxa (vbox rfl rfl) rfl rfl (fun b3 => ?_))
  refine vone rfl (vxq (vas rfl) rfl rfl ?_)
  refine vnil ?_
  refine vseq ?_
  refine vregion ?_
  refine vone rfl (vxq (vfa rfl) rfl rfl ?_)
  refine vone rfl (vxq (vld1 rfl rfl) rfl rfl ?_)
  refine vone rfl (vxq (vfa rfl) rfl rfl ?_)
  refine vone rfl (vxq (vld1 rfl rfl) rfl rfl ?_)
  refine vone rfl (vxq (vsub rfl rfl (by unfold InR; omega)) rfl rfl ?_)
  refine vone rfl (vxq (vfa rfl) rfl rfl ?_)
  refine vone rfl (vxq (vld1 rfl rfl) rfl rfl ?_)
  refine vone rfl (vxq (vfa rfl) rfl rfl ?_)
  refine vone rfl (vxq (vld1 rfl rfl) rfl rfl ?_)
  refine vone rfl (vxq (vsub rfl rfl (by unfold InR; omega)) rfl rfl ?_)
  refine vone rfl (vxq (vmul rfl rfl (by unfold InR; omega)) rfl rfl ?_)
  refine vone rfl (vxq (vfa rfl) rfl rfl ?_)
  refine vone rfl (vxq (vld1 rfl rfl) rfl rfl ?_)
  refine vone rfl (vxq (vfa rfl) rfl rfl ?_)
  refine vone rfl (vxq (vld1 rfl rfl) rfl rfl ?_)
  refine vone rfl (vxq (vsub rfl rfl (by unfold InR; omega)) rfl rfl ?_)
  refine vone rfl (vxq (vfa rfl) rfl rfl ?_)
  refine vone rfl (vxq (vld1 rfl rfl) rfl rfl ?_)
  refine vone rfl (vxq (vfa rfl) rfl rfl ?_)
  refine vone rfl (vxq (vld1 rfl rfl) rfl rfl ?_)
  refine vone rfl (vxq (vsub rfl rfl (by unfold InR; omega)) rfl rfl ?_)
  refine vone rfl (vxq (vmul rfl rfl (by unfold InR; omega)) rfl rfl ?_)
  refine vone rfl (vxq (vsub rfl rfl (by unfold InR; omega)) rfl rfl ?_)
  refine vone rfl (vxq (vas rfl) rfl rfl ?_)
  refine vnil ?_
  refine vret (vr1 (H' := H) Try.func123 rfl (.tmp rfl) (by repeat first | exact .refl _ | refine .cons_cons _ ?_ | refine .cons _ ?_ | exact sl0 _ | refine slA ?_) ?_)
  exact ⟨rfl, rfl⟩
/-- paravane/region.sides -/
theorem n_sides (oa : Option Addr) (n c : Nat) : VNew Try.prog 125 [sli oa n c] (blk [sli oa n c] 26) (fun b => .func (.func 151) #[] #[ptr b]) := by
  intro H
  refine vcall_of_vrun Try.func125 rfl (N := 4) rfl rfl ?_
  refine vseq ?_
  refine vregion ?_
  refine vone rfl (vxa (vbox rfl rfl) rfl rfl (fun b1 => ?_))
  refine vone rfl (vxq (vas rfl) rfl rfl ?_)
  refine vnil ?_
  refine vseq ?_
  refine vregion ?_
  refine vone rfl (vxq (vmf rfl) rfl rfl ?_)
  refine vone rfl (vxq (vas rfl) rfl rfl ?_)
  refine vnil ?_
  refine vret (vr1 (H' := (b1, blk [sli oa n c] 26) :: H) Try.func125 rfl (.tmp rfl) (by repeat first | exact .refl _ | refine .cons_cons _ ?_ | refine .cons _ ?_ | exact sl0 _ | refine slA ?_) ?_)
  exact ⟨_, rfl, rfl⟩
/-- paravane/region.sides$1 -/
theorem it_sides (f : List Pt) (oa : Option Addr) (n c : Nat) (hn : f.length = n) (hmax : n ≤ 9223372036854775807) (H : Heap) [SlO H oa 2 encP f] (b : Nat) : VIt Try.prog 151 [ptr b] (fun s => [vP s.1, vP s.2]) (sidesL f) ((b, blk [sli oa n c] 26) :: H) := by
  intro yf ya yc J Jx Hc0 hJ0 hy
  change VCall _ _ _ ((b, blk [sli oa n c] 26) :: (H ++ Hc0)) _
  refine vcall_of_vrun Try.func151 rfl (N := 25) rfl rfl ?_
  refine vseq ?_
  refine vregion ?_
  refine vone rfl (vxq (vld1 rfl rfl) rfl rfl ?_)
  refine vone rfl (vxq (vlen rfl) rfl rfl ?_)
  refine vone rfl (vxq (vmv rfl) rfl rfl ?_)
  refine vnil ?_
  refine vblock ?_
  refine vwhile (σ := Int × Heap) (fun ⟨i, Hc⟩ => (n - i).toNat) (fun ⟨i, Hc⟩ => [(0, .func yf ya yc), (1, ptr b), (5, sli oa n c), (6, I n), (7, I i)]) (fun ⟨i, Hc⟩ => (b, blk [sli oa n c] 26) :: (H ++ Hc)) (fun ⟨i, Hc⟩ => (0 ≤ i ∧ i ≤ n) ∧ J ((sidesL f).take i.toNat) Hc) (0, Hc0) ⟨⟨by omega, by omega⟩, hJ0⟩ ⟨rfl, rfl, rfl, rfl, rfl, True.intro⟩ (by repeat first | exact .refl _ | refine .cons_cons _ ?_ | refine .cons _ ?_ | exact sl0 _ | refine slA ?_) ?_
  rintro ⟨i, Hc⟩ ⟨⟨hi0, hin⟩, hJ⟩ IH
  change VRun _ _ _ _ _ [(0, .func yf ya yc), (1, ptr b), (5, sli oa n c), (6, I n), (7, I i)] _ ((b, blk [sli oa n c] 26) :: (H ++ Hc)) _
  refine vseq ?_
  refine vregion ?_
  refine vone rfl (vxq (vlss rfl rfl) rfl rfl ?_)
  refine vnil ?_
  refine vseq ?_
  refine vcondd rfl (fun h8 => ?_) (fun h8 => ?_)
  · skip
    obtain ⟨z, hz⟩ := get_of_lt f (i := i.toNat) (by omega)
    have hmb := mod_bd (i := i + 1) (n := n) (by omega)
    obtain ⟨zk, hzk⟩ := get_of_lt f (i := ((i + 1) % (n : Int)).toNat) (by omega)
    have hs : (sidesL f)[i.toNat]? = some (z, zk) := by rw [sides_get (by omega), atP_of hz, ← nxt_int hn hi0, atP_of hzk]
    obtain ⟨post, hps⟩ := split_at hs
    refine vskip ?_
    refine vseq ?_
    refine vblock ?_
    refine vseq ?_
    refine vregion ?_
    refine vone rfl (vxq (vmv rfl) rfl rfl ?_)
    refine vone rfl (vxq (visg (enc := encP) rfl rfl (by omega) hz) rfl rfl ?_)
    refine vone rfl (vxq (vldS (enc := encP) rfl hz) rfl rfl ?_)
    refine vone rfl (vxa valloc rfl rfl (fun b1 => ?_))
    refine vone rfl (vxq (vas rfl) rfl rfl ?_)
    refine vone rfl (vxs (vstn rfl rfl rfl rfl rfl) rfl ?_)
    refine vnil ?_
    refine vseq ?_
    refine vdraw0 [(.q, 0), (.q, 1), (.q, 2), (.q, 3), (.q, 4), (.q, 5), (.q, 6), (.q, 7), (.q, 8), (.q, 9), (.w, 10), (.q, 11)] Try.mixed (by kernel_rfl) (by kernel_rfl) ?_
    refine vdq (mone rfl) (vmv rfl) rfl rfl ?_
    refine vdq (mone rfl) (vldn rfl rfl) rfl rfl ?_
    refine vdq (mone rfl) (vld1 rfl rfl) rfl rfl ?_
    refine vdq (mone rfl) (vmv rfl) rfl rfl ?_
    refine vdq (mone rfl) (vadd rfl rfl (by unfold InR; omega)) rfl rfl ?_
    refine vdq (mone rfl) (vld1 rfl rfl) rfl rfl ?_
    refine vdq (mone rfl) (vlen rfl) rfl rfl ?_
    refine vdq (mone rfl) (vremp rfl rfl (by omega) (by omega)) rfl rfl ?_
    refine vdq (mone rfl) (visg (enc := encP) rfl rfl hmb hzk) rfl rfl ?_
    refine vdq (mone rfl) (vldS (enc := encP) rfl hzk) rfl rfl ?_
    refine vdw rfl (mone rfl) (vcy rfl rfl (VY.l2 (hy _ (z, zk) _ hps _ hJ))) rfl rfl ?_
    rintro _ _ ⟨bb, rfl, Hc, rfl, hJ⟩
    rcases bb with _ | _
    · skip
      refine vdq (mone rfl) (vnot rfl) rfl rfl ?_
      refine vdend rfl ?_
      refine vcondt rfl ?_
      refine vret (vr0 (H' := (b, blk [sli oa n c] 26) :: (H ++ Hc)) Try.func151 rfl  (by repeat first | exact .refl _ | refine .cons_cons _ ?_ | refine .cons _ ?_ | exact sl0 _ | refine slA ?_) ?_)
      first | exact ⟨rfl, Hc, rfl, .inl (by rw [List.take_of_length_le (by rw [sides_len]; omega)] at hJ; exact hJ)⟩ | exact ⟨rfl, Hc, rfl, .inr hJ⟩
    · skip
      refine vdq (mone rfl) (vnot rfl) rfl rfl ?_
      refine vdend rfl ?_
      refine vcondf rfl ?_
      refine vskip ?_
      refine vinblock ?_
      refine vregion ?_
      refine vone rfl (vxq (vadd rfl rfl (by unfold InR; omega)) rfl rfl ?_)
      refine vone rfl (vxq (vmv rfl) rfl rfl ?_)
      refine vnil ?_
      exact vback (IH (i + 1, Hc) ⟨⟨by omega, by omega⟩, by rw [show (i + 1).toNat = i.toNat + 1 by omega, take_succ_of hs]; exact hJ⟩ (by show (_ : Int).toNat < (_ : Int).toNat; omega)) ⟨rfl, rfl, rfl, rfl, rfl, True.intro⟩ (by repeat first | exact .refl _ | refine .cons_cons _ ?_ | refine .cons _ ?_ | exact sl0 _ | refine slA ?_)
  · skip
    refine vexit (k' := _) rfl ?_
    refine vend (vr0 (H' := (b, blk [sli oa n c] 26) :: (H ++ Hc)) Try.func151 rfl  (by repeat first | exact .refl _ | refine .cons_cons _ ?_ | refine .cons _ ?_ | exact sl0 _ | refine slA ?_) ?_)
    first | exact ⟨rfl, Hc, rfl, .inl (by rw [List.take_of_length_le (by rw [sides_len]; omega)] at hJ; exact hJ)⟩ | exact ⟨rfl, Hc, rfl, .inr hJ⟩
theorem permA (r x y z : Nat × Obj) (H : Heap) : List.Perm (r :: ((z :: H) ++ [x, y])) (r :: x :: y :: z :: H) := List.Perm.cons _ (List.perm_append_comm (l₁ := z :: H) (l₂ := [x, y]))
theorem permB (x y z : Nat × Obj) (H : Heap) : List.Perm (z :: x :: y :: H) ((z :: H) ++ [x, y]) := (List.perm_append_comm (l₁ := [x, y]) (l₂ := H)).cons z
theorem sides_sm {f : List Pt} {m : Int} (hf : ∀ q ∈ f, q.sm m) {s : Pt × Pt} (hs : s ∈ sidesL f) : s.1.sm m ∧ s.2.sm m := by
  unfold sidesL at hs
  obtain ⟨i, hi, rfl⟩ := List.mem_map.1 hs
  have hi := List.mem_range.1 hi
  have at_mem : ∀ j, j < f.length → atP f j ∈ f := fun j hj => by
    obtain ⟨z, hz⟩ := get_of_lt f hj
    rw [atP_of hz]; exact List.mem_of_getElem? hz
  exact ⟨hf _ (at_mem i hi), hf _ (at_mem _ (nxt_lt hi))⟩
theorem in_false {f : List Pt} {p : Pt} {s : Pt × Pt} (hs : s ∈ sidesL f) (h : turnP s.1 s.2 p < 0) : inF f p = false := by
  cases e : inF f p with
  | false => rfl
  | true =>
    have := List.all_eq_true.1 (show (sidesL f).all (fun s => decide (0 ≤ turnP s.1 s.2 p)) = true from e) s hs
    have := of_decide_eq_true this; omega
/-- paravane/region.in -/
theorem q_in (p : Pt) (hp : p.sm 1048576) (f : List Pt) (oa : Option Addr) (n c : Nat) (hn : f.length = n) (hmax : n ≤ 9223372036854775807) (H : Heap) [SlO H oa 2 encP f] (hf : ∀ q ∈ f, q.sm 1048576) : VHas Try.prog 120 [sli oa n c, vP p] (.bool (inF f p)) H H := by
  refine vcall_of_vrun Try.func120 rfl (N := 16) rfl rfl ?_
  refine vseq ?_
  refine vregion ?_
  refine vone rfl (vxa (vbox rfl rfl) rfl rfl (fun b1 => ?_))
  refine vone rfl (vxa valloc rfl rfl (fun b2 => ?_))
  refine vnil ?_
  refine vseq ?_
  refine vseq ?_
  refine vregion ?_
  refine vone rfl (vxq (vmv rfl) rfl rfl ?_)
  refine vone rfl (vxg (vcnew rfl rfl rfl (n_sides oa n c)) rfl rfl ?_)
  rintro _ _ ⟨b3, rfl, rfl⟩
  refine vnil ?_
  refine vblock ?_
  refine vrange (enc := (fun (s : Pt × Pt) => [vP s.1, vP s.2])) (xs := (sidesL f)) (caps := [ptr b3]) (Hi := ((b3, blk [sli oa n c] 26) :: H)) (Hc := [(b2, blk [.bool false] 4), (b1, blk [I p.x, I p.y] 36)]) (ps := [9, 10]) (fun (pre : List (Pt × Pt)) H1 => H1 = [(b2, blk [.bool false] 4), (b1, blk [I p.x, I p.y] 36)] ∧ pre.all (fun s => decide (0 ≤ turnP s.1 s.2 p)) = true) (fun c H1 => (c = .ret ∧ H1 = [(b2, blk [.bool false] 4), (b1, blk [I p.x, I p.y] 36)]) ∧ inF f p = false) rfl (it_sides f oa n c hn hmax H b3) (permB _ _ _ _) ⟨rfl, rfl⟩ (fun _ => rfl) rfl ?_ ?_ ?_
  · intro lpa reca prea xa posta H1a hrsa hxsa hIa
    obtain ⟨rfl, hall⟩ := hIa
    have hxm : xa ∈ sidesL f := by rw [hxsa]; simp
    have hxs1 : xa.1.sm 1048576 := sides_sm hf hxm |>.1
    have hxs2 : xa.2.sm 1048576 := sides_sm hf hxm |>.2
    refine vseq ?_
    refine vregion ?_
    refine vone rfl (vxa valloc rfl rfl (fun b4 => ?_))
    refine vone rfl (vxs (vstn rfl rfl rfl rfl rfl) rfl ?_)
    refine vnil ?_
    refine vregion ?_
    refine vone rfl (vxa valloc rfl rfl (fun b5 => ?_))
    refine vone rfl (vxs (vstn rfl rfl rfl rfl rfl) rfl ?_)
    refine vnil ?_
    refine vbegin hrsa ?_
    refine vblock ?_
    refine vseq ?_
    refine vregion ?_
    refine vone rfl (vxq (vldn rfl rfl) rfl rfl ?_)
    refine vone rfl (vxq (vldn rfl rfl) rfl rfl ?_)
    refine vone rfl (vxq (vldn rfl rfl) rfl rfl ?_)
    refine vone rfl (vxq (vcp rfl rfl rfl (c_left xa.1 xa.2 p hxs1 hxs2 hp)) rfl rfl ?_)
    refine vone rfl (vxq (vlss rfl rfl) rfl rfl ?_)
    refine vnil ?_
    refine vcondd rfl (fun h15 => ?_) (fun h15 => ?_)
    · skip
      refine vseq ?_
      refine vregion ?_
      refine vone rfl (vxs (vst1 rfl rfl rfl rfl) rfl ?_)
      refine vnil ?_
      refine vroundI_ret (H' := [(b2, _), (b1, _)]) (by repeat first | exact .refl _ | refine .cons_cons _ ?_ | refine .cons _ ?_ | exact sl0 _ | refine slA ?_) ?_
      exact ⟨⟨rfl, rfl⟩, in_false hxm h15⟩
    · skip
      refine vskip ?_
      refine vinblock ?_
      refine vroundI_end (H' := [(b2, _), (b1, _)]) (by repeat first | exact .refl _ | refine .cons_cons _ ?_ | refine .cons _ ?_ | exact sl0 _ | refine slA ?_) ?_
      exact ⟨rfl, by rw [inF_snoc, hall, decide_eq_true (Int.not_lt.1 h15)]; rfl⟩
  · intro r1a H1a hIa
    obtain ⟨rfl, hall⟩ := hIa
    refine VRun.perm (H' := (r1a, Obj.deferred (some [])) :: (b2, blk [.bool false] 4) :: (b1, blk [I p.x, I p.y] 36) :: (b3, blk [sli oa n c] 26) :: H) (permA _ _ _ _ _) ?_
    refine vinblock ?_
    refine vseq ?_
    refine vregion ?_
    refine vone rfl (vxs (vst1 rfl rfl rfl rfl) rfl ?_)
    refine vnil ?_
    refine vret (vret_mark (vr1 (H' := H) Try.func120 rfl (.cell1 rfl rfl) (by repeat first | exact .refl _ | refine .cons_cons _ ?_ | refine .cons _ ?_ | exact sl0 _ | refine slA ?_) ?_))
    first | exact ⟨oV (by rw [show inF f p = true from hall]), rfl⟩ | exact ⟨oV (by rw [hno]), rfl⟩
  · intro r1a ca H1a hIa
    obtain ⟨⟨rfl, rfl⟩, hno⟩ := hIa
    refine VRun.perm (H' := (r1a, Obj.deferred (some [])) :: (b2, blk [.bool false] 4) :: (b1, blk [I p.x, I p.y] 36) :: (b3, blk [sli oa n c] 26) :: H) (permA _ _ _ _ _) ?_
    refine vret (vret_mark (vr1 (H' := H) Try.func120 rfl (.cell1 rfl rfl) (by repeat first | exact .refl _ | refine .cons_cons _ ?_ | refine .cons _ ?_ | exact sl0 _ | refine slA ?_) ?_))
    first | exact ⟨oV (by rw [show inF f p = true from hall]), rfl⟩ | exact ⟨oV (by rw [hno]), rfl⟩
/-- paravane/paravaneref01.inside -/
theorem q_inside (p : Pt) (hp : p.sm 1048576) (f : List Pt) (oa : Option Addr) (n c : Nat) (hn : f.length = n) (hmax : n ≤ 9223372036854775807) (H : Heap) [SlO H oa 2 encP f] (hf : ∀ q ∈ f, q.sm 1048576) : VHas Try.prog 121 [sli oa n c, vP p] (.bool (inF f p)) H H := by
  refine vcall_of_vrun Try.func121 rfl (N := 27) rfl rfl ?_
  refine vseq ?_
  refine vregion ?_
  refine vone rfl (vxa (vbox rfl rfl) rfl rfl (fun b1 => ?_))
  refine vone rfl (vxq (vas rfl) rfl rfl ?_)
  refine vnil ?_
  refine vseq ?_
  refine vseq ?_
  refine vregion ?_
  refine vone rfl (vxq (vas rfl) rfl rfl ?_)
  refine vnil ?_
  refine vblock ?_
  refine vwhile (σ := Int) (fun i => (n - i).toNat) (fun i => [(0, sli oa n c), (3, ptr b1), (4, .bool false), (5, I i)]) (fun i => (b1, blk [I p.x, I p.y] 36) :: H) (fun i => (0 ≤ i ∧ i ≤ n) ∧ ((sidesL f).take i.toNat).all (fun s => decide (0 ≤ turnP s.1 s.2 p)) = true) 0 ⟨⟨by omega, by omega⟩, rfl⟩ ⟨rfl, rfl, rfl, rfl, True.intro⟩ (by repeat first | exact .refl _ | refine .cons_cons _ ?_ | refine .cons _ ?_ | exact sl0 _ | refine slA ?_) ?_
  rintro i ⟨⟨hi0, hin⟩, hall⟩ IH
  change VRun _ _ _ _ _ [(0, sli oa n c), (3, ptr b1), (4, .bool false), (5, I i)] _ ((b1, blk [I p.x, I p.y] 36) :: H) _
  refine vseq ?_
  refine vseq ?_
  refine vregion ?_
  refine vone rfl (vxq (vmv rfl) rfl rfl ?_)
  refine vone rfl (vxq (vmv rfl) rfl rfl ?_)
  refine vone rfl (vxq (vlen rfl) rfl rfl ?_)
  refine vone rfl (vxq (vlss rfl rfl) rfl rfl ?_)
  refine vnil ?_
  refine vcondd rfl (fun h9 => ?_) (fun h9 => ?_)
  · skip
    obtain ⟨z, hz⟩ := get_of_lt f (i := i.toNat) (by omega)
    have hmb := mod_bd (i := i + 1) (n := n) (by omega)
    obtain ⟨zk, hzk⟩ := get_of_lt f (i := ((i + 1) % (n : Int)).toNat) (by omega)
    have hs : (sidesL f)[i.toNat]? = some (z, zk) := by rw [sides_get (by omega), atP_of hz, ← nxt_int hn hi0, atP_of hzk]
    have hxm := List.mem_of_getElem? hs
    refine vskip ?_
    refine vseq ?_
    refine vblock ?_
    refine vseq ?_
    refine vdraw0 [(.q, 0), (.q, 1), (.q, 2), (.q, 3), (.q, 4), (.q, 5), (.q, 6), (.q, 7), (.q, 8), (.q, 9), (.q, 10), (.q, 11), (.q, 12), (.q, 13), (.q, 14)] Try.mixed (by kernel_rfl) (by kernel_rfl) ?_
    refine vdq (mone rfl) (vmv rfl) rfl rfl ?_
    refine vdq (mone rfl) (vmv rfl) rfl rfl ?_
    refine vdq (mone rfl) (visg (enc := encP) rfl rfl (by omega) hz) rfl rfl ?_
    refine vdq (mone rfl) (vldS (enc := encP) rfl hz) rfl rfl ?_
    refine vdq (mone rfl) (vmv rfl) rfl rfl ?_
    refine vdq (mone rfl) (vmv rfl) rfl rfl ?_
    refine vdq (mone rfl) (vadd rfl rfl (by unfold InR; omega)) rfl rfl ?_
    refine vdq (mone rfl) (vmv rfl) rfl rfl ?_
    refine vdq (mone rfl) (vlen rfl) rfl rfl ?_
    refine vdq (mone rfl) (vremp rfl rfl (by omega) (by omega)) rfl rfl ?_
    refine vdq (mone rfl) (visg (enc := encP) rfl rfl hmb hzk) rfl rfl ?_
    refine vdq (mone rfl) (vldS (enc := encP) rfl hzk) rfl rfl ?_
    refine vdq (mone rfl) (vldn rfl rfl) rfl rfl ?_
    refine vdq (mone rfl) (vcp rfl rfl rfl (c_turn z zk p (hf _ (List.mem_of_getElem? hz)) (hf _ (List.mem_of_getElem? hzk)) hp)) rfl rfl ?_
    refine vdq (mone rfl) (vlss rfl rfl) rfl rfl ?_
    refine vdend rfl ?_
    refine vcondd rfl (fun h26 => ?_) (fun h26 => ?_)
    · skip
      refine vseq ?_
      refine vregion ?_
      refine vone rfl (vxq (vas rfl) rfl rfl ?_)
      refine vnil ?_
      refine vret (vr1 (H' := H) Try.func121 rfl (.tmp rfl) (by repeat first | exact .refl _ | refine .cons_cons _ ?_ | refine .cons _ ?_ | exact sl0 _ | refine slA ?_) ?_)
      first | exact ⟨oV (by rw [in_false hxm h26]), rfl⟩ | exact ⟨oV (by rw [List.take_of_length_le (by rw [sides_len]; omega)] at hall; rw [show inF f p = true from hall]), rfl⟩
    · skip
      refine vskip ?_
      refine vinblock ?_
      refine vregion ?_
      refine vone rfl (vxq (vmv rfl) rfl rfl ?_)
      refine vone rfl (vxq (vadd rfl rfl (by unfold InR; omega)) rfl rfl ?_)
      refine vone rfl (vxq (vas rfl) rfl rfl ?_)
      refine vnil ?_
      exact vback (IH (i + 1) ⟨⟨by omega, by omega⟩, by rw [show (i + 1).toNat = i.toNat + 1 by omega, take_succ_of hs, inF_snoc, hall, decide_eq_true (Int.not_lt.1 h26)]; rfl⟩ (by show (_ : Int).toNat < (_ : Int).toNat; omega)) ⟨rfl, rfl, rfl, rfl, True.intro⟩ (by repeat first | exact .refl _ | refine .cons_cons _ ?_ | refine .cons _ ?_ | exact sl0 _ | refine slA ?_)
  · skip
    refine vexit (k' := _) rfl ?_
    refine vseq ?_
    refine vregion ?_
    refine vone rfl (vxq (vas rfl) rfl rfl ?_)
    refine vnil ?_
    refine vret (vr1 (H' := H) Try.func121 rfl (.tmp rfl) (by repeat first | exact .refl _ | refine .cons_cons _ ?_ | refine .cons _ ?_ | exact sl0 _ | refine slA ?_) ?_)
    first | exact ⟨oV (by rw [in_false hxm h26]), rfl⟩ | exact ⟨oV (by rw [List.take_of_length_le (by rw [sides_len]; omega)] at hall; rw [show inF f p = true from hall]), rfl⟩

/-- What the check of a field keeps: of the rows before, and of this one so far. -/
def FRow (f : List Pt) (i : Nat) (m : Int) : Prop := ∀ j : Nat, (j : Int) < m → j < f.length → j ≠ i → j ≠ nxt f i → 0 < turnP (atP f i) (atP f (nxt f i)) (atP f j)
def FRows (f : List Pt) (m : Int) : Prop := ∀ i : Nat, (i : Int) < m → i < f.length → FRow f i f.length
theorem FRow.next {f : List Pt} {i : Nat} {m : Int} (h : FRow f i m) (h0 : 0 ≤ m) (hx : m.toNat ≠ i → m.toNat ≠ nxt f i → 0 < turnP (atP f i) (atP f (nxt f i)) (atP f m.toNat)) : FRow f i (m + 1) := by
  intro j hj hl h1 h2
  by_cases e : (j : Int) = m
  · have e2 : j = m.toNat := by omega
    subst e2; exact hx h1 h2
  · exact h j (by omega) hl h1 h2
theorem FRows.next {f : List Pt} {m : Int} (h : FRows f m) (h0 : 0 ≤ m) (hx : FRow f m.toNat f.length) : FRows f (m + 1) := by
  intro i hi hl
  by_cases e : (i : Int) = m
  · have e2 : i = m.toNat := by omega
    subst e2; exact hx
  · exact h i (by omega) hl
theorem field_of {f : List Pt} {m : Int} (h1 : 3 ≤ f.length ∧ f.length ≤ 8) (h2 : ∀ p ∈ f, p.ok) (h3 : FRows f m) (hm : (f.length : Int) ≤ m) : FieldOk f :=
  ⟨h1, h2, fun i j hi hj h4 h5 => h3 i (by omega) hi j (by omega) hj h4 h5⟩
theorem field_bad {f : List Pt} {i j : Nat} (hi : i < f.length) (hj : j < f.length) (h1 : j ≠ i) (h2 : j ≠ nxt f i) (h : turnP (atP f i) (atP f (nxt f i)) (atP f j) ≤ 0) : ¬ FieldOk f := fun hf => by
  have := hf.2.2 i j hi hj h1 h2; omega
theorem okL_sm {f : List Pt} (h : ∀ p ∈ f, p.ok) : ∀ p ∈ f, p.sm 1048576 := fun p hp => (h p hp).sm.mono (by decide)
theorem take_all {f : List Pt} {n : Nat} {i : Int} (hn : f.length = n) (hi : ¬ i < n) (h : ∀ p ∈ f.take i.toNat, p.ok) : ∀ p ∈ f, p.ok := by
  rw [List.take_of_length_le (by omega)] at h; exact h
theorem take_next {f : List Pt} {i : Int} {z : Pt} (h0 : 0 ≤ i) (hz : f[i.toNat]? = some z) (h : ∀ p ∈ f.take i.toNat, p.ok) (hok : z.ok) : ∀ p ∈ f.take (i + 1).toNat, p.ok := by
  rw [show (i + 1).toNat = i.toNat + 1 by omega, take_succ_of hz]
  intro p hp
  rcases List.mem_append.1 hp with hp | hp
  · exact h p hp
  · rw [List.mem_singleton.1 hp]; exact hok

/-- paravane/region.CheckField -/
theorem q_CheckField (f : List Pt) (oa : Option Addr) (n c : Nat) (hn : f.length = n) (hmax : n ≤ 9223372036854775807) (H : Heap) [SlO H oa 2 encP f] : VHas Try.prog 44 [sli oa n c] (I (chkF f)) H H := by
  refine vcall_of_vrun Try.func44 rfl (N := 63) rfl rfl ?_
  refine vseq ?_
  refine vregion ?_
  refine vone rfl (vxq (vas rfl) rfl rfl ?_)
  refine vnil ?_
  refine vseq ?_
  refine vseq ?_
  refine vregion ?_
  refine vone rfl (vxq (vmv rfl) rfl rfl ?_)
  refine vone rfl (vxq (vlen rfl) rfl rfl ?_)
  refine vone rfl (vxq (vcp rfl rfl rfl (c_region_within _ _ _)) rfl rfl ?_)
  refine vone rfl (vxq (vnotd rfl) rfl rfl ?_)
  refine vnil ?_
  refine vcondd rfl (fun h13 => ?_) (fun h13 => ?_)
  · skip
    refine vseq ?_
    refine vregion ?_
    refine vone rfl (vxq (vas rfl) rfl rfl ?_)
    refine vnil ?_
    refine vret (vr1 (H' := H) Try.func44 rfl (.tmp rfl) (by repeat first | exact .refl _ | refine .cons_cons _ ?_ | refine .cons _ ?_ | exact sl0 _ | refine slA ?_) ?_)
    first | exact ⟨oI (chkF_no (fun h => by have := h.1; omega)).symm, rfl⟩ | exact ⟨oI (chkF_no (fun h => (chkP_nz.1 h22) (h.2.1 z (List.mem_of_getElem? hz)))).symm, rfl⟩ | exact ⟨oI (chkF_ok (field_of (by omega) hokF hrows (by omega))).symm, rfl⟩ | exact ⟨oI (chkF_no (field_bad (i := i.toNat) (j := j.toNat) (by omega) (by omega) (by omega) (fun e => (show j ≠ ((i + 1) % (n : Int)) by omega) (by rw [← nxt_int hn hi0] at e; omega)) (by rw [← nxt_int hn hi0, atP_of hz, atP_of hzk, atP_of hzj]; exact h60))).symm, rfl⟩
  · skip
    refine vskip ?_
    refine vseq ?_
    refine vseq ?_
    refine vregion ?_
    refine vone rfl (vxq (vmv rfl) rfl rfl ?_)
    refine vone rfl (vxq (vlen rfl) rfl rfl ?_)
    refine vone rfl (vxq (vmv rfl) rfl rfl ?_)
    refine vnil ?_
    refine vblock ?_
    refine vwhile (σ := Int) (fun i => (n - i).toNat) (fun i => [(0, sli oa n c), (2, I 0), (14, sli oa n c), (15, I n), (16, I i)]) (fun i => H) (fun i => (0 ≤ i ∧ i ≤ n) ∧ ∀ p ∈ f.take i.toNat, p.ok) 0 ⟨⟨by omega, by omega⟩, fun p hp => by simp at hp⟩ ⟨rfl, rfl, rfl, rfl, rfl, True.intro⟩ (by repeat first | exact .refl _ | refine .cons_cons _ ?_ | refine .cons _ ?_ | exact sl0 _ | refine slA ?_) ?_
    rintro i ⟨⟨hi0, hin⟩, hok⟩ IH
    change VRun _ _ _ _ _ [(0, sli oa n c), (2, I 0), (14, sli oa n c), (15, I n), (16, I i)] _ (H) _
    refine vseq ?_
    refine vregion ?_
    refine vone rfl (vxq (vlss rfl rfl) rfl rfl ?_)
    refine vnil ?_
    refine vseq ?_
    refine vcondd rfl (fun h17 => ?_) (fun h17 => ?_)
    · skip
      obtain ⟨z, hz⟩ := get_of_lt f (i := i.toNat) (by omega)
      refine vskip ?_
      refine vseq ?_
      refine vblock ?_
      refine vseq ?_
      refine vregion ?_
      refine vone rfl (vxq (visg (enc := encP) rfl rfl (by omega) hz) rfl rfl ?_)
      refine vone rfl (vxq (vldS (enc := encP) rfl hz) rfl rfl ?_)
      refine vone rfl (vxa valloc rfl rfl (fun b1 => ?_))
      refine vone rfl (vxs (vstn rfl rfl rfl rfl rfl) rfl ?_)
      refine vnil ?_
      refine vseq ?_
      refine vregion ?_
      refine vone rfl (vxq (vldn rfl rfl) rfl rfl ?_)
      refine vone rfl (vxq (vcp rfl rfl rfl (c_region_CheckPoint z)) rfl rfl ?_)
      refine vone rfl (vxq (vneq rfl rfl) rfl rfl ?_)
      refine vnil ?_
      refine vcondd rfl (fun h22 => ?_) (fun h22 => ?_)
      · skip
        refine vseq ?_
        refine vregion ?_
        refine vone rfl (vxq (vas rfl) rfl rfl ?_)
        refine vnil ?_
        refine vret (vr1 (H' := H) Try.func44 rfl (.tmp rfl) (by repeat first | exact .refl _ | refine .cons_cons _ ?_ | refine .cons _ ?_ | exact sl0 _ | refine slA ?_) ?_)
        first | exact ⟨oI (chkF_no (fun h => by have := h.1; omega)).symm, rfl⟩ | exact ⟨oI (chkF_no (fun h => (chkP_nz.1 h22) (h.2.1 z (List.mem_of_getElem? hz)))).symm, rfl⟩ | exact ⟨oI (chkF_ok (field_of (by omega) hokF hrows (by omega))).symm, rfl⟩ | exact ⟨oI (chkF_no (field_bad (i := i.toNat) (j := j.toNat) (by omega) (by omega) (by omega) (fun e => (show j ≠ ((i + 1) % (n : Int)) by omega) (by rw [← nxt_int hn hi0] at e; omega)) (by rw [← nxt_int hn hi0, atP_of hz, atP_of hzk, atP_of hzj]; exact h60))).symm, rfl⟩
      · skip
        refine vskip ?_
        refine vinblock ?_
        refine vregion ?_
        refine vone rfl (vxq (vadd rfl rfl (by unfold InR; omega)) rfl rfl ?_)
        refine vone rfl (vxq (vmv rfl) rfl rfl ?_)
        refine vnil ?_
        exact vback (IH (i + 1) ⟨⟨by omega, by omega⟩, take_next hi0 hz hok (chkP_zero.1 (nn h22))⟩ (by show (_ : Int).toNat < (_ : Int).toNat; omega)) ⟨rfl, rfl, rfl, rfl, rfl, True.intro⟩ (by repeat first | exact .refl _ | refine .cons_cons _ ?_ | refine .cons _ ?_ | exact sl0 _ | refine slA ?_)
    · skip
      have hokF := take_all hn h17 hok
      have hsmF := okL_sm hokF
      refine vexit (k' := _) rfl ?_
      refine vseq ?_
      refine vseq ?_
      refine vregion ?_
      refine vone rfl (vxq (vmv rfl) rfl rfl ?_)
      refine vone rfl (vxq (vlen rfl) rfl rfl ?_)
      refine vone rfl (vxq (vmv rfl) rfl rfl ?_)
      refine vnil ?_
      refine vblock ?_
      refine vwhile (σ := Int) (fun i => (n - i).toNat) (fun i => [(0, sli oa n c), (2, I 0), (24, sli oa n c), (25, I n), (26, I i)]) (fun i => H) (fun i => (0 ≤ i ∧ i ≤ n) ∧ FRows f i) 0 ⟨⟨by omega, by omega⟩, fun i hi => absurd hi (by omega)⟩ ⟨rfl, rfl, rfl, rfl, rfl, True.intro⟩ (by repeat first | exact .refl _ | refine .cons_cons _ ?_ | refine .cons _ ?_ | exact sl0 _ | refine slA ?_) ?_
      rintro i ⟨⟨hi0, hin⟩, hrows⟩ IH
      change VRun _ _ _ _ _ [(0, sli oa n c), (2, I 0), (24, sli oa n c), (25, I n), (26, I i)] _ (H) _
      refine vseq ?_
      refine vregion ?_
      refine vone rfl (vxq (vlss rfl rfl) rfl rfl ?_)
      refine vnil ?_
      refine vseq ?_
      refine vcondd rfl (fun h27 => ?_) (fun h27 => ?_)
      · skip
        obtain ⟨z, hz⟩ := get_of_lt f (i := i.toNat) (by omega)
        have hmb := mod_bd (i := i + 1) (n := n) (by omega)
        obtain ⟨zk, hzk⟩ := get_of_lt f (i := ((i + 1) % (n : Int)).toNat) (by omega)
        refine vskip ?_
        refine vseq ?_
        refine vblock ?_
        refine vseq ?_
        refine vregion ?_
        refine vone rfl (vxq (vmv rfl) rfl rfl ?_)
        refine vone rfl (vxq (visg (enc := encP) rfl rfl (by omega) hz) rfl rfl ?_)
        refine vone rfl (vxq (vldS (enc := encP) rfl hz) rfl rfl ?_)
        refine vone rfl (vxa valloc rfl rfl (fun b2 => ?_))
        refine vone rfl (vxq (vas rfl) rfl rfl ?_)
        refine vone rfl (vxs (vstn rfl rfl rfl rfl rfl) rfl ?_)
        refine vnil ?_
        refine vseq ?_
        refine vregion ?_
        refine vone rfl (vxq (vmv rfl) rfl rfl ?_)
        refine vone rfl (vxq (vadd rfl rfl (by unfold InR; omega)) rfl rfl ?_)
        refine vone rfl (vxq (vmv rfl) rfl rfl ?_)
        refine vone rfl (vxq (vlen rfl) rfl rfl ?_)
        refine vone rfl (vxq (vremp rfl rfl (by omega) (by omega)) rfl rfl ?_)
        refine vone rfl (vxq (vas rfl) rfl rfl ?_)
        refine vnil ?_
        refine vseq ?_
        refine vregion ?_
        refine vone rfl (vxq (vmv rfl) rfl rfl ?_)
        refine vone rfl (vxq (vlen rfl) rfl rfl ?_)
        refine vone rfl (vxq (vmv rfl) rfl rfl ?_)
        refine vnil ?_
        refine vblock ?_
        refine vwhile (σ := Int) (fun j => (n - j).toNat) (fun j => [(0, sli oa n c), (2, I 0), (5, I i), (6, ptr b2), (7, I ((i + 1) % (n : Int))), (24, sli oa n c), (25, I n), (26, I i), (36, sli oa n c), (37, I n), (38, I j)]) (fun j => (b2, blk [I z.x, I z.y] 36) :: H) (fun j => (0 ≤ j ∧ j ≤ n) ∧ FRow f i.toNat j) 0 ⟨⟨by omega, by omega⟩, fun j hj => absurd hj (by omega)⟩ ⟨rfl, rfl, rfl, rfl, rfl, rfl, rfl, rfl, rfl, rfl, rfl, True.intro⟩ (by repeat first | exact .refl _ | refine .cons_cons _ ?_ | refine .cons _ ?_ | exact sl0 _ | refine slA ?_) ?_
        rintro j ⟨⟨hj0, hjn⟩, hrow⟩ IH2
        change VRun _ _ _ _ _ [(0, sli oa n c), (2, I 0), (5, I i), (6, ptr b2), (7, I ((i + 1) % (n : Int))), (24, sli oa n c), (25, I n), (26, I i), (36, sli oa n c), (37, I n), (38, I j)] _ ((b2, blk [I z.x, I z.y] 36) :: H) _
        refine vseq ?_
        refine vregion ?_
        refine vone rfl (vxq (vlss rfl rfl) rfl rfl ?_)
        refine vnil ?_
        refine vseq ?_
        refine vcondd rfl (fun h39 => ?_) (fun h39 => ?_)
        · skip
          obtain ⟨zj, hzj⟩ := get_of_lt f (i := j.toNat) (by omega)
          refine vskip ?_
          refine vseq ?_
          refine vblock ?_
          refine vseq ?_
          refine vregion ?_
          refine vone rfl (vxq (vmv rfl) rfl rfl ?_)
          refine vone rfl (vxq (visg (enc := encP) rfl rfl (by omega) hzj) rfl rfl ?_)
          refine vone rfl (vxq (vldS (enc := encP) rfl hzj) rfl rfl ?_)
          refine vone rfl (vxa valloc rfl rfl (fun b3 => ?_))
          refine vone rfl (vxq (vas rfl) rfl rfl ?_)
          refine vone rfl (vxs (vstn rfl rfl rfl rfl rfl) rfl ?_)
          refine vnil ?_
          refine vseq ?_
          refine vdraw0 [(.q, 0), (.q, 1), (.q, 2), (.q, 3), (.q, 4), (.q, 5), (.q, 6), (.q, 7), (.q, 8), (.q, 9), (.q, 10), (.q, 11), (.q, 12), (.q, 13), (.q, 14), (.q, 15), (.q, 16), (.q, 17)] Try.mixed (by kernel_rfl) (by kernel_rfl) ?_
          refine vdq (mone rfl) (vmv rfl) rfl rfl ?_
          refine vdq (mone rfl) (vmv rfl) rfl rfl ?_
          refine vdq (mone rfl) (vneq rfl rfl) rfl rfl ?_
          refine vdq (mone rfl) (vmv rfl) rfl rfl ?_
          refine vdsplitd (d := 46) rfl (fun h46 => ?_) (fun h46 => ?_)
          · skip
            refine vdq (myes rfl rfl rfl) (vmv rfl) rfl rfl ?_
            refine vdq (myes rfl rfl rfl) (vmv rfl) rfl rfl ?_
            refine vdq (myes rfl rfl rfl) (vneq rfl rfl) rfl rfl ?_
            refine vdq (mone rfl) (vpkt rfl rfl) rfl rfl ?_
            refine vdq (mone rfl) (vmv rfl) rfl rfl ?_
            refine vdsplitd (d := 51) rfl (fun h51 => ?_) (fun h51 => ?_)
            · skip
              refine vdq (myes rfl rfl rfl) (vldn rfl rfl) rfl rfl ?_
              refine vdq (myes rfl rfl rfl) (vmv rfl) rfl rfl ?_
              refine vdq (myes rfl rfl rfl) (vmv rfl) rfl rfl ?_
              refine vdq (myes rfl rfl rfl) (visg (enc := encP) rfl rfl hmb hzk) rfl rfl ?_
              refine vdq (myes rfl rfl rfl) (vldS (enc := encP) rfl hzk) rfl rfl ?_
              refine vdq (myes rfl rfl rfl) (vldn rfl rfl) rfl rfl ?_
              refine vdq (myes rfl rfl rfl) (vcp rfl rfl rfl (c_left z zk zj (hsmF _ (List.mem_of_getElem? hz)) (hsmF _ (List.mem_of_getElem? hzk)) (hsmF _ (List.mem_of_getElem? hzj)))) rfl rfl ?_
              refine vdq (myes rfl rfl rfl) (vleq rfl rfl) rfl rfl ?_
              refine vdq (mone rfl) (vpkt rfl rfl) rfl rfl ?_
              refine vdend rfl ?_
              refine vcondd rfl (fun h60 => ?_) (fun h60 => ?_)
              · skip
                refine vseq ?_
                refine vregion ?_
                refine vone rfl (vxq (vas rfl) rfl rfl ?_)
                refine vnil ?_
                refine vret (vr1 (H' := H) Try.func44 rfl (.tmp rfl) (by repeat first | exact .refl _ | refine .cons_cons _ ?_ | refine .cons _ ?_ | exact sl0 _ | refine slA ?_) ?_)
                first | exact ⟨oI (chkF_no (fun h => by have := h.1; omega)).symm, rfl⟩ | exact ⟨oI (chkF_no (fun h => (chkP_nz.1 h22) (h.2.1 z (List.mem_of_getElem? hz)))).symm, rfl⟩ | exact ⟨oI (chkF_ok (field_of (by omega) hokF hrows (by omega))).symm, rfl⟩ | exact ⟨oI (chkF_no (field_bad (i := i.toNat) (j := j.toNat) (by omega) (by omega) (by omega) (fun e => (show j ≠ ((i + 1) % (n : Int)) by omega) (by rw [← nxt_int hn hi0] at e; omega)) (by rw [← nxt_int hn hi0, atP_of hz, atP_of hzk, atP_of hzj]; exact h60))).symm, rfl⟩
              · skip
                refine vskip ?_
                refine vinblock ?_
                refine vregion ?_
                refine vone rfl (vxq (vadd rfl rfl (by unfold InR; omega)) rfl rfl ?_)
                refine vone rfl (vxq (vmv rfl) rfl rfl ?_)
                refine vnil ?_
                exact vback (IH2 (j + 1) ⟨⟨by omega, by omega⟩, hrow.next hj0 (fun n1 n2 => by
                    first
                    | exact absurd (show j.toNat = i.toNat by omega) n1
                    | exact absurd (by rw [← nxt_int hn hi0]; exact congrArg Int.toNat (show j = ((i + 1) % (n : Int)) by omega)) n2
                    | (have hlt := Int.not_le.1 h60
                       rw [← atP_of hz, ← atP_of hzk, ← atP_of hzj, nxt_int hn hi0] at hlt; exact hlt))⟩ (by show (_ : Int).toNat < (_ : Int).toNat; omega)) ⟨rfl, rfl, rfl, rfl, rfl, rfl, rfl, rfl, rfl, rfl, rfl, True.intro⟩ (by repeat first | exact .refl _ | refine .cons_cons _ ?_ | refine .cons _ ?_ | exact sl0 _ | refine slA ?_)
            · skip
              refine vdno rfl rfl rfl rfl rfl ?_
              refine vdno rfl rfl rfl rfl rfl ?_
              refine vdno rfl rfl rfl rfl rfl ?_
              refine vdno rfl rfl rfl rfl rfl ?_
              refine vdno rfl rfl rfl rfl rfl ?_
              refine vdno rfl rfl rfl rfl rfl ?_
              refine vdno rfl rfl rfl rfl rfl ?_
              refine vdno rfl rfl rfl rfl rfl ?_
              refine vdq (mone rfl) (vpkf rfl rfl) rfl rfl ?_
              refine vdend rfl ?_
              refine vcondf rfl ?_
              refine vskip ?_
              refine vinblock ?_
              refine vregion ?_
              refine vone rfl (vxq (vadd rfl rfl (by unfold InR; omega)) rfl rfl ?_)
              refine vone rfl (vxq (vmv rfl) rfl rfl ?_)
              refine vnil ?_
              exact vback (IH2 (j + 1) ⟨⟨by omega, by omega⟩, hrow.next hj0 (fun n1 n2 => by
                  first
                  | exact absurd (show j.toNat = i.toNat by omega) n1
                  | exact absurd (by rw [← nxt_int hn hi0]; exact congrArg Int.toNat (show j = ((i + 1) % (n : Int)) by omega)) n2
                  | (have hlt := Int.not_le.1 h60
                     rw [← atP_of hz, ← atP_of hzk, ← atP_of hzj, nxt_int hn hi0] at hlt; exact hlt))⟩ (by show (_ : Int).toNat < (_ : Int).toNat; omega)) ⟨rfl, rfl, rfl, rfl, rfl, rfl, rfl, rfl, rfl, rfl, rfl, True.intro⟩ (by repeat first | exact .refl _ | refine .cons_cons _ ?_ | refine .cons _ ?_ | exact sl0 _ | refine slA ?_)
          · skip
            refine vdno rfl rfl rfl rfl rfl ?_
            refine vdno rfl rfl rfl rfl rfl ?_
            refine vdno rfl rfl rfl rfl rfl ?_
            refine vdq (mone rfl) (vpkf rfl rfl) rfl rfl ?_
            refine vdq (mone rfl) (vmv rfl) rfl rfl ?_
            refine vdno rfl rfl rfl rfl rfl ?_
            refine vdno rfl rfl rfl rfl rfl ?_
            refine vdno rfl rfl rfl rfl rfl ?_
            refine vdno rfl rfl rfl rfl rfl ?_
            refine vdno rfl rfl rfl rfl rfl ?_
            refine vdno rfl rfl rfl rfl rfl ?_
            refine vdno rfl rfl rfl rfl rfl ?_
            refine vdno rfl rfl rfl rfl rfl ?_
            refine vdq (mone rfl) (vpkf rfl rfl) rfl rfl ?_
            refine vdend rfl ?_
            refine vcondf rfl ?_
            refine vskip ?_
            refine vinblock ?_
            refine vregion ?_
            refine vone rfl (vxq (vadd rfl rfl (by unfold InR; omega)) rfl rfl ?_)
            refine vone rfl (vxq (vmv rfl) rfl rfl ?_)
            refine vnil ?_
            exact vback (IH2 (j + 1) ⟨⟨by omega, by omega⟩, hrow.next hj0 (fun n1 n2 => by
                first
                | exact absurd (show j.toNat = i.toNat by omega) n1
                | exact absurd (by rw [← nxt_int hn hi0]; exact congrArg Int.toNat (show j = ((i + 1) % (n : Int)) by omega)) n2
                | (have hlt := Int.not_le.1 h60
                   rw [← atP_of hz, ← atP_of hzk, ← atP_of hzj, nxt_int hn hi0] at hlt; exact hlt))⟩ (by show (_ : Int).toNat < (_ : Int).toNat; omega)) ⟨rfl, rfl, rfl, rfl, rfl, rfl, rfl, rfl, rfl, rfl, rfl, True.intro⟩ (by repeat first | exact .refl _ | refine .cons_cons _ ?_ | refine .cons _ ?_ | exact sl0 _ | refine slA ?_)
        · skip
          refine vexit (k' := _) rfl ?_
          refine vinblock ?_
          refine vregion ?_
          refine vone rfl (vxq (vadd rfl rfl (by unfold InR; omega)) rfl rfl ?_)
          refine vone rfl (vxq (vmv rfl) rfl rfl ?_)
          refine vnil ?_
          exact vback (IH (i + 1) ⟨⟨by omega, by omega⟩, hrows.next hi0 (fun j hj hl h1 h2 => hrow j (by omega) hl h1 h2)⟩ (by show (_ : Int).toNat < (_ : Int).toNat; omega)) ⟨rfl, rfl, rfl, rfl, rfl, True.intro⟩ (by repeat first | exact .refl _ | refine .cons_cons _ ?_ | refine .cons _ ?_ | exact sl0 _ | refine slA ?_)
      · skip
        refine vexit (k' := _) rfl ?_
        refine vseq ?_
        refine vregion ?_
        refine vone rfl (vxq (vas rfl) rfl rfl ?_)
        refine vnil ?_
        refine vret (vr1 (H' := H) Try.func44 rfl (.tmp rfl) (by repeat first | exact .refl _ | refine .cons_cons _ ?_ | refine .cons _ ?_ | exact sl0 _ | refine slA ?_) ?_)
        first | exact ⟨oI (chkF_no (fun h => by have := h.1; omega)).symm, rfl⟩ | exact ⟨oI (chkF_no (fun h => (chkP_nz.1 h22) (h.2.1 z (List.mem_of_getElem? hz)))).symm, rfl⟩ | exact ⟨oI (chkF_ok (field_of (by omega) hokF hrows (by omega))).symm, rfl⟩ | exact ⟨oI (chkF_no (field_bad (i := i.toNat) (j := j.toNat) (by omega) (by omega) (by omega) (fun e => (show j ≠ ((i + 1) % (n : Int)) by omega) (by rw [← nxt_int hn hi0] at e; omega)) (by rw [← nxt_int hn hi0, atP_of hz, atP_of hzk, atP_of hzj]; exact h60))).symm, rfl⟩
/-- paravane/paravaneref01.CheckField -/
theorem q_ref_CheckField (f : List Pt) (oa : Option Addr) (n c : Nat) (hn : f.length = n) (hmax : n ≤ 9223372036854775807) (H : Heap) [SlO H oa 2 encP f] : VHas Try.prog 45 [sli oa n c] (I (chkF f)) H H := by
  refine vcall_of_vrun Try.func45 rfl (N := 64) rfl rfl ?_
  refine vseq ?_
  refine vregion ?_
  refine vone rfl (vxq (vas rfl) rfl rfl ?_)
  refine vnil ?_
  refine vseq ?_
  refine vseq ?_
  refine vregion ?_
  refine vone rfl (vxq (vmv rfl) rfl rfl ?_)
  refine vone rfl (vxq (vlen rfl) rfl rfl ?_)
  refine vone rfl (vxq (vcp rfl rfl rfl (c_ref00_Between _ _ _)) rfl rfl ?_)
  refine vone rfl (vxq (vnotd rfl) rfl rfl ?_)
  refine vnil ?_
  refine vcondd rfl (fun h10 => ?_) (fun h10 => ?_)
  · skip
    refine vseq ?_
    refine vregion ?_
    refine vone rfl (vxq (vas rfl) rfl rfl ?_)
    refine vnil ?_
    refine vret (vr1 (H' := H) Try.func45 rfl (.tmp rfl) (by repeat first | exact .refl _ | refine .cons_cons _ ?_ | refine .cons _ ?_ | exact sl0 _ | refine slA ?_) ?_)
    first | exact ⟨oI (chkF_no (fun h => by have := h.1; omega)).symm, rfl⟩ | exact ⟨oI (chkF_no (fun h => h22 (h.2.1 z (List.mem_of_getElem? hz)))).symm, rfl⟩ | exact ⟨oI (chkF_ok (field_of (by omega) hokF hrows (by omega))).symm, rfl⟩ | exact ⟨oI (chkF_no (field_bad (i := i.toNat) (j := j.toNat) (by omega) (by omega) (by omega) (fun e => (show j ≠ ((i + 1) % (n : Int)) by omega) (by rw [← nxt_int hn hi0] at e; omega)) (by rw [← nxt_int hn hi0, atP_of hz, atP_of hzk, atP_of hzj]; exact h63))).symm, rfl⟩
  · skip
    refine vskip ?_
    refine vseq ?_
    refine vseq ?_
    refine vregion ?_
    refine vone rfl (vxq (vas rfl) rfl rfl ?_)
    refine vnil ?_
    refine vblock ?_
    refine vwhile (σ := Int) (fun i => (n - i).toNat) (fun i => [(0, sli oa n c), (2, I 0), (3, I i)]) (fun i => H) (fun i => (0 ≤ i ∧ i ≤ n) ∧ ∀ p ∈ f.take i.toNat, p.ok) 0 ⟨⟨by omega, by omega⟩, fun p hp => by simp at hp⟩ ⟨rfl, rfl, rfl, True.intro⟩ (by repeat first | exact .refl _ | refine .cons_cons _ ?_ | refine .cons _ ?_ | exact sl0 _ | refine slA ?_) ?_
    rintro i ⟨⟨hi0, hin⟩, hok⟩ IH
    change VRun _ _ _ _ _ [(0, sli oa n c), (2, I 0), (3, I i)] _ (H) _
    refine vseq ?_
    refine vseq ?_
    refine vregion ?_
    refine vone rfl (vxq (vmv rfl) rfl rfl ?_)
    refine vone rfl (vxq (vmv rfl) rfl rfl ?_)
    refine vone rfl (vxq (vlen rfl) rfl rfl ?_)
    refine vone rfl (vxq (vlss rfl rfl) rfl rfl ?_)
    refine vnil ?_
    refine vcondd rfl (fun h14 => ?_) (fun h14 => ?_)
    · skip
      obtain ⟨z, hz⟩ := get_of_lt f (i := i.toNat) (by omega)
      refine vskip ?_
      refine vseq ?_
      refine vblock ?_
      refine vseq ?_
      refine vregion ?_
      refine vone rfl (vxq (vmv rfl) rfl rfl ?_)
      refine vone rfl (vxq (vmv rfl) rfl rfl ?_)
      refine vone rfl (vxq (visg (enc := encP) rfl rfl (by omega) hz) rfl rfl ?_)
      refine vone rfl (vxq (vldS (enc := encP) rfl hz) rfl rfl ?_)
      refine vone rfl (vxq (vcp rfl rfl rfl (c_place z)) rfl rfl ?_)
      refine vone rfl (vxq (vnotd rfl) rfl rfl ?_)
      refine vnil ?_
      refine vcondd rfl (fun h22 => ?_) (fun h22 => ?_)
      · skip
        refine vseq ?_
        refine vregion ?_
        refine vone rfl (vxq (vas rfl) rfl rfl ?_)
        refine vnil ?_
        refine vret (vr1 (H' := H) Try.func45 rfl (.tmp rfl) (by repeat first | exact .refl _ | refine .cons_cons _ ?_ | refine .cons _ ?_ | exact sl0 _ | refine slA ?_) ?_)
        first | exact ⟨oI (chkF_no (fun h => by have := h.1; omega)).symm, rfl⟩ | exact ⟨oI (chkF_no (fun h => h22 (h.2.1 z (List.mem_of_getElem? hz)))).symm, rfl⟩ | exact ⟨oI (chkF_ok (field_of (by omega) hokF hrows (by omega))).symm, rfl⟩ | exact ⟨oI (chkF_no (field_bad (i := i.toNat) (j := j.toNat) (by omega) (by omega) (by omega) (fun e => (show j ≠ ((i + 1) % (n : Int)) by omega) (by rw [← nxt_int hn hi0] at e; omega)) (by rw [← nxt_int hn hi0, atP_of hz, atP_of hzk, atP_of hzj]; exact h63))).symm, rfl⟩
      · skip
        refine vskip ?_
        refine vinblock ?_
        refine vregion ?_
        refine vone rfl (vxq (vmv rfl) rfl rfl ?_)
        refine vone rfl (vxq (vadd rfl rfl (by unfold InR; omega)) rfl rfl ?_)
        refine vone rfl (vxq (vas rfl) rfl rfl ?_)
        refine vnil ?_
        exact vback (IH (i + 1) ⟨⟨by omega, by omega⟩, take_next hi0 hz hok (nn2 h22)⟩ (by show (_ : Int).toNat < (_ : Int).toNat; omega)) ⟨rfl, rfl, rfl, True.intro⟩ (by repeat first | exact .refl _ | refine .cons_cons _ ?_ | refine .cons _ ?_ | exact sl0 _ | refine slA ?_)
    · skip
      have hokF := take_all hn h14 hok
      have hsmF := okL_sm hokF
      refine vexit (k' := _) rfl ?_
      refine vseq ?_
      refine vseq ?_
      refine vregion ?_
      refine vone rfl (vxq (vas rfl) rfl rfl ?_)
      refine vnil ?_
      refine vblock ?_
      refine vwhile (σ := Int) (fun i => (n - i).toNat) (fun i => [(0, sli oa n c), (2, I 0), (4, I i)]) (fun i => H) (fun i => (0 ≤ i ∧ i ≤ n) ∧ FRows f i) 0 ⟨⟨by omega, by omega⟩, fun i hi => absurd hi (by omega)⟩ ⟨rfl, rfl, rfl, True.intro⟩ (by repeat first | exact .refl _ | refine .cons_cons _ ?_ | refine .cons _ ?_ | exact sl0 _ | refine slA ?_) ?_
      rintro i ⟨⟨hi0, hin⟩, hrows⟩ IH
      change VRun _ _ _ _ _ [(0, sli oa n c), (2, I 0), (4, I i)] _ (H) _
      refine vseq ?_
      refine vseq ?_
      refine vregion ?_
      refine vone rfl (vxq (vmv rfl) rfl rfl ?_)
      refine vone rfl (vxq (vmv rfl) rfl rfl ?_)
      refine vone rfl (vxq (vlen rfl) rfl rfl ?_)
      refine vone rfl (vxq (vlss rfl rfl) rfl rfl ?_)
      refine vnil ?_
      refine vcondd rfl (fun h26 => ?_) (fun h26 => ?_)
      · skip
        obtain ⟨z, hz⟩ := get_of_lt f (i := i.toNat) (by omega)
        have hmb := mod_bd (i := i + 1) (n := n) (by omega)
        obtain ⟨zk, hzk⟩ := get_of_lt f (i := ((i + 1) % (n : Int)).toNat) (by omega)
        refine vskip ?_
        refine vseq ?_
        refine vblock ?_
        refine vseq ?_
        refine vregion ?_
        refine vone rfl (vxq (vmv rfl) rfl rfl ?_)
        refine vone rfl (vxq (vadd rfl rfl (by unfold InR; omega)) rfl rfl ?_)
        refine vone rfl (vxq (vmv rfl) rfl rfl ?_)
        refine vone rfl (vxq (vlen rfl) rfl rfl ?_)
        refine vone rfl (vxq (vremp rfl rfl (by omega) (by omega)) rfl rfl ?_)
        refine vone rfl (vxq (vas rfl) rfl rfl ?_)
        refine vnil ?_
        refine vseq ?_
        refine vregion ?_
        refine vone rfl (vxq (vas rfl) rfl rfl ?_)
        refine vnil ?_
        refine vblock ?_
        refine vwhile (σ := Int) (fun j => (n - j).toNat) (fun j => [(0, sli oa n c), (2, I 0), (4, I i), (5, I ((i + 1) % (n : Int))), (6, I j)]) (fun j => H) (fun j => (0 ≤ j ∧ j ≤ n) ∧ FRow f i.toNat j) 0 ⟨⟨by omega, by omega⟩, fun j hj => absurd hj (by omega)⟩ ⟨rfl, rfl, rfl, rfl, rfl, True.intro⟩ (by repeat first | exact .refl _ | refine .cons_cons _ ?_ | refine .cons _ ?_ | exact sl0 _ | refine slA ?_) ?_
        rintro j ⟨⟨hj0, hjn⟩, hrow⟩ IH2
        change VRun _ _ _ _ _ [(0, sli oa n c), (2, I 0), (4, I i), (5, I ((i + 1) % (n : Int))), (6, I j)] _ (H) _
        refine vseq ?_
        refine vseq ?_
        refine vregion ?_
        refine vone rfl (vxq (vmv rfl) rfl rfl ?_)
        refine vone rfl (vxq (vmv rfl) rfl rfl ?_)
        refine vone rfl (vxq (vlen rfl) rfl rfl ?_)
        refine vone rfl (vxq (vlss rfl rfl) rfl rfl ?_)
        refine vnil ?_
        refine vcondd rfl (fun h37 => ?_) (fun h37 => ?_)
        · skip
          obtain ⟨zj, hzj⟩ := get_of_lt f (i := j.toNat) (by omega)
          refine vskip ?_
          refine vseq ?_
          refine vblock ?_
          refine vseq ?_
          refine vdraw0 [(.q, 0), (.q, 1), (.q, 2), (.q, 3), (.q, 4), (.q, 5), (.q, 6), (.q, 7), (.q, 8), (.q, 9), (.q, 10), (.q, 11), (.q, 12), (.q, 13), (.q, 14), (.q, 15), (.q, 16), (.q, 17), (.q, 18), (.q, 19), (.q, 20), (.q, 21), (.q, 22), (.q, 23)] Try.mixed (by kernel_rfl) (by kernel_rfl) ?_
          refine vdq (mone rfl) (vmv rfl) rfl rfl ?_
          refine vdq (mone rfl) (vmv rfl) rfl rfl ?_
          refine vdq (mone rfl) (vneq rfl rfl) rfl rfl ?_
          refine vdq (mone rfl) (vmv rfl) rfl rfl ?_
          refine vdsplitd (d := 43) rfl (fun h43 => ?_) (fun h43 => ?_)
          · skip
            refine vdq (myes rfl rfl rfl) (vmv rfl) rfl rfl ?_
            refine vdq (myes rfl rfl rfl) (vmv rfl) rfl rfl ?_
            refine vdq (myes rfl rfl rfl) (vneq rfl rfl) rfl rfl ?_
            refine vdq (mone rfl) (vpkt rfl rfl) rfl rfl ?_
            refine vdq (mone rfl) (vmv rfl) rfl rfl ?_
            refine vdsplitd (d := 48) rfl (fun h48 => ?_) (fun h48 => ?_)
            · skip
              refine vdq (myes rfl rfl rfl) (vmv rfl) rfl rfl ?_
              refine vdq (myes rfl rfl rfl) (vmv rfl) rfl rfl ?_
              refine vdq (myes rfl rfl rfl) (visg (enc := encP) rfl rfl (by omega) hz) rfl rfl ?_
              refine vdq (myes rfl rfl rfl) (vldS (enc := encP) rfl hz) rfl rfl ?_
              refine vdq (myes rfl rfl rfl) (vmv rfl) rfl rfl ?_
              refine vdq (myes rfl rfl rfl) (vmv rfl) rfl rfl ?_
              refine vdq (myes rfl rfl rfl) (visg (enc := encP) rfl rfl hmb hzk) rfl rfl ?_
              refine vdq (myes rfl rfl rfl) (vldS (enc := encP) rfl hzk) rfl rfl ?_
              refine vdq (myes rfl rfl rfl) (vmv rfl) rfl rfl ?_
              refine vdq (myes rfl rfl rfl) (vmv rfl) rfl rfl ?_
              refine vdq (myes rfl rfl rfl) (visg (enc := encP) rfl rfl (by omega) hzj) rfl rfl ?_
              refine vdq (myes rfl rfl rfl) (vldS (enc := encP) rfl hzj) rfl rfl ?_
              refine vdq (myes rfl rfl rfl) (vcp rfl rfl rfl (c_turn z zk zj (hsmF _ (List.mem_of_getElem? hz)) (hsmF _ (List.mem_of_getElem? hzk)) (hsmF _ (List.mem_of_getElem? hzj)))) rfl rfl ?_
              refine vdq (myes rfl rfl rfl) (vleq rfl rfl) rfl rfl ?_
              refine vdq (mone rfl) (vpkt rfl rfl) rfl rfl ?_
              refine vdend rfl ?_
              refine vcondd rfl (fun h63 => ?_) (fun h63 => ?_)
              · skip
                refine vseq ?_
                refine vregion ?_
                refine vone rfl (vxq (vas rfl) rfl rfl ?_)
                refine vnil ?_
                refine vret (vr1 (H' := H) Try.func45 rfl (.tmp rfl) (by repeat first | exact .refl _ | refine .cons_cons _ ?_ | refine .cons _ ?_ | exact sl0 _ | refine slA ?_) ?_)
                first | exact ⟨oI (chkF_no (fun h => by have := h.1; omega)).symm, rfl⟩ | exact ⟨oI (chkF_no (fun h => h22 (h.2.1 z (List.mem_of_getElem? hz)))).symm, rfl⟩ | exact ⟨oI (chkF_ok (field_of (by omega) hokF hrows (by omega))).symm, rfl⟩ | exact ⟨oI (chkF_no (field_bad (i := i.toNat) (j := j.toNat) (by omega) (by omega) (by omega) (fun e => (show j ≠ ((i + 1) % (n : Int)) by omega) (by rw [← nxt_int hn hi0] at e; omega)) (by rw [← nxt_int hn hi0, atP_of hz, atP_of hzk, atP_of hzj]; exact h63))).symm, rfl⟩
              · skip
                refine vskip ?_
                refine vinblock ?_
                refine vregion ?_
                refine vone rfl (vxq (vmv rfl) rfl rfl ?_)
                refine vone rfl (vxq (vadd rfl rfl (by unfold InR; omega)) rfl rfl ?_)
                refine vone rfl (vxq (vas rfl) rfl rfl ?_)
                refine vnil ?_
                exact vback (IH2 (j + 1) ⟨⟨by omega, by omega⟩, hrow.next hj0 (fun n1 n2 => by
                    first
                    | exact absurd (show j.toNat = i.toNat by omega) n1
                    | exact absurd (by rw [← nxt_int hn hi0]; exact congrArg Int.toNat (show j = ((i + 1) % (n : Int)) by omega)) n2
                    | (have hlt := Int.not_le.1 h63
                       rw [← atP_of hz, ← atP_of hzk, ← atP_of hzj, nxt_int hn hi0] at hlt; exact hlt))⟩ (by show (_ : Int).toNat < (_ : Int).toNat; omega)) ⟨rfl, rfl, rfl, rfl, rfl, True.intro⟩ (by repeat first | exact .refl _ | refine .cons_cons _ ?_ | refine .cons _ ?_ | exact sl0 _ | refine slA ?_)
            · skip
              refine vdno rfl rfl rfl rfl rfl ?_
              refine vdno rfl rfl rfl rfl rfl ?_
              refine vdno rfl rfl rfl rfl rfl ?_
              refine vdno rfl rfl rfl rfl rfl ?_
              refine vdno rfl rfl rfl rfl rfl ?_
              refine vdno rfl rfl rfl rfl rfl ?_
              refine vdno rfl rfl rfl rfl rfl ?_
              refine vdno rfl rfl rfl rfl rfl ?_
              refine vdno rfl rfl rfl rfl rfl ?_
              refine vdno rfl rfl rfl rfl rfl ?_
              refine vdno rfl rfl rfl rfl rfl ?_
              refine vdno rfl rfl rfl rfl rfl ?_
              refine vdno rfl rfl rfl rfl rfl ?_
              refine vdno rfl rfl rfl rfl rfl ?_
              refine vdq (mone rfl) (vpkf rfl rfl) rfl rfl ?_
              refine vdend rfl ?_
              refine vcondf rfl ?_
              refine vskip ?_
              refine vinblock ?_
              refine vregion ?_
              refine vone rfl (vxq (vmv rfl) rfl rfl ?_)
              refine vone rfl (vxq (vadd rfl rfl (by unfold InR; omega)) rfl rfl ?_)
              refine vone rfl (vxq (vas rfl) rfl rfl ?_)
              refine vnil ?_
              exact vback (IH2 (j + 1) ⟨⟨by omega, by omega⟩, hrow.next hj0 (fun n1 n2 => by
                  first
                  | exact absurd (show j.toNat = i.toNat by omega) n1
                  | exact absurd (by rw [← nxt_int hn hi0]; exact congrArg Int.toNat (show j = ((i + 1) % (n : Int)) by omega)) n2
                  | (have hlt := Int.not_le.1 h63
                     rw [← atP_of hz, ← atP_of hzk, ← atP_of hzj, nxt_int hn hi0] at hlt; exact hlt))⟩ (by show (_ : Int).toNat < (_ : Int).toNat; omega)) ⟨rfl, rfl, rfl, rfl, rfl, True.intro⟩ (by repeat first | exact .refl _ | refine .cons_cons _ ?_ | refine .cons _ ?_ | exact sl0 _ | refine slA ?_)
          · skip
            refine vdno rfl rfl rfl rfl rfl ?_
            refine vdno rfl rfl rfl rfl rfl ?_
            refine vdno rfl rfl rfl rfl rfl ?_
            refine vdq (mone rfl) (vpkf rfl rfl) rfl rfl ?_
            refine vdq (mone rfl) (vmv rfl) rfl rfl ?_
            refine vdno rfl rfl rfl rfl rfl ?_
            refine vdno rfl rfl rfl rfl rfl ?_
            refine vdno rfl rfl rfl rfl rfl ?_
            refine vdno rfl rfl rfl rfl rfl ?_
            refine vdno rfl rfl rfl rfl rfl ?_
            refine vdno rfl rfl rfl rfl rfl ?_
            refine vdno rfl rfl rfl rfl rfl ?_
            refine vdno rfl rfl rfl rfl rfl ?_
            refine vdno rfl rfl rfl rfl rfl ?_
            refine vdno rfl rfl rfl rfl rfl ?_
            refine vdno rfl rfl rfl rfl rfl ?_
            refine vdno rfl rfl rfl rfl rfl ?_
            refine vdno rfl rfl rfl rfl rfl ?_
            refine vdno rfl rfl rfl rfl rfl ?_
            refine vdq (mone rfl) (vpkf rfl rfl) rfl rfl ?_
            refine vdend rfl ?_
            refine vcondf rfl ?_
            refine vskip ?_
            refine vinblock ?_
            refine vregion ?_
            refine vone rfl (vxq (vmv rfl) rfl rfl ?_)
            refine vone rfl (vxq (vadd rfl rfl (by unfold InR; omega)) rfl rfl ?_)
            refine vone rfl (vxq (vas rfl) rfl rfl ?_)
            refine vnil ?_
            exact vback (IH2 (j + 1) ⟨⟨by omega, by omega⟩, hrow.next hj0 (fun n1 n2 => by
                first
                | exact absurd (show j.toNat = i.toNat by omega) n1
                | exact absurd (by rw [← nxt_int hn hi0]; exact congrArg Int.toNat (show j = ((i + 1) % (n : Int)) by omega)) n2
                | (have hlt := Int.not_le.1 h63
                   rw [← atP_of hz, ← atP_of hzk, ← atP_of hzj, nxt_int hn hi0] at hlt; exact hlt))⟩ (by show (_ : Int).toNat < (_ : Int).toNat; omega)) ⟨rfl, rfl, rfl, rfl, rfl, True.intro⟩ (by repeat first | exact .refl _ | refine .cons_cons _ ?_ | refine .cons _ ?_ | exact sl0 _ | refine slA ?_)
        · skip
          refine vexit (k' := _) rfl ?_
          refine vinblock ?_
          refine vregion ?_
          refine vone rfl (vxq (vmv rfl) rfl rfl ?_)
          refine vone rfl (vxq (vadd rfl rfl (by unfold InR; omega)) rfl rfl ?_)
          refine vone rfl (vxq (vas rfl) rfl rfl ?_)
          refine vnil ?_
          exact vback (IH (i + 1) ⟨⟨by omega, by omega⟩, hrows.next hi0 (fun j hj hl h1 h2 => hrow j (by omega) hl h1 h2)⟩ (by show (_ : Int).toNat < (_ : Int).toNat; omega)) ⟨rfl, rfl, rfl, True.intro⟩ (by repeat first | exact .refl _ | refine .cons_cons _ ?_ | refine .cons _ ?_ | exact sl0 _ | refine slA ?_)
      · skip
        refine vexit (k' := _) rfl ?_
        refine vseq ?_
        refine vregion ?_
        refine vone rfl (vxq (vas rfl) rfl rfl ?_)
        refine vnil ?_
        refine vret (vr1 (H' := H) Try.func45 rfl (.tmp rfl) (by repeat first | exact .refl _ | refine .cons_cons _ ?_ | refine .cons _ ?_ | exact sl0 _ | refine slA ?_) ?_)
        first | exact ⟨oI (chkF_no (fun h => by have := h.1; omega)).symm, rfl⟩ | exact ⟨oI (chkF_no (fun h => h22 (h.2.1 z (List.mem_of_getElem? hz)))).symm, rfl⟩ | exact ⟨oI (chkF_ok (field_of (by omega) hokF hrows (by omega))).symm, rfl⟩ | exact ⟨oI (chkF_no (field_bad (i := i.toNat) (j := j.toNat) (by omega) (by omega) (by omega) (fun e => (show j ≠ ((i + 1) % (n : Int)) by omega) (by rw [← nxt_int hn hi0] at e; omega)) (by rw [← nxt_int hn hi0, atP_of hz, atP_of hzk, atP_of hzj]; exact h63))).symm, rfl⟩

theorem ok_F {f : List Pt} (h : ¬ chkF f ≠ 0) : FieldOk f := chkF_zero.1 (nn h)
theorem smF {f : List Pt} (h : FieldOk f) : ∀ q ∈ f, q.sm 1048576 := okL_sm h.2.1
theorem inE_12 {f : List Pt} {p : Pt} (h : ¬ FieldOk f) : inE f p = (false, 12) := if_neg (fun e => h (fieldB_iff.1 e))
theorem inE_10 {f : List Pt} {p : Pt} (h : FieldOk f) (hp : ¬ p.ok) : inE f p = (false, 10) := by rw [inE, if_pos (fieldB_iff.2 h), if_neg hp]
theorem inE_0 {f : List Pt} {p : Pt} (h : FieldOk f) (hp : p.ok) : inE f p = (inF f p, 0) := by rw [inE, if_pos (fieldB_iff.2 h), if_pos hp]
theorem fst2F_z {a b : Int} (h : ¬ fst2 a b ≠ 0) : a = 0 ∧ b = 0 := by unfold fst2 at h; split at h <;> omega
theorem inE_nz {f : List Pt} {p : Pt} (h : fst2 (chkF f) (chkP p) ≠ 0) : inE f p = (false, fst2 (chkF f) (chkP p)) := by
  unfold fst2 at *
  by_cases hf : FieldOk f
  · rw [chkF_ok hf] at *; simp only [ne_eq, not_true_eq_false, if_false] at *
    rw [inE_10 hf (chkP_nz.1 h), chkP_no (chkP_nz.1 h)]
  · rw [chkF_no hf, inE_12 hf]; rfl

/-- paravane/region.Inside -/
theorem q_Inside (p : Pt) (f : List Pt) (oa : Option Addr) (n c : Nat) (hn : f.length = n) (hmax : n ≤ 9223372036854775807) (H : Heap) [SlO H oa 2 encP f] : VHas Try.prog 42 [sli oa n c, vP p] (tup [.bool (inE f p).1, I (inE f p).2]) H H := by
  refine vcall_of_vrun Try.func42 rfl (N := 19) rfl rfl ?_
  refine vseq ?_
  refine vregion ?_
  refine vone rfl (vxa (vbox rfl rfl) rfl rfl (fun b1 => ?_))
  refine vone rfl (vxq (vas rfl) rfl rfl ?_)
  refine vone rfl (vxq (vas rfl) rfl rfl ?_)
  refine vnil ?_
  refine vseq ?_
  refine vseq ?_
  refine vdraw0 [(.q, 0), (.q, 1), (.q, 2), (.q, 3), (.m, 4), (.n, 5), (.q, 6)] Try.mixed (by kernel_rfl) (by kernel_rfl) ?_
  refine vdq (mone rfl) (vmv rfl) rfl rfl ?_
  refine vdq (mone rfl) (vcq rfl rfl rfl (q_CheckField f oa n c hn hmax _)) rfl rfl ?_
  refine vdq (mone rfl) (vldn rfl rfl) rfl rfl ?_
  refine vdq (mone rfl) (vcp rfl rfl rfl (c_region_CheckPoint p)) rfl rfl ?_
  refine vdm (mone rfl) (vbsP rfl rfl rfl rfl rfl rfl) rfl rfl (fun b2 => ?_)
  refine vdn rfl (mone rfl) (vcq rfl rfl rfl ((h_first2 (chkF f) (chkP p) b2).fr1)) rfl rfl ?_
  refine vdq (mone rfl) (vas rfl) rfl rfl ?_
  refine vdend rfl ?_
  refine vseq ?_
  refine vregion ?_
  refine vone rfl (vxq (vmv rfl) rfl rfl ?_)
  refine vone rfl (vxq (vneq rfl rfl) rfl rfl ?_)
  refine vnil ?_
  refine vcondd rfl (fun h14 => ?_) (fun h14 => ?_)
  · skip
    refine vseq ?_
    refine vregion ?_
    refine vone rfl (vxq (vmv rfl) rfl rfl ?_)
    refine vone rfl (vxq (vas rfl) rfl rfl ?_)
    refine vone rfl (vxq (vas rfl) rfl rfl ?_)
    refine vnil ?_
    refine vret (vr2 (H' := H) Try.func42 rfl (.tmp rfl) (.tmp rfl) (by repeat first | exact .refl _ | refine .cons_cons _ ?_ | refine .cons _ ?_ | exact sl0 _ | refine slA ?_) ?_)
    first | (rw [inE_nz h14]; exact ⟨rfl, rfl⟩) | (rw [inE_0 (chkF_zero.1 (fst2F_z h14).1) (chkP_zero.1 (fst2F_z h14).2)]; exact ⟨rfl, rfl⟩)
  · skip
    refine vskip ?_
    refine vseq ?_
    refine vregion ?_
    refine vone rfl (vxq (vmv rfl) rfl rfl ?_)
    refine vone rfl (vxq (vldn rfl rfl) rfl rfl ?_)
    refine vone rfl (vxq (vcq rfl rfl rfl (q_in p ((chkP_zero.1 (fst2F_z h14).2).sm.mono (by decide)) f oa n c hn hmax _ (smF (chkF_zero.1 (fst2F_z h14).1)))) rfl rfl ?_)
    refine vone rfl (vxq (vas rfl) rfl rfl ?_)
    refine vone rfl (vxq (vas rfl) rfl rfl ?_)
    refine vnil ?_
    refine vret (vr2 (H' := H) Try.func42 rfl (.tmp rfl) (.tmp rfl) (by repeat first | exact .refl _ | refine .cons_cons _ ?_ | refine .cons _ ?_ | exact sl0 _ | refine slA ?_) ?_)
    first | (rw [inE_nz h14]; exact ⟨rfl, rfl⟩) | (rw [inE_0 (chkF_zero.1 (fst2F_z h14).1) (chkP_zero.1 (fst2F_z h14).2)]; exact ⟨rfl, rfl⟩)
/-- paravane/paravaneref01.Inside -/
theorem q_ref_Inside (p : Pt) (f : List Pt) (oa : Option Addr) (n c : Nat) (hn : f.length = n) (hmax : n ≤ 9223372036854775807) (H : Heap) [SlO H oa 2 encP f] : VHas Try.prog 43 [sli oa n c, vP p] (tup [.bool (inE f p).1, I (inE f p).2]) H H := by
  refine vcall_of_vrun Try.func43 rfl (N := 18) rfl rfl ?_
  refine vseq ?_
  refine vregion ?_
  refine vone rfl (vxa (vbox rfl rfl) rfl rfl (fun b1 => ?_))
  refine vone rfl (vxq (vas rfl) rfl rfl ?_)
  refine vone rfl (vxq (vas rfl) rfl rfl ?_)
  refine vnil ?_
  refine vseq ?_
  refine vseq ?_
  refine vregion ?_
  refine vone rfl (vxq (vmv rfl) rfl rfl ?_)
  refine vone rfl (vxq (vcq rfl rfl rfl (q_ref_CheckField f oa n c hn hmax _)) rfl rfl ?_)
  refine vone rfl (vxq (vas rfl) rfl rfl ?_)
  refine vnil ?_
  refine vseq ?_
  refine vregion ?_
  refine vone rfl (vxq (vmv rfl) rfl rfl ?_)
  refine vone rfl (vxq (vneq rfl rfl) rfl rfl ?_)
  refine vnil ?_
  refine vcondd rfl (fun h10 => ?_) (fun h10 => ?_)
  · skip
    refine vseq ?_
    refine vregion ?_
    refine vone rfl (vxq (vmv rfl) rfl rfl ?_)
    refine vone rfl (vxq (vas rfl) rfl rfl ?_)
    refine vone rfl (vxq (vas rfl) rfl rfl ?_)
    refine vnil ?_
    refine vret (vr2 (H' := H) Try.func43 rfl (.tmp rfl) (.tmp rfl) (by repeat first | exact .refl _ | refine .cons_cons _ ?_ | refine .cons _ ?_ | exact sl0 _ | refine slA ?_) ?_)
    first | (rw [inE_12 (chkF_nz.1 h10), chkF_no (chkF_nz.1 h10)]; exact ⟨rfl, rfl⟩) | (rw [inE_10 (ok_F h10) h14]; exact ⟨rfl, rfl⟩) | (rw [inE_0 (ok_F h10) (nn2 h14)]; exact ⟨rfl, rfl⟩)
  · skip
    refine vskip ?_
    refine vseq ?_
    refine vseq ?_
    refine vregion ?_
    refine vone rfl (vxq (vldn rfl rfl) rfl rfl ?_)
    refine vone rfl (vxq (vcp rfl rfl rfl (c_place p)) rfl rfl ?_)
    refine vone rfl (vxq (vnotd rfl) rfl rfl ?_)
    refine vnil ?_
    refine vcondd rfl (fun h14 => ?_) (fun h14 => ?_)
    · skip
      refine vseq ?_
      refine vregion ?_
      refine vone rfl (vxq (vas rfl) rfl rfl ?_)
      refine vone rfl (vxq (vas rfl) rfl rfl ?_)
      refine vnil ?_
      refine vret (vr2 (H' := H) Try.func43 rfl (.tmp rfl) (.tmp rfl) (by repeat first | exact .refl _ | refine .cons_cons _ ?_ | refine .cons _ ?_ | exact sl0 _ | refine slA ?_) ?_)
      first | (rw [inE_12 (chkF_nz.1 h10), chkF_no (chkF_nz.1 h10)]; exact ⟨rfl, rfl⟩) | (rw [inE_10 (ok_F h10) h14]; exact ⟨rfl, rfl⟩) | (rw [inE_0 (ok_F h10) (nn2 h14)]; exact ⟨rfl, rfl⟩)
    · skip
      refine vskip ?_
      refine vseq ?_
      refine vregion ?_
      refine vone rfl (vxq (vmv rfl) rfl rfl ?_)
      refine vone rfl (vxq (vldn rfl rfl) rfl rfl ?_)
      refine vone rfl (vxq (vcq rfl rfl rfl (q_inside p ((nn2 h14).sm.mono (by decide)) f oa n c hn hmax _ (smF (ok_F h10)))) rfl rfl ?_)
      refine vone rfl (vxq (vas rfl) rfl rfl ?_)
      refine vone rfl (vxq (vas rfl) rfl rfl ?_)
      refine vnil ?_
      refine vret (vr2 (H' := H) Try.func43 rfl (.tmp rfl) (.tmp rfl) (by repeat first | exact .refl _ | refine .cons_cons _ ?_ | refine .cons _ ?_ | exact sl0 _ | refine slA ?_) ?_)
      first | (rw [inE_12 (chkF_nz.1 h10), chkF_no (chkF_nz.1 h10)]; exact ⟨rfl, rfl⟩) | (rw [inE_10 (ok_F h10) h14]; exact ⟨rfl, rfl⟩) | (rw [inE_0 (ok_F h10) (nn2 h14)]; exact ⟨rfl, rfl⟩)
/-- paravane/paravaneref01.both -/
theorem q_both (r : Rg) (f : List Pt) (oa : Option Addr) (n c : Nat) (hn : f.length = n) (hmax : n ≤ 9223372036854775807) (H : Heap) [SlO H oa 2 encP f] : VHas Try.prog 124 [sli oa n c, vR r] (I (fst2 (chkF f) (chkR r))) H H := by
  refine vcall_of_vrun Try.func124 rfl (N := 13) rfl rfl ?_
  refine vseq ?_
  refine vregion ?_
  refine vone rfl (vxa (vbox rfl rfl) rfl rfl (fun b1 => ?_))
  refine vone rfl (vxq (vas rfl) rfl rfl ?_)
  refine vnil ?_
  refine vseq ?_
  refine vseq ?_
  refine vregion ?_
  refine vone rfl (vxq (vmv rfl) rfl rfl ?_)
  refine vone rfl (vxq (vcq rfl rfl rfl (q_ref_CheckField f oa n c hn hmax _)) rfl rfl ?_)
  refine vone rfl (vxq (vas rfl) rfl rfl ?_)
  refine vnil ?_
  refine vseq ?_
  refine vregion ?_
  refine vone rfl (vxq (vmv rfl) rfl rfl ?_)
  refine vone rfl (vxq (vneq rfl rfl) rfl rfl ?_)
  refine vnil ?_
  refine vcondd rfl (fun h9 => ?_) (fun h9 => ?_)
  · skip
    refine vseq ?_
    refine vregion ?_
    refine vone rfl (vxq (vmv rfl) rfl rfl ?_)
    refine vone rfl (vxq (vas rfl) rfl rfl ?_)
    refine vnil ?_
    refine vret (vr1 (H' := H) Try.func124 rfl (.tmp rfl) (by repeat first | exact .refl _ | refine .cons_cons _ ?_ | refine .cons _ ?_ | exact sl0 _ | refine slA ?_) ?_)
    first | exact ⟨oI (if_pos h9).symm, rfl⟩ | exact ⟨oI (if_neg h9).symm, rfl⟩
  · skip
    refine vskip ?_
    refine vseq ?_
    refine vregion ?_
    refine vone rfl (vxq (vldn rfl rfl) rfl rfl ?_)
    refine vone rfl (vxq (vcp rfl rfl rfl (c_ref_Check r)) rfl rfl ?_)
    refine vone rfl (vxq (vas rfl) rfl rfl ?_)
    refine vnil ?_
    refine vret (vr1 (H' := H) Try.func124 rfl (.tmp rfl) (by repeat first | exact .refl _ | refine .cons_cons _ ?_ | refine .cons _ ?_ | exact sl0 _ | refine slA ?_) ?_)
    first | exact ⟨oI (if_pos h9).symm, rfl⟩ | exact ⟨oI (if_neg h9).symm, rfl⟩

theorem covE_12 {f : List Pt} {r : Rg} (h : ¬ FieldOk f) : coversE f r = (false, 12) := if_neg (fun e => h (fieldB_iff.1 e))
theorem covE_nz {f : List Pt} {r : Rg} (h : fst2 (chkF f) (chkR r) ≠ 0) : coversE f r = (false, fst2 (chkF f) (chkR r)) := by
  unfold fst2 at *
  by_cases hf : FieldOk f
  · rw [chkF_ok hf] at *; simp only [ne_eq, not_true_eq_false, if_false] at *
    rw [coversE, if_pos (fieldB_iff.2 hf), if_neg (chkR_nz.1 h), chkR_no (chkR_nz.1 h)]
  · rw [chkF_no hf, covE_12 hf]; rfl
theorem covE_4 {f : List Pt} {r : Rg} (hf : FieldOk f) (hr : r.ok) (h : endsOf r = []) : coversE f r = (false, 4) := by rw [coversE, if_pos (fieldB_iff.2 hf), if_pos hr, if_pos h]
theorem covE_0 {f : List Pt} {r : Rg} (hf : FieldOk f) (hr : r.ok) (h : endsOf r ≠ []) : coversE f r = ((endsOf r).all (inF f), 0) := by rw [coversE, if_pos (fieldB_iff.2 hf), if_pos hr, if_neg h]
theorem fz1 {f : List Pt} {r : Rg} (h : ¬ fst2 (chkF f) (chkR r) ≠ 0) : FieldOk f := chkF_zero.1 (fst2F_z h).1
theorem fz2 {f : List Pt} {r : Rg} (h : ¬ fst2 (chkF f) (chkR r) ≠ 0) : r.ok := chkR_zero.1 (fst2F_z h).2
def ne (l : List Pt) : Bool := match l with | [] => false | _ :: _ => true
theorem ne_snoc (l : List Pt) (p : Pt) : ne (l ++ [p]) = true := by cases l <;> rfl
theorem ne_t {l : List Pt} (h : (!ne l) = true) : l = [] := by cases l <;> simp_all [ne]
theorem ne_f {l : List Pt} (h : (!ne l) = false) : l ≠ [] := by cases l <;> simp_all [ne]
theorem all_snoc (l : List Pt) (p : Pt) (g : Pt → Bool) : (l ++ [p]).all g = (l.all g && g p) := by simp
theorem ends_ok_sm {r : Rg} (hr : r.ok) {p : Pt} (hp : p ∈ endsOf r) : p.sm 1048576 := ends_sm (hr.sm.mono (by decide)) hp

/-- paravane/region.Covers -/
theorem q_Covers (r : Rg) (f : List Pt) (oa : Option Addr) (n c : Nat) (hn : f.length = n) (hmax : n ≤ 9223372036854775807) (H : Heap) [SlO H oa 2 encP f] : VHas Try.prog 46 [sli oa n c, vR r] (tup [.bool (coversE f r).1, I (coversE f r).2]) H H := by
  refine vcall_of_vrun Try.func46 rfl (N := 32) rfl rfl ?_
  refine vseq ?_
  refine vregion ?_
  refine vone rfl (vxa (vbox rfl rfl) rfl rfl (fun b1 => ?_))
  refine vone rfl (vxa (vbox rfl rfl) rfl rfl (fun b2 => ?_))
  refine vone rfl (vxq (vas rfl) rfl rfl ?_)
  refine vone rfl (vxq (vas rfl) rfl rfl ?_)
  refine vnil ?_
  refine vseq ?_
  refine vseq ?_
  refine vdraw0 [(.q, 0), (.q, 1), (.q, 2), (.q, 3), (.m, 4), (.n, 5), (.q, 6)] Try.mixed (by kernel_rfl) (by kernel_rfl) ?_
  refine vdq (mone rfl) (vld1 rfl rfl) rfl rfl ?_
  refine vdq (mone rfl) (vcq rfl rfl rfl (q_CheckField f oa n c hn hmax _)) rfl rfl ?_
  refine vdq (mone rfl) (vldn rfl rfl) rfl rfl ?_
  refine vdq (mone rfl) (vcp rfl rfl rfl (c_region_Check r)) rfl rfl ?_
  refine vdm (mone rfl) (vbsP rfl rfl rfl rfl rfl rfl) rfl rfl (fun b3 => ?_)
  refine vdn rfl (mone rfl) (vcq rfl rfl rfl ((h_first2 (chkF f) (chkR r) b3).fr1)) rfl rfl ?_
  refine vdq (mone rfl) (vas rfl) rfl rfl ?_
  refine vdend rfl ?_
  refine vseq ?_
  refine vregion ?_
  refine vone rfl (vxq (vmv rfl) rfl rfl ?_)
  refine vone rfl (vxq (vneq rfl rfl) rfl rfl ?_)
  refine vnil ?_
  refine vcondd rfl (fun h17 => ?_) (fun h17 => ?_)
  · skip
    refine vseq ?_
    refine vregion ?_
    refine vone rfl (vxq (vmv rfl) rfl rfl ?_)
    refine vone rfl (vxq (vas rfl) rfl rfl ?_)
    refine vone rfl (vxq (vas rfl) rfl rfl ?_)
    refine vnil ?_
    refine vret (vr2 (H' := H) Try.func46 rfl (.tmp rfl) (.tmp rfl) (by repeat first | exact .refl _ | refine .cons_cons _ ?_ | refine .cons _ ?_ | exact sl0 _ | refine slA ?_) ?_)
    first | (rw [covE_nz h17]; exact ⟨rfl, rfl⟩) | (rw [covE_4 (fz1 h17) (fz2 h17) (ne_t h30)]; exact ⟨rfl, rfl⟩) | (rw [covE_0 (fz1 h17) (fz2 h17) (ne_f h30)]; exact ⟨rfl, rfl⟩)
  · skip
    refine vskip ?_
    refine vseq ?_
    refine vregion ?_
    refine vone rfl (vxa valloc rfl rfl (fun b4 => ?_))
    refine vone rfl (vxa valloc rfl rfl (fun b5 => ?_))
    refine vone rfl (vxs (vst1 rfl rfl rfl rfl) rfl ?_)
    refine vone rfl (vxs (vst1 rfl rfl rfl rfl) rfl ?_)
    refine vnil ?_
    refine vseq ?_
    refine vseq ?_
    refine vregion ?_
    refine vone rfl (vxq (vldn rfl rfl) rfl rfl ?_)
    refine vone rfl (vxq (vcp rfl rfl rfl (c_region_bounds _ _ _ _ _ _ _ _)) rfl rfl ?_)
    refine vone rfl (vxg (vcnew rfl rfl rfl (n_ends r)) rfl rfl ?_)
    rintro _ _ ⟨b6, rfl, rfl⟩
    refine vnil ?_
    refine vblock ?_
    refine VRun.sub (H' := bR b6 r :: (b5, blk [.bool ([].all (inF f))] 4) :: (b4, blk [.bool (ne [])] 4) :: (b2, blk (clR r) 25) :: (b1, blk [sli oa n c] 26) :: H) (by repeat first | exact .refl _ | refine .cons_cons _ ?_ | refine .cons _ ?_ | exact sl0 _ | refine slA ?_) ?_
    refine vrange (enc := (fun p => [vP p])) (xs := (endsOf r)) (caps := [ptr b6]) (Hi := [bR b6 r]) (Hc := ((b5, blk [.bool ([].all (inF f))] 4) :: (b4, blk [.bool (ne [])] 4) :: (b2, blk (clR r) 25) :: (b1, blk [sli oa n c] 26) :: H)) (ps := [22]) (fun pre H1 => H1 = (b5, blk [.bool (pre.all (inF f))] 4) :: (b4, blk [.bool (ne pre)] 4) :: (b2, blk (clR r) 25) :: (b1, blk [sli oa n c] 26) :: H) (fun _ _ => False) rfl (it_ends r ((fz2 h17).sm.mono (by decide)) b6) (List.Perm.refl _) rfl (fun _ => rfl) rfl ?_ ?_ ?_
    · intro lp rec pre x post H1 hrs hxs hI
      subst hI
      have hxsm := ends_ok_sm (fz2 h17) (p := x) (by rw [hxs]; simp)
      refine vregion ?_
      refine vone rfl (vxa valloc rfl rfl (fun b7 => ?_))
      refine vone rfl (vxs (vstn rfl rfl rfl rfl rfl) rfl ?_)
      refine vnil ?_
      refine vbegin hrs ?_
      refine vblock ?_
      refine vregion ?_
      refine vone rfl (vxq (vld1 rfl rfl) rfl rfl ?_)
      refine vone rfl (vxq (vmv rfl) rfl rfl ?_)
      refine vsplit (d := 24) rfl (fun h24 => ?_) (fun h24 => ?_)
      · skip
        refine vyes rfl rfl rfl (vxq (vld1 rfl rfl) rfl rfl ?_)
        refine vyes rfl rfl rfl (vxq (vldn rfl rfl) rfl rfl ?_)
        refine vyes rfl rfl rfl (vxq (vcq rfl rfl rfl (q_in x hxsm f oa n c hn hmax _ (smF (fz1 h17)))) rfl rfl ?_)
        refine vone rfl (vxq (vpkt rfl rfl) rfl rfl ?_)
        refine vone rfl (vxs (vst1 rfl rfl rfl rfl) rfl ?_)
        refine vone rfl (vxs (vst1 rfl rfl rfl rfl) rfl ?_)
        refine vnil ?_
        refine vinblock ?_
        refine vroundI_end (H' := (b5, _) :: (b4, _) :: (b2, _) :: (b1, _) :: H) (by repeat first | exact .refl _ | refine .cons_cons _ ?_ | refine .cons _ ?_ | exact sl0 _ | refine slA ?_) ?_
        first | (rw [all_snoc, ne_snoc, h23]; rfl) | (rw [all_snoc, ne_snoc, h24]; rfl) | (rw [all_snoc, ne_snoc])
      · skip
        refine vno rfl rfl rfl rfl rfl ?_
        refine vno rfl rfl rfl rfl rfl ?_
        refine vno rfl rfl rfl rfl rfl ?_
        refine vone rfl (vxq (vpkf rfl rfl) rfl rfl ?_)
        refine vone rfl (vxs (vst1 rfl rfl rfl rfl) rfl ?_)
        refine vone rfl (vxs (vst1 rfl rfl rfl rfl) rfl ?_)
        refine vnil ?_
        refine vinblock ?_
        refine vroundI_end (H' := (b5, _) :: (b4, _) :: (b2, _) :: (b1, _) :: H) (by repeat first | exact .refl _ | refine .cons_cons _ ?_ | refine .cons _ ?_ | exact sl0 _ | refine slA ?_) ?_
        first | (rw [all_snoc, ne_snoc, h23]; rfl) | (rw [all_snoc, ne_snoc, h24]; rfl) | (rw [all_snoc, ne_snoc])
    · intro r1 H1 hI
      subst hI
      change VRun _ _ _ _ _ _ _ ((r1, Obj.deferred (some [])) :: bR b6 r :: (b5, blk [.bool ((endsOf r).all (inF f))] 4) :: (b4, blk [.bool (ne (endsOf r))] 4) :: (b2, blk (clR r) 25) :: (b1, blk [sli oa n c] 26) :: H) _
      refine vinblock ?_
      refine vseq ?_
      refine vseq ?_
      refine vregion ?_
      refine vone rfl (vxq (vld1 rfl rfl) rfl rfl ?_)
      refine vone rfl (vxq (vnot rfl) rfl rfl ?_)
      refine vnil ?_
      refine vcond rfl (fun h30 => ?_) (fun h30 => ?_)
      · skip
        refine vseq ?_
        refine vregion ?_
        refine vone rfl (vxq (vas rfl) rfl rfl ?_)
        refine vone rfl (vxq (vas rfl) rfl rfl ?_)
        refine vnil ?_
        refine vret (vret_mark (vr2 (H' := H) Try.func46 rfl (.tmp rfl) (.tmp rfl) (by repeat first | exact .refl _ | refine .cons_cons _ ?_ | refine .cons _ ?_ | exact sl0 _ | refine slA ?_) ?_))
        first | (rw [covE_nz h17]; exact ⟨rfl, rfl⟩) | (rw [covE_4 (fz1 h17) (fz2 h17) (ne_t h30)]; exact ⟨rfl, rfl⟩) | (rw [covE_0 (fz1 h17) (fz2 h17) (ne_f h30)]; exact ⟨rfl, rfl⟩)
      · skip
        refine vskip ?_
        refine vseq ?_
        refine vregion ?_
        refine vone rfl (vxq (vld1 rfl rfl) rfl rfl ?_)
        refine vone rfl (vxq (vas rfl) rfl rfl ?_)
        refine vone rfl (vxq (vas rfl) rfl rfl ?_)
        refine vnil ?_
        refine vret (vret_mark (vr2 (H' := H) Try.func46 rfl (.tmp rfl) (.tmp rfl) (by repeat first | exact .refl _ | refine .cons_cons _ ?_ | refine .cons _ ?_ | exact sl0 _ | refine slA ?_) ?_))
        first | (rw [covE_nz h17]; exact ⟨rfl, rfl⟩) | (rw [covE_4 (fz1 h17) (fz2 h17) (ne_t h30)]; exact ⟨rfl, rfl⟩) | (rw [covE_0 (fz1 h17) (fz2 h17) (ne_f h30)]; exact ⟨rfl, rfl⟩)
    · intro r1 c H1 hI
      exact hI.elim
end Go.Proofs.Ytffpfcomikcimaa
