/-
  Go's values for the plain data; small lemmas for the ends of walks. No condition. Walks of small functions of package region and of its reference. Each says what the function returns; conditions are the theorems' own. Walks of iterators of package region. Each says what the iterator promises. Walks of the hulls of package region and of its reference. Walks of the reference's hulls; Tight, of both. Walks of what reads slices of points: Of, of both. Walks of Meet, Join, Sum, Minus, Move, Swept, of both. Walks of the roots and of Reach, of both.
-/
import Derived.Test.YtaplkoimhecacaaDoorTb06
import Derived.Test.YtaplkoimhecacaaDoorTb02
import Derived.Test.YtaplkoimhecacaaDoorTb03
namespace Go.Proofs.YtaplkoimhecacaaDoor
open Go
abbrev I (n : Int) : Value := .int .i64 n
abbrev bnd (a b : Int) : Value := .agg [I a, I b].toArray
abbrev ag3 (a b c : Int) : Value := .agg [I a, I b, I c].toArray
abbrev ag8 (a b c d e f g h : Int) : Value := .agg [I a, I b, I c, I d, I e, I f, I g, I h].toArray
abbrev vB (b : Bd) : Value := bnd b.lo b.hi
abbrev vP (p : Pt) : Value := bnd p.x p.y
abbrev vR (r : Rg) : Value := ag8 r.x.lo r.x.hi r.y.lo r.y.hi r.s.lo r.s.hi r.d.lo r.d.hi
abbrev tup (l : List Value) : Value := .tuple l.toArray
abbrev fnv (g : Nat) : Value := .func (.func g) #[] #[]

theorem Tryd.mixed : Tryd.prog.follows .mixedOrders = true := by kernel_rfl

theorem obt {p : Prop} {_ : Decidable p} (h : p) : Out.val (.bool true) = Out.val (.bool (decide p)) := by simp [h]
theorem obf {p : Prop} {_ : Decidable p} (h : ¬ p) : Out.val (.bool false) = Out.val (.bool (decide p)) := by simp [h]
theorem obd {p q : Prop} {_ : Decidable p} {_ : Decidable q} (h : p ↔ q) : Out.val (.bool (decide p)) = Out.val (.bool (decide q)) := by
  congr 2; exact decide_eq_decide.2 h
end Go.Proofs.YtaplkoimhecacaaDoor
namespace Go.Proofs.YtaplkoimhecacaaDoor
open Go
set_option maxRecDepth 100000
/-- paravane/region.bounds -/
theorem c_region_bounds (a b c d e f g h : Int) : VPure Tryd.prog 70 [ag8 a b c d e f g h] (ag8 a b c d e f g h) := by
 intro H
 refine vcall_of_vrun Tryd.func70 rfl (N := 12) rfl rfl ?_
 refine vseq ?_
 refine vregion ?_
 refine vone rfl (vxa (vbox rfl rfl) rfl rfl (fun b1 => ?_))
 refine vone rfl (vxa valloc rfl rfl (fun b2 => ?_))
 refine vnil ?_
 refine vseq ?_
 refine vregion ?_
 refine vone rfl (vxq (vfa rfl) rfl rfl ?_)
 refine vone rfl (vxq (vldn rfl rfl) rfl rfl ?_)
 refine vone rfl (vxq (vfa rfl) rfl rfl ?_)
 refine vone rfl (vxq (vldn rfl rfl) rfl rfl ?_)
 refine vone rfl (vxq (vfa rfl) rfl rfl ?_)
 refine vone rfl (vxq (vldn rfl rfl) rfl rfl ?_)
 refine vone rfl (vxq (vfa rfl) rfl rfl ?_)
 refine vone rfl (vxq (vldn rfl rfl) rfl rfl ?_)
 refine vone rfl (vxq (vbd rfl rfl) rfl rfl ?_)
 refine vone rfl (vxs (vstn rfl rfl rfl rfl rfl) rfl ?_)
 refine vnil ?_
 refine vret (vr1 (H' := H) Tryd.func70 rfl (.celln rfl rfl) sb ?_)
 exact ⟨rfl, rfl⟩
/-- (paravane/region.four).region -/
theorem c_region_four_region (a b c d e f g h : Int) : VPure Tryd.prog 104 [ag8 a b c d e f g h] (ag8 a b c d e f g h) := by
 intro H
 refine vcall_of_vrun Tryd.func104 rfl (N := 12) rfl rfl ?_
 refine vseq ?_
 refine vregion ?_
 refine vone rfl (vxa (vbox rfl rfl) rfl rfl (fun b1 => ?_))
 refine vone rfl (vxa valloc rfl rfl (fun b2 => ?_))
 refine vnil ?_
 refine vseq ?_
 refine vregion ?_
 refine vone rfl (vxq (via rfl rfl (by omega)) rfl rfl ?_)
 refine vone rfl (vxq (vldn rfl rfl) rfl rfl ?_)
 refine vone rfl (vxq (via rfl rfl (by omega)) rfl rfl ?_)
 refine vone rfl (vxq (vldn rfl rfl) rfl rfl ?_)
 refine vone rfl (vxq (via rfl rfl (by omega)) rfl rfl ?_)
 refine vone rfl (vxq (vldn rfl rfl) rfl rfl ?_)
 refine vone rfl (vxq (via rfl rfl (by omega)) rfl rfl ?_)
 refine vone rfl (vxq (vldn rfl rfl) rfl rfl ?_)
 refine vone rfl (vxq (vbd rfl rfl) rfl rfl ?_)
 refine vone rfl (vxs (vstn rfl rfl rfl rfl rfl) rfl ?_)
 refine vnil ?_
 refine vret (vr1 (H' := H) Tryd.func104 rfl (.celln rfl rfl) sb ?_)
 exact ⟨rfl, rfl⟩
/-- paravane/region.cut -/
theorem c_region_cut (a b c d : Int) : VPure Tryd.prog 72 [bnd a b, bnd c d] (bnd (max a c) (min b d)) := by
 intro H
 refine vcall_of_vrun Tryd.func72 rfl (N := 16) rfl rfl ?_
 refine vseq ?_
 refine vregion ?_
 refine vone rfl (vxa (vbox rfl rfl) rfl rfl (fun b1 => ?_))
 refine vone rfl (vxa (vbox rfl rfl) rfl rfl (fun b2 => ?_))
 refine vone rfl (vxa valloc rfl rfl (fun b3 => ?_))
 refine vnil ?_
 refine vseq ?_
 refine vregion ?_
 refine vone rfl (vxq (vfa rfl) rfl rfl ?_)
 refine vone rfl (vxq (vld1 rfl rfl) rfl rfl ?_)
 refine vone rfl (vxq (vfa rfl) rfl rfl ?_)
 refine vone rfl (vxq (vld1 rfl rfl) rfl rfl ?_)
 refine vone rfl (vxq (vmax2 rfl rfl) rfl rfl ?_)
 refine vone rfl (vxq (vfa rfl) rfl rfl ?_)
 refine vone rfl (vxq (vld1 rfl rfl) rfl rfl ?_)
 refine vone rfl (vxq (vfa rfl) rfl rfl ?_)
 refine vone rfl (vxq (vld1 rfl rfl) rfl rfl ?_)
 refine vone rfl (vxq (vmin2 rfl rfl) rfl rfl ?_)
 refine vone rfl (vxq (vbd rfl rfl) rfl rfl ?_)
 refine vone rfl (vxs (vstn rfl rfl rfl rfl rfl) rfl ?_)
 refine vnil ?_
 refine vret (vr1 (H' := H) Tryd.func72 rfl (.celln rfl rfl) sb ?_)
 exact ⟨rfl, rfl⟩
/-- paravane/region.span -/
theorem c_region_span (a b c d : Int) : VPure Tryd.prog 122 [bnd a b, bnd c d] (bnd (min a c) (max b d)) := by
 intro H
 refine vcall_of_vrun Tryd.func122 rfl (N := 16) rfl rfl ?_
 refine vseq ?_
 refine vregion ?_
 refine vone rfl (vxa (vbox rfl rfl) rfl rfl (fun b1 => ?_))
 refine vone rfl (vxa (vbox rfl rfl) rfl rfl (fun b2 => ?_))
 refine vone rfl (vxa valloc rfl rfl (fun b3 => ?_))
 refine vnil ?_
 refine vseq ?_
 refine vregion ?_
 refine vone rfl (vxq (vfa rfl) rfl rfl ?_)
 refine vone rfl (vxq (vld1 rfl rfl) rfl rfl ?_)
 refine vone rfl (vxq (vfa rfl) rfl rfl ?_)
 refine vone rfl (vxq (vld1 rfl rfl) rfl rfl ?_)
 refine vone rfl (vxq (vmin2 rfl rfl) rfl rfl ?_)
 refine vone rfl (vxq (vfa rfl) rfl rfl ?_)
 refine vone rfl (vxq (vld1 rfl rfl) rfl rfl ?_)
 refine vone rfl (vxq (vfa rfl) rfl rfl ?_)
 refine vone rfl (vxq (vld1 rfl rfl) rfl rfl ?_)
 refine vone rfl (vxq (vmax2 rfl rfl) rfl rfl ?_)
 refine vone rfl (vxq (vbd rfl rfl) rfl rfl ?_)
 refine vone rfl (vxs (vstn rfl rfl rfl rfl rfl) rfl ?_)
 refine vnil ?_
 refine vret (vr1 (H' := H) Tryd.func122 rfl (.celln rfl rfl) sb ?_)
 exact ⟨rfl, rfl⟩
/-- paravane/region.minus -/
theorem c_region_minus (a b c d : Int) (h1 : InR (a - d)) (h2 : InR (b - c)) : VPure Tryd.prog 77 [bnd a b, bnd c d] (bnd (a - d) (b - c)) := by
 intro H
 refine vcall_of_vrun Tryd.func77 rfl (N := 16) rfl rfl ?_
 refine vseq ?_
 refine vregion ?_
 refine vone rfl (vxa (vbox rfl rfl) rfl rfl (fun b1 => ?_))
 refine vone rfl (vxa (vbox rfl rfl) rfl rfl (fun b2 => ?_))
 refine vone rfl (vxa valloc rfl rfl (fun b3 => ?_))
 refine vnil ?_
 refine vseq ?_
 refine vregion ?_
 refine vone rfl (vxq (vfa rfl) rfl rfl ?_)
 refine vone rfl (vxq (vld1 rfl rfl) rfl rfl ?_)
 refine vone rfl (vxq (vfa rfl) rfl rfl ?_)
 refine vone rfl (vxq (vld1 rfl rfl) rfl rfl ?_)
 refine vone rfl (vxq (vsub rfl rfl (by assumption)) rfl rfl ?_)
 refine vone rfl (vxq (vfa rfl) rfl rfl ?_)
 refine vone rfl (vxq (vld1 rfl rfl) rfl rfl ?_)
 refine vone rfl (vxq (vfa rfl) rfl rfl ?_)
 refine vone rfl (vxq (vld1 rfl rfl) rfl rfl ?_)
 refine vone rfl (vxq (vsub rfl rfl (by assumption)) rfl rfl ?_)
 refine vone rfl (vxq (vbd rfl rfl) rfl rfl ?_)
 refine vone rfl (vxs (vstn rfl rfl rfl rfl rfl) rfl ?_)
 refine vnil ?_
 refine vret (vr1 (H' := H) Tryd.func77 rfl (.celln rfl rfl) sb ?_)
 exact ⟨rfl, rfl⟩
/-- (paravane/region.limit).fits -/
theorem c_region_limit_fits (l a b : Int) (hl : 0 ≤ l ∧ l ≤ 65536) : VPure Tryd.prog 103 [I l, bnd a b] (.bool (decide (-l ≤ a ∧ a ≤ b ∧ b ≤ l))) := by
 intro H
 refine vcall_of_vrun Tryd.func103 rfl (N := 23) rfl rfl ?_
 refine vseq ?_
 refine vregion ?_
 refine vone rfl (vxa (vbox rfl rfl) rfl rfl (fun b1 => ?_))
 refine vone rfl (vxq (vas rfl) rfl rfl ?_)
 refine vnil ?_
 refine vseq ?_
 refine vregion ?_
 refine vone rfl (vxq (vfa rfl) rfl rfl ?_)
 refine vone rfl (vxq (vld1 rfl rfl) rfl rfl ?_)
 refine vone rfl (vxq (vmv rfl) rfl rfl ?_)
 refine vone rfl (vxq (vneg rfl (by unfold InR; omega)) rfl rfl ?_)
 refine vone rfl (vxq (vgeq rfl rfl) rfl rfl ?_)
 refine vone rfl (vxq (vmv rfl) rfl rfl ?_)
 refine vsplitd (d := 10) rfl (fun h10 => ?_) (fun h10 => ?_)
 ·
  refine vyes rfl rfl rfl (vxq (vfa rfl) rfl rfl ?_)
  refine vyes rfl rfl rfl (vxq (vld1 rfl rfl) rfl rfl ?_)
  refine vyes rfl rfl rfl (vxq (vfa rfl) rfl rfl ?_)
  refine vyes rfl rfl rfl (vxq (vld1 rfl rfl) rfl rfl ?_)
  refine vyes rfl rfl rfl (vxq (vleq rfl rfl) rfl rfl ?_)
  refine vone rfl (vxq (vpkt rfl rfl) rfl rfl ?_)
  refine vone rfl (vxq (vmv rfl) rfl rfl ?_)
  refine vsplitd (d := 17) rfl (fun h17 => ?_) (fun h17 => ?_)
  ·
   refine vyes rfl rfl rfl (vxq (vfa rfl) rfl rfl ?_)
   refine vyes rfl rfl rfl (vxq (vld1 rfl rfl) rfl rfl ?_)
   refine vyes rfl rfl rfl (vxq (vmv rfl) rfl rfl ?_)
   refine vyes rfl rfl rfl (vxq (vleq rfl rfl) rfl rfl ?_)
   refine vone rfl (vxq (vpkt rfl rfl) rfl rfl ?_)
   refine vone rfl (vxq (vas rfl) rfl rfl ?_)
   refine vnil ?_
   refine vret (vr1 (H' := H) Tryd.func103 rfl (.tmp rfl) sb ?_)
   first | exact ⟨obt (by omega), rfl⟩ | exact ⟨obf (by omega), rfl⟩ | exact ⟨obd (by omega), rfl⟩
  ·
   refine vno rfl rfl rfl rfl rfl ?_
   refine vno rfl rfl rfl rfl rfl ?_
   refine vno rfl rfl rfl rfl rfl ?_
   refine vno rfl rfl rfl rfl rfl ?_
   refine vone rfl (vxq (vpkf rfl rfl) rfl rfl ?_)
   refine vone rfl (vxq (vas rfl) rfl rfl ?_)
   refine vnil ?_
   refine vret (vr1 (H' := H) Tryd.func103 rfl (.tmp rfl) sb ?_)
   first | exact ⟨obt (by omega), rfl⟩ | exact ⟨obf (by omega), rfl⟩ | exact ⟨obd (by omega), rfl⟩
 ·
  refine vno rfl rfl rfl rfl rfl ?_
  refine vno rfl rfl rfl rfl rfl ?_
  refine vno rfl rfl rfl rfl rfl ?_
  refine vno rfl rfl rfl rfl rfl ?_
  refine vno rfl rfl rfl rfl rfl ?_
  refine vone rfl (vxq (vpkf rfl rfl) rfl rfl ?_)
  refine vone rfl (vxq (vmv rfl) rfl rfl ?_)
  refine vno rfl rfl rfl rfl rfl ?_
  refine vno rfl rfl rfl rfl rfl ?_
  refine vno rfl rfl rfl rfl rfl ?_
  refine vno rfl rfl rfl rfl rfl ?_
  refine vone rfl (vxq (vpkf rfl rfl) rfl rfl ?_)
  refine vone rfl (vxq (vas rfl) rfl rfl ?_)
  refine vnil ?_
  refine vret (vr1 (H' := H) Tryd.func103 rfl (.tmp rfl) sb ?_)
  first | exact ⟨obt (by omega), rfl⟩ | exact ⟨obf (by omega), rfl⟩ | exact ⟨obd (by omega), rfl⟩
/-- (paravane/region.limit).into -/
theorem c_region_limit_into (l n : Int) (hl : 0 ≤ l ∧ l ≤ 65536) : VPure Tryd.prog 78 [I l, I n] (I (max (-l) (min n l))) := by
 intro H
 refine vcall_of_vrun Tryd.func78 rfl (N := 11) rfl rfl ?_
 refine vseq ?_
 refine vregion ?_
 refine vone rfl (vxq (vas rfl) rfl rfl ?_)
 refine vnil ?_
 refine vseq ?_
 refine vregion ?_
 refine vone rfl (vxq (vmv rfl) rfl rfl ?_)
 refine vone rfl (vxq (vneg rfl (by unfold InR; omega)) rfl rfl ?_)
 refine vone rfl (vxq (vmv rfl) rfl rfl ?_)
 refine vone rfl (vxq (vmv rfl) rfl rfl ?_)
 refine vone rfl (vxq (vmin2 rfl rfl) rfl rfl ?_)
 refine vone rfl (vxq (vmax2 rfl rfl) rfl rfl ?_)
 refine vone rfl (vxq (vas rfl) rfl rfl ?_)
 refine vnil ?_
 refine vret (vr1 (H' := H) Tryd.func78 rfl (.tmp rfl) sb ?_)
 exact ⟨rfl, rfl⟩
/-- paravane/region.within -/
theorem c_region_within (n a b : Int) : VPure Tryd.prog 114 [I n, I a, I b] (.bool (decide (a ≤ n ∧ n ≤ b))) := by
 intro H
 refine vcall_of_vrun Tryd.func114 rfl (N := 15) rfl rfl ?_
 refine vseq ?_
 refine vregion ?_
 refine vone rfl (vxq (vas rfl) rfl rfl ?_)
 refine vnil ?_
 refine vseq ?_
 refine vregion ?_
 refine vone rfl (vxq (vmv rfl) rfl rfl ?_)
 refine vone rfl (vxq (vmv rfl) rfl rfl ?_)
 refine vone rfl (vxq (vgeq rfl rfl) rfl rfl ?_)
 refine vone rfl (vxq (vmv rfl) rfl rfl ?_)
 refine vsplitd (d := 10) rfl (fun h10 => ?_) (fun h10 => ?_)
 ·
  refine vyes rfl rfl rfl (vxq (vmv rfl) rfl rfl ?_)
  refine vyes rfl rfl rfl (vxq (vmv rfl) rfl rfl ?_)
  refine vyes rfl rfl rfl (vxq (vleq rfl rfl) rfl rfl ?_)
  refine vone rfl (vxq (vpkt rfl rfl) rfl rfl ?_)
  refine vone rfl (vxq (vas rfl) rfl rfl ?_)
  refine vnil ?_
  refine vret (vr1 (H' := H) Tryd.func114 rfl (.tmp rfl) sb ?_)
  first | exact ⟨obt (by omega), rfl⟩ | exact ⟨obf (by omega), rfl⟩ | exact ⟨obd (by omega), rfl⟩
 ·
  refine vno rfl rfl rfl rfl rfl ?_
  refine vno rfl rfl rfl rfl rfl ?_
  refine vno rfl rfl rfl rfl rfl ?_
  refine vone rfl (vxq (vpkf rfl rfl) rfl rfl ?_)
  refine vone rfl (vxq (vas rfl) rfl rfl ?_)
  refine vnil ?_
  refine vret (vr1 (H' := H) Tryd.func114 rfl (.tmp rfl) sb ?_)
  first | exact ⟨obt (by omega), rfl⟩ | exact ⟨obf (by omega), rfl⟩ | exact ⟨obd (by omega), rfl⟩
/-- paravane/region.of -/
theorem c_region_of (x y : Int) (h1 : InR (x + y)) (h2 : InR (x - y)) : VPure Tryd.prog 82 [bnd x y] (ag8 x x y y (x + y) (x + y) (x - y) (x - y)) := by
 intro H
 refine vcall_of_vrun Tryd.func82 rfl (N := 32) rfl rfl ?_
 refine vseq ?_
 refine vregion ?_
 refine vone rfl (vxa (vbox rfl rfl) rfl rfl (fun b1 => ?_))
 refine vone rfl (vxa valloc rfl rfl (fun b2 => ?_))
 refine vnil ?_
 refine vseq ?_
 refine vregion ?_
 refine vone rfl (vxa valloc rfl rfl (fun b3 => ?_))
 refine vnil ?_
 refine vseq ?_
 refine vseq ?_
 refine vregion ?_
 refine vone rfl (vxq (vfa rfl) rfl rfl ?_)
 refine vone rfl (vxq (vld1 rfl rfl) rfl rfl ?_)
 refine vone rfl (vxq (vfa rfl) rfl rfl ?_)
 refine vone rfl (vxq (vld1 rfl rfl) rfl rfl ?_)
 refine vone rfl (vxq (vfa rfl) rfl rfl ?_)
 refine vone rfl (vxq (vld1 rfl rfl) rfl rfl ?_)
 refine vone rfl (vxq (vfa rfl) rfl rfl ?_)
 refine vone rfl (vxq (vld1 rfl rfl) rfl rfl ?_)
 refine vone rfl (vxq (vadd rfl rfl (by first | assumption | (unfold InR; omega))) rfl rfl ?_)
 refine vone rfl (vxq (vfa rfl) rfl rfl ?_)
 refine vone rfl (vxq (vld1 rfl rfl) rfl rfl ?_)
 refine vone rfl (vxq (vfa rfl) rfl rfl ?_)
 refine vone rfl (vxq (vld1 rfl rfl) rfl rfl ?_)
 refine vone rfl (vxq (vsub rfl rfl (by first | assumption | (unfold InR; omega))) rfl rfl ?_)
 refine vone rfl (vxq (vbd rfl rfl) rfl rfl ?_)
 refine vone rfl (vxq (vmv rfl) rfl rfl ?_)
 refine vnil ?_
 refine vblock ?_
 refine vloop1 ?_
 refine vseq ?_
 refine vregion ?_
 refine vone rfl (vxq (vlss rfl rfl) rfl rfl ?_)
 refine vnil ?_
 refine vseq ?_
 refine vcondt rfl ?_
 refine vskip ?_
 refine vseq ?_
 refine vblock ?_
 refine vseq ?_
 refine vregion ?_
 refine vone rfl (vxq (vmv rfl) rfl rfl ?_)
 refine vone rfl (vxq (vixa1 rfl rfl (by omega) rfl) rfl rfl ?_)
 refine vone rfl (vxq (vas rfl) rfl rfl ?_)
 refine vone rfl (vxq (vas rfl) rfl rfl ?_)
 refine vnil ?_
 refine vregion ?_
 refine vone rfl (vxq (vmv rfl) rfl rfl ?_)
 refine vone rfl (vxq (vmv rfl) rfl rfl ?_)
 refine vone rfl (vxq (vmv rfl) rfl rfl ?_)
 refine vone rfl (vxq (vbd rfl rfl) rfl rfl ?_)
 refine vone rfl (vxq (via rfl rfl (by omega)) rfl rfl ?_)
 refine vone rfl (vxs (vstn rfl rfl rfl rfl rfl) rfl ?_)
 refine vnil ?_
 refine vinblock ?_
 refine vregion ?_
 refine vone rfl (vxq (vadd rfl rfl (by first | assumption | (unfold InR; omega))) rfl rfl ?_)
 refine vone rfl (vxq (vmv rfl) rfl rfl ?_)
 refine vnil ?_
 refine vinloop1 ?_
 refine vseq ?_
 refine vregion ?_
 refine vone rfl (vxq (vlss rfl rfl) rfl rfl ?_)
 refine vnil ?_
 refine vseq ?_
 refine vcondt rfl ?_
 refine vskip ?_
 refine vseq ?_
 refine vblock ?_
 refine vseq ?_
 refine vregion ?_
 refine vone rfl (vxq (vmv rfl) rfl rfl ?_)
 refine vone rfl (vxq (vixa1 rfl rfl (by omega) rfl) rfl rfl ?_)
 refine vone rfl (vxq (vas rfl) rfl rfl ?_)
 refine vone rfl (vxq (vas rfl) rfl rfl ?_)
 refine vnil ?_
 refine vregion ?_
 refine vone rfl (vxq (vmv rfl) rfl rfl ?_)
 refine vone rfl (vxq (vmv rfl) rfl rfl ?_)
 refine vone rfl (vxq (vmv rfl) rfl rfl ?_)
 refine vone rfl (vxq (vbd rfl rfl) rfl rfl ?_)
 refine vone rfl (vxq (via rfl rfl (by omega)) rfl rfl ?_)
 refine vone rfl (vxs (vstn rfl rfl rfl rfl rfl) rfl ?_)
 refine vnil ?_
 refine vinblock ?_
 refine vregion ?_
 refine vone rfl (vxq (vadd rfl rfl (by first | assumption | (unfold InR; omega))) rfl rfl ?_)
 refine vone rfl (vxq (vmv rfl) rfl rfl ?_)
 refine vnil ?_
 refine vinloop1 ?_
 refine vseq ?_
 refine vregion ?_
 refine vone rfl (vxq (vlss rfl rfl) rfl rfl ?_)
 refine vnil ?_
 refine vseq ?_
 refine vcondt rfl ?_
 refine vskip ?_
 refine vseq ?_
 refine vblock ?_
 refine vseq ?_
 refine vregion ?_
 refine vone rfl (vxq (vmv rfl) rfl rfl ?_)
 refine vone rfl (vxq (vixa1 rfl rfl (by omega) rfl) rfl rfl ?_)
 refine vone rfl (vxq (vas rfl) rfl rfl ?_)
 refine vone rfl (vxq (vas rfl) rfl rfl ?_)
 refine vnil ?_
 refine vregion ?_
 refine vone rfl (vxq (vmv rfl) rfl rfl ?_)
 refine vone rfl (vxq (vmv rfl) rfl rfl ?_)
 refine vone rfl (vxq (vmv rfl) rfl rfl ?_)
 refine vone rfl (vxq (vbd rfl rfl) rfl rfl ?_)
 refine vone rfl (vxq (via rfl rfl (by omega)) rfl rfl ?_)
 refine vone rfl (vxs (vstn rfl rfl rfl rfl rfl) rfl ?_)
 refine vnil ?_
 refine vinblock ?_
 refine vregion ?_
 refine vone rfl (vxq (vadd rfl rfl (by first | assumption | (unfold InR; omega))) rfl rfl ?_)
 refine vone rfl (vxq (vmv rfl) rfl rfl ?_)
 refine vnil ?_
 refine vinloop1 ?_
 refine vseq ?_
 refine vregion ?_
 refine vone rfl (vxq (vlss rfl rfl) rfl rfl ?_)
 refine vnil ?_
 refine vseq ?_
 refine vcondt rfl ?_
 refine vskip ?_
 refine vseq ?_
 refine vblock ?_
 refine vseq ?_
 refine vregion ?_
 refine vone rfl (vxq (vmv rfl) rfl rfl ?_)
 refine vone rfl (vxq (vixa1 rfl rfl (by omega) rfl) rfl rfl ?_)
 refine vone rfl (vxq (vas rfl) rfl rfl ?_)
 refine vone rfl (vxq (vas rfl) rfl rfl ?_)
 refine vnil ?_
 refine vregion ?_
 refine vone rfl (vxq (vmv rfl) rfl rfl ?_)
 refine vone rfl (vxq (vmv rfl) rfl rfl ?_)
 refine vone rfl (vxq (vmv rfl) rfl rfl ?_)
 refine vone rfl (vxq (vbd rfl rfl) rfl rfl ?_)
 refine vone rfl (vxq (via rfl rfl (by omega)) rfl rfl ?_)
 refine vone rfl (vxs (vstn rfl rfl rfl rfl rfl) rfl ?_)
 refine vnil ?_
 refine vinblock ?_
 refine vregion ?_
 refine vone rfl (vxq (vadd rfl rfl (by first | assumption | (unfold InR; omega))) rfl rfl ?_)
 refine vone rfl (vxq (vmv rfl) rfl rfl ?_)
 refine vnil ?_
 refine vinloop1 ?_
 refine vseq ?_
 refine vregion ?_
 refine vone rfl (vxq (vlss rfl rfl) rfl rfl ?_)
 refine vnil ?_
 refine vseq ?_
 refine vcondf rfl ?_
 refine vexit (k' := _) rfl ?_
 refine vseq ?_
 refine vregion ?_
 refine vone rfl (vxq (vldn rfl rfl) rfl rfl ?_)
 refine vone rfl (vxs (vstn rfl rfl rfl rfl rfl) rfl ?_)
 refine vnil ?_
 refine vret (vr1 (H' := H) Tryd.func82 rfl (.celln rfl rfl) sb ?_)
 exact ⟨rfl, rfl⟩
/-- (paravane/region.four).combined -/
theorem c_region_four_combined (g : Nat) [TFn Tryd.prog g] (a b c d e f' g' h a' b' c' d' e' f2 g2 h' r1 r2 r3 r4 r5 r6 r7 r8 : Int) (h1 : VPure Tryd.prog g [bnd a b, bnd a' b'] (bnd r1 r2)) (h2 : VPure Tryd.prog g [bnd c d, bnd c' d'] (bnd r3 r4)) (h3 : VPure Tryd.prog g [bnd e f', bnd e' f2] (bnd r5 r6)) (h4 : VPure Tryd.prog g [bnd g' h, bnd g2 h'] (bnd r7 r8)) : VPure Tryd.prog 71 [ag8 a b c d e f' g' h, ag8 a' b' c' d' e' f2 g2 h', fnv g] (ag8 r1 r2 r3 r4 r5 r6 r7 r8) := by
 intro H
 refine vcall_of_vrun Tryd.func71 rfl (N := 23) rfl rfl ?_
 refine vseq ?_
 refine vregion ?_
 refine vone rfl (vxa (vbox rfl rfl) rfl rfl (fun b1 => ?_))
 refine vone rfl (vxa (vbox rfl rfl) rfl rfl (fun b2 => ?_))
 refine vone rfl (vxa valloc rfl rfl (fun b3 => ?_))
 refine vnil ?_
 refine vseq ?_
 refine vseq ?_
 refine vregion ?_
 refine vone rfl (vxq (vmv rfl) rfl rfl ?_)
 refine vnil ?_
 refine vblock ?_
 refine vloop1 ?_
 refine vseq ?_
 refine vregion ?_
 refine vone rfl (vxq (vlss rfl rfl) rfl rfl ?_)
 refine vnil ?_
 refine vseq ?_
 refine vcondt rfl ?_
 refine vskip ?_
 refine vseq ?_
 refine vblock ?_
 refine vseq ?_
 refine vregion ?_
 refine vone rfl (vxq (vmv rfl) rfl rfl ?_)
 refine vone rfl (vxq (vas rfl) rfl rfl ?_)
 refine vnil ?_
 refine vdraw0 [(.q, 0), (.q, 1), (.q, 2), (.q, 3), (.q, 4), (.q, 5), (.q, 6), (.q, 7), (.q, 8), (.q, 9), (.c, 10)] Tryd.mixed (by kernel_rfl) (by kernel_rfl) ?_
 refine vdq (mone rfl) (vmv rfl) rfl rfl ?_
 refine vdq (mone rfl) (vmv rfl) rfl rfl ?_
 refine vdq (mone rfl) (vmv rfl) rfl rfl ?_
 refine vdq (mone rfl) (via rfl rfl (by omega)) rfl rfl ?_
 refine vdq (mone rfl) (vldn rfl rfl) rfl rfl ?_
 refine vdq (mone rfl) (vmv rfl) rfl rfl ?_
 refine vdq (mone rfl) (via rfl rfl (by omega)) rfl rfl ?_
 refine vdq (mone rfl) (vldn rfl rfl) rfl rfl ?_
 refine vdq (mone rfl) (vcp rfl rfl rfl ((by first | exact h1 | exact h2 | exact h3 | exact h4))) rfl rfl ?_
 refine vdq (mone rfl) (via rfl rfl (by omega)) rfl rfl ?_
 refine vdcs (mone rfl) (vstn rfl rfl rfl rfl rfl) rfl ?_
 refine vdend rfl ?_
 refine vinblock ?_
 refine vregion ?_
 refine vone rfl (vxq (vadd rfl rfl (by unfold InR; omega)) rfl rfl ?_)
 refine vone rfl (vxq (vmv rfl) rfl rfl ?_)
 refine vnil ?_
 refine vinloop1 ?_
 refine vseq ?_
 refine vregion ?_
 refine vone rfl (vxq (vlss rfl rfl) rfl rfl ?_)
 refine vnil ?_
 refine vseq ?_
 refine vcondt rfl ?_
 refine vskip ?_
 refine vseq ?_
 refine vblock ?_
 refine vseq ?_
 refine vregion ?_
 refine vone rfl (vxq (vmv rfl) rfl rfl ?_)
 refine vone rfl (vxq (vas rfl) rfl rfl ?_)
 refine vnil ?_
 refine vdraw0 [(.q, 0), (.q, 1), (.q, 2), (.q, 3), (.q, 4), (.q, 5), (.q, 6), (.q, 7), (.q, 8), (.q, 9), (.c, 10)] Tryd.mixed (by kernel_rfl) (by kernel_rfl) ?_
 refine vdq (mone rfl) (vmv rfl) rfl rfl ?_
 refine vdq (mone rfl) (vmv rfl) rfl rfl ?_
 refine vdq (mone rfl) (vmv rfl) rfl rfl ?_
 refine vdq (mone rfl) (via rfl rfl (by omega)) rfl rfl ?_
 refine vdq (mone rfl) (vldn rfl rfl) rfl rfl ?_
 refine vdq (mone rfl) (vmv rfl) rfl rfl ?_
 refine vdq (mone rfl) (via rfl rfl (by omega)) rfl rfl ?_
 refine vdq (mone rfl) (vldn rfl rfl) rfl rfl ?_
 refine vdq (mone rfl) (vcp rfl rfl rfl ((by first | exact h1 | exact h2 | exact h3 | exact h4))) rfl rfl ?_
 refine vdq (mone rfl) (via rfl rfl (by omega)) rfl rfl ?_
 refine vdcs (mone rfl) (vstn rfl rfl rfl rfl rfl) rfl ?_
 refine vdend rfl ?_
 refine vinblock ?_
 refine vregion ?_
 refine vone rfl (vxq (vadd rfl rfl (by unfold InR; omega)) rfl rfl ?_)
 refine vone rfl (vxq (vmv rfl) rfl rfl ?_)
 refine vnil ?_
 refine vinloop1 ?_
 refine vseq ?_
 refine vregion ?_
 refine vone rfl (vxq (vlss rfl rfl) rfl rfl ?_)
 refine vnil ?_
 refine vseq ?_
 refine vcondt rfl ?_
 refine vskip ?_
 refine vseq ?_
 refine vblock ?_
 refine vseq ?_
 refine vregion ?_
 refine vone rfl (vxq (vmv rfl) rfl rfl ?_)
 refine vone rfl (vxq (vas rfl) rfl rfl ?_)
 refine vnil ?_
 refine vdraw0 [(.q, 0), (.q, 1), (.q, 2), (.q, 3), (.q, 4), (.q, 5), (.q, 6), (.q, 7), (.q, 8), (.q, 9), (.c, 10)] Tryd.mixed (by kernel_rfl) (by kernel_rfl) ?_
 refine vdq (mone rfl) (vmv rfl) rfl rfl ?_
 refine vdq (mone rfl) (vmv rfl) rfl rfl ?_
 refine vdq (mone rfl) (vmv rfl) rfl rfl ?_
 refine vdq (mone rfl) (via rfl rfl (by omega)) rfl rfl ?_
 refine vdq (mone rfl) (vldn rfl rfl) rfl rfl ?_
 refine vdq (mone rfl) (vmv rfl) rfl rfl ?_
 refine vdq (mone rfl) (via rfl rfl (by omega)) rfl rfl ?_
 refine vdq (mone rfl) (vldn rfl rfl) rfl rfl ?_
 refine vdq (mone rfl) (vcp rfl rfl rfl ((by first | exact h1 | exact h2 | exact h3 | exact h4))) rfl rfl ?_
 refine vdq (mone rfl) (via rfl rfl (by omega)) rfl rfl ?_
 refine vdcs (mone rfl) (vstn rfl rfl rfl rfl rfl) rfl ?_
 refine vdend rfl ?_
 refine vinblock ?_
 refine vregion ?_
 refine vone rfl (vxq (vadd rfl rfl (by unfold InR; omega)) rfl rfl ?_)
 refine vone rfl (vxq (vmv rfl) rfl rfl ?_)
 refine vnil ?_
 refine vinloop1 ?_
 refine vseq ?_
 refine vregion ?_
 refine vone rfl (vxq (vlss rfl rfl) rfl rfl ?_)
 refine vnil ?_
 refine vseq ?_
 refine vcondt rfl ?_
 refine vskip ?_
 refine vseq ?_
 refine vblock ?_
 refine vseq ?_
 refine vregion ?_
 refine vone rfl (vxq (vmv rfl) rfl rfl ?_)
 refine vone rfl (vxq (vas rfl) rfl rfl ?_)
 refine vnil ?_
 refine vdraw0 [(.q, 0), (.q, 1), (.q, 2), (.q, 3), (.q, 4), (.q, 5), (.q, 6), (.q, 7), (.q, 8), (.q, 9), (.c, 10)] Tryd.mixed (by kernel_rfl) (by kernel_rfl) ?_
 refine vdq (mone rfl) (vmv rfl) rfl rfl ?_
 refine vdq (mone rfl) (vmv rfl) rfl rfl ?_
 refine vdq (mone rfl) (vmv rfl) rfl rfl ?_
 refine vdq (mone rfl) (via rfl rfl (by omega)) rfl rfl ?_
 refine vdq (mone rfl) (vldn rfl rfl) rfl rfl ?_
 refine vdq (mone rfl) (vmv rfl) rfl rfl ?_
 refine vdq (mone rfl) (via rfl rfl (by omega)) rfl rfl ?_
 refine vdq (mone rfl) (vldn rfl rfl) rfl rfl ?_
 refine vdq (mone rfl) (vcp rfl rfl rfl ((by first | exact h1 | exact h2 | exact h3 | exact h4))) rfl rfl ?_
 refine vdq (mone rfl) (via rfl rfl (by omega)) rfl rfl ?_
 refine vdcs (mone rfl) (vstn rfl rfl rfl rfl rfl) rfl ?_
 refine vdend rfl ?_
 refine vinblock ?_
 refine vregion ?_
 refine vone rfl (vxq (vadd rfl rfl (by unfold InR; omega)) rfl rfl ?_)
 refine vone rfl (vxq (vmv rfl) rfl rfl ?_)
 refine vnil ?_
 refine vinloop1 ?_
 refine vseq ?_
 refine vregion ?_
 refine vone rfl (vxq (vlss rfl rfl) rfl rfl ?_)
 refine vnil ?_
 refine vseq ?_
 refine vcondf rfl ?_
 refine vexit (k' := _) rfl ?_
 refine vseq ?_
 refine vregion ?_
 refine vone rfl (vxq (vldn rfl rfl) rfl rfl ?_)
 refine vone rfl (vxs (vstn rfl rfl rfl rfl rfl) rfl ?_)
 refine vnil ?_
 refine vret (vr1 (H' := H) Tryd.func71 rfl (.celln rfl rfl) sb ?_)
 exact ⟨rfl, rfl⟩
end Go.Proofs.YtaplkoimhecacaaDoor
namespace Go.Proofs.YtaplkoimhecacaaDoor
open Go
set_option maxRecDepth 100000

abbrev ptr (b : Nat) : Value := .pointer (some ⟨b, 0, Option.none⟩)
abbrev clR (r : Rg) : List Value := [I r.x.lo, I r.x.hi, I r.y.lo, I r.y.hi, I r.s.lo, I r.s.hi, I r.d.lo, I r.d.hi]
abbrev vW (w : Rw) : Value := ag3 w.x w.a w.b
theorem rowsN_end {r : Rg} {x : Int} (h1 : r.x.lo ≤ x) (h2 : x = r.x.lo ∨ x ≤ r.x.hi + 1) (h3 : ¬ x ≤ r.x.hi) : rowsN r (x - r.x.lo).toNat = rows r := by
  unfold rows Bd.len; congr 1; omega
theorem rowsN_next {r : Rg} {x : Int} (h1 : r.x.lo ≤ x) : rowsN r (x + 1 - r.x.lo).toNat = rowsN r (x - r.x.lo).toNat ++ rowL r x := by
  rw [show (x + 1 - r.x.lo).toNat = (x - r.x.lo).toNat + 1 by omega, rowsN_succ, show r.x.lo + ((x - r.x.lo).toNat : Int) = x by omega]
theorem rowsN_nil {r : Rg} {x : Int} (h1 : r.x.lo ≤ x) (h : ¬ (rowOf r x).a ≤ (rowOf r x).b) : rowsN r (x + 1 - r.x.lo).toNat = rowsN r (x - r.x.lo).toNat := by
  rw [rowsN_next h1, rowL, if_neg h, List.append_nil]
theorem rowsN_one {r : Rg} {x : Int} (h1 : r.x.lo ≤ x) (h : (rowOf r x).a ≤ (rowOf r x).b) : rowsN r (x + 1 - r.x.lo).toNat = rowsN r (x - r.x.lo).toNat ++ [rowOf r x] := by
  rw [rowsN_next h1, rowL, if_pos h]
theorem rows_at {r : Rg} {x : Int} (h1 : r.x.lo ≤ x) (h2 : x ≤ r.x.hi) (h : (rowOf r x).a ≤ (rowOf r x).b) : ∃ post, rows r = rowsN r (x - r.x.lo).toNat ++ rowOf r x :: post := by
  have := rows_split r (x - r.x.lo).toNat (by unfold Bd.len; omega) (by rw [show r.x.lo + ((x - r.x.lo).toNat : Int) = x by omega]; exact h)
  rwa [show r.x.lo + ((x - r.x.lo).toNat : Int) = x by omega] at this

abbrev bR (b : Nat) (r : Rg) : Nat × Obj := (b, blk (clR r) 137)
/-- (paravane/region.four).rows$1 -/
theorem it_rows (r : Rg) (hs : r.sm 1099511627776) (b : Nat) : VIt Tryd.prog 125 [ptr b] (fun w => [vW w]) (rows r) [bR b r] := by
 unfold Rg.sm Bd.sm at hs
 intro yf ya yc J Jx Hc0 hJ0 hy
 change VCall _ _ _ (bR b r :: Hc0) _
 refine vcall_of_vrun Tryd.func125 rfl (N := 56) rfl rfl ?_
 refine vseq ?_
 refine vregion ?_
 refine vone rfl (vxq (via rfl rfl (by omega)) rfl rfl ?_)
 refine vone rfl (vxq (vfa rfl) rfl rfl ?_)
 refine vone rfl (vxq (vld1 rfl rfl) rfl rfl ?_)
 refine vone rfl (vxq (vas rfl) rfl rfl ?_)
 refine vnil ?_
 refine vblock ?_
 refine vwhile (σ := Int × Heap) (fun ⟨x, Hc⟩ => (r.x.hi + 1 - x).toNat) (fun ⟨x, Hc⟩ => [(0, .func yf ya yc), (1, ptr b), (3, I x)]) (fun ⟨x, Hc⟩ => bR b r :: Hc) (fun ⟨x, Hc⟩ => (r.x.lo ≤ x ∧ (x = r.x.lo ∨ x ≤ r.x.hi + 1)) ∧ J (rowsN r (x - r.x.lo).toNat) Hc) (r.x.lo, Hc0) ⟨⟨by omega, .inl rfl⟩, by rw [Int.sub_self]; exact hJ0⟩ ⟨rfl, rfl, rfl, True.intro⟩ sb ?_
 rintro ⟨x, Hc⟩ ⟨⟨hx1, hx2⟩, hJ⟩ IH
 change VRun _ _ _ _ _ [(0, .func yf ya yc), (1, ptr b), (3, I x)] _ (bR b r :: Hc) _
 refine vseq ?_
 refine vseq ?_
 refine vregion ?_
 refine vone rfl (vxq (vmv rfl) rfl rfl ?_)
 refine vone rfl (vxq (via rfl rfl (by omega)) rfl rfl ?_)
 refine vone rfl (vxq (vfa rfl) rfl rfl ?_)
 refine vone rfl (vxq (vld1 rfl rfl) rfl rfl ?_)
 refine vone rfl (vxq (vleq rfl rfl) rfl rfl ?_)
 refine vnil ?_
 refine vcondd rfl (fun h12 => ?_) (fun h12 => ?_)
 ·
  refine vskip ?_
  refine vseq ?_
  refine vblock ?_
  refine vseq ?_
  refine vregion ?_
  refine vone rfl (vxq (vmv rfl) rfl rfl ?_)
  refine vone rfl (vxq (via rfl rfl (by omega)) rfl rfl ?_)
  refine vone rfl (vxq (vfa rfl) rfl rfl ?_)
  refine vone rfl (vxq (vld1 rfl rfl) rfl rfl ?_)
  refine vone rfl (vxq (via rfl rfl (by omega)) rfl rfl ?_)
  refine vone rfl (vxq (vfa rfl) rfl rfl ?_)
  refine vone rfl (vxq (vld1 rfl rfl) rfl rfl ?_)
  refine vone rfl (vxq (vmv rfl) rfl rfl ?_)
  refine vone rfl (vxq (vsub rfl rfl (by unfold InR; omega)) rfl rfl ?_)
  refine vone rfl (vxq (vmv rfl) rfl rfl ?_)
  refine vone rfl (vxq (via rfl rfl (by omega)) rfl rfl ?_)
  refine vone rfl (vxq (vfa rfl) rfl rfl ?_)
  refine vone rfl (vxq (vld1 rfl rfl) rfl rfl ?_)
  refine vone rfl (vxq (vsub rfl rfl (by unfold InR; omega)) rfl rfl ?_)
  refine vone rfl (vxq (vmax3 rfl rfl rfl) rfl rfl ?_)
  refine vone rfl (vxq (via rfl rfl (by omega)) rfl rfl ?_)
  refine vone rfl (vxq (vfa rfl) rfl rfl ?_)
  refine vone rfl (vxq (vld1 rfl rfl) rfl rfl ?_)
  refine vone rfl (vxq (via rfl rfl (by omega)) rfl rfl ?_)
  refine vone rfl (vxq (vfa rfl) rfl rfl ?_)
  refine vone rfl (vxq (vld1 rfl rfl) rfl rfl ?_)
  refine vone rfl (vxq (vmv rfl) rfl rfl ?_)
  refine vone rfl (vxq (vsub rfl rfl (by unfold InR; omega)) rfl rfl ?_)
  refine vone rfl (vxq (vmv rfl) rfl rfl ?_)
  refine vone rfl (vxq (via rfl rfl (by omega)) rfl rfl ?_)
  refine vone rfl (vxq (vfa rfl) rfl rfl ?_)
  refine vone rfl (vxq (vld1 rfl rfl) rfl rfl ?_)
  refine vone rfl (vxq (vsub rfl rfl (by unfold InR; omega)) rfl rfl ?_)
  refine vone rfl (vxq (vmin3 rfl rfl rfl) rfl rfl ?_)
  refine vone rfl (vxq (vbd rfl rfl) rfl rfl ?_)
  refine vone rfl (vxa valloc rfl rfl (fun b1 => ?_))
  refine vone rfl (vxs (vstn rfl rfl rfl rfl rfl) rfl ?_)
  refine vnil ?_
  refine vseq ?_
  refine vregion ?_
  refine vone rfl (vxq (vfa rfl) rfl rfl ?_)
  refine vone rfl (vxq (vld1 rfl rfl) rfl rfl ?_)
  refine vone rfl (vxq (vfa rfl) rfl rfl ?_)
  refine vone rfl (vxq (vld1 rfl rfl) rfl rfl ?_)
  refine vone rfl (vxq (vleq rfl rfl) rfl rfl ?_)
  refine vone rfl (vxq (vmv rfl) rfl rfl ?_)
  refine vsplitd (d := 50) rfl (fun h50 => ?_) (fun h50 => ?_)
  ·
   refine vyes rfl rfl rfl (vxq (vmv rfl) rfl rfl ?_)
   refine vyes rfl rfl rfl (vxq (vldn rfl rfl) rfl rfl ?_)
   have hab : (rowOf r x).a ≤ (rowOf r x).b := h50
   obtain ⟨post, hps⟩ := rows_at hx1 h12 hab
   refine vyes rfl rfl rfl (vxg (vcy rfl rfl (VY.b2 (hy _ _ _ hps _ hJ))) rfl rfl ?_)
   rintro _ _ ⟨bb, rfl, Hc2, rfl, hJ2⟩
   rcases bb with _ | _
   ·
    refine vyes rfl rfl rfl (vxq (vnot rfl) rfl rfl ?_)
    refine vone rfl (vxq (vpkt rfl rfl) rfl rfl ?_)
    refine vnil ?_
    refine vcondt rfl ?_
    refine vret (vr0 (H' := bR b r :: _) Tryd.func125 rfl  sb ?_)
    first | exact ⟨rfl, _, rfl, .inr hJ2⟩ | exact ⟨rfl, _, rfl, .inl (by rw [← rowsN_end hx1 hx2 h12]; exact hJ)⟩
   ·
    refine vyes rfl rfl rfl (vxq (vnot rfl) rfl rfl ?_)
    refine vone rfl (vxq (vpkt rfl rfl) rfl rfl ?_)
    refine vnil ?_
    refine vcondf rfl ?_
    refine vskip ?_
    refine vinblock ?_
    refine vregion ?_
    refine vone rfl (vxq (vmv rfl) rfl rfl ?_)
    refine vone rfl (vxq (vadd rfl rfl (by unfold InR; omega)) rfl rfl ?_)
    refine vone rfl (vxq (vas rfl) rfl rfl ?_)
    refine vnil ?_
    first | exact vback (IH (x + 1, Hc2) ⟨⟨by omega, by omega⟩, by rw [rowsN_one hx1 hab]; exact hJ2⟩ (by show (_ : Int).toNat < (_ : Int).toNat; omega)) ⟨rfl, rfl, rfl, True.intro⟩ sb | exact vback (IH (x + 1, Hc) ⟨⟨by omega, by omega⟩, by rw [rowsN_nil hx1 (by assumption)]; exact hJ⟩ (by show (_ : Int).toNat < (_ : Int).toNat; omega)) ⟨rfl, rfl, rfl, True.intro⟩ sb
  ·
   refine vno rfl rfl rfl rfl rfl ?_
   refine vno rfl rfl rfl rfl rfl ?_
   refine vno rfl rfl rfl rfl rfl ?_
   refine vno rfl rfl rfl rfl rfl ?_
   refine vone rfl (vxq (vpkf rfl rfl) rfl rfl ?_)
   refine vnil ?_
   refine vcondf rfl ?_
   refine vskip ?_
   refine vinblock ?_
   refine vregion ?_
   refine vone rfl (vxq (vmv rfl) rfl rfl ?_)
   refine vone rfl (vxq (vadd rfl rfl (by unfold InR; omega)) rfl rfl ?_)
   refine vone rfl (vxq (vas rfl) rfl rfl ?_)
   refine vnil ?_
   first | exact vback (IH (x + 1, Hc2) ⟨⟨by omega, by omega⟩, by rw [rowsN_one hx1 hab]; exact hJ2⟩ (by show (_ : Int).toNat < (_ : Int).toNat; omega)) ⟨rfl, rfl, rfl, True.intro⟩ sb | exact vback (IH (x + 1, Hc) ⟨⟨by omega, by omega⟩, by rw [rowsN_nil hx1 (by assumption)]; exact hJ⟩ (by show (_ : Int).toNat < (_ : Int).toNat; omega)) ⟨rfl, rfl, rfl, True.intro⟩ sb
 ·
  refine vexit (k' := _) rfl ?_
  refine vend (vr0 (H' := bR b r :: _) Tryd.func125 rfl  sb ?_)
  first | exact ⟨rfl, _, rfl, .inr hJ2⟩ | exact ⟨rfl, _, rfl, .inl (by rw [← rowsN_end hx1 hx2 h12]; exact hJ)⟩
/-- (paravane/region.four).rows -/
theorem n_rows (r : Rg) : VNew Tryd.prog 110 [vR r] (blk (clR r) 137) (fun b => .func (.func 125) #[] #[ptr b]) := by
 intro H
 refine vcall_of_vrun Tryd.func110 rfl (N := 4) rfl rfl ?_
 refine vseq ?_
 refine vregion ?_
 refine vone rfl (vxa (vbox rfl rfl) rfl rfl (fun b1 => ?_))
 refine vone rfl (vxq (vas rfl) rfl rfl ?_)
 refine vnil ?_
 refine vseq ?_
 refine vregion ?_
 refine vone rfl (vxq (vmf rfl) rfl rfl ?_)
 refine vone rfl (vxq (vas rfl) rfl rfl ?_)
 refine vnil ?_
 refine vret (vr1 (H' := bR b1 r :: H) Tryd.func110 rfl (.tmp rfl) sb ?_)
 exact ⟨_, rfl, rfl⟩
/-- (paravane/region.four).ends -/
theorem n_ends (r : Rg) : VNew Tryd.prog 106 [vR r] (blk (clR r) 137) (fun b => .func (.func 123) #[] #[ptr b]) := by
 intro H
 refine vcall_of_vrun Tryd.func106 rfl (N := 4) rfl rfl ?_
 refine vseq ?_
 refine vregion ?_
 refine vone rfl (vxa (vbox rfl rfl) rfl rfl (fun b1 => ?_))
 refine vone rfl (vxq (vas rfl) rfl rfl ?_)
 refine vnil ?_
 refine vseq ?_
 refine vregion ?_
 refine vone rfl (vxq (vmf rfl) rfl rfl ?_)
 refine vone rfl (vxq (vas rfl) rfl rfl ?_)
 refine vnil ?_
 refine vret (vr1 (H' := bR b1 r :: H) Tryd.func106 rfl (.tmp rfl) sb ?_)
 exact ⟨_, rfl, rfl⟩

theorem flat_snoc (pre : List Rw) (x : Rw) : (pre ++ [x]).flatMap endL = pre.flatMap endL ++ endL x := by simp
theorem ends_at1 {r : Rg} {pre post : List Rw} {x : Rw} (h : rows r = pre ++ x :: post) : ∃ p2, endsOf r = pre.flatMap endL ++ ⟨x.x, x.a⟩ :: p2 := by
  unfold endsOf; rw [h]; simp only [List.flatMap_append, List.flatMap_cons]
  unfold endL; split <;> exact ⟨_, rfl⟩
theorem ends_at2 {r : Rg} {pre post : List Rw} {x : Rw} (h : rows r = pre ++ x :: post) (hne : x.a ≠ x.b) : ∃ p2, endsOf r = (pre.flatMap endL ++ [⟨x.x, x.a⟩]) ++ ⟨x.x, x.b⟩ :: p2 := by
  unfold endsOf; rw [h]; simp only [List.flatMap_append, List.flatMap_cons]
  have : endL x = [⟨x.x, x.a⟩, ⟨x.x, x.b⟩] := by unfold endL; rw [if_neg hne]
  rw [this]; exact ⟨_, by simp only [List.append_assoc]; rfl⟩
theorem ne_of_l {a b c : Int} (h : [a, b] ≠ [a, c]) : b ≠ c := fun e => h (by rw [e])
theorem eq_of_l {a b c : Int} (h : ¬ [a, b] ≠ [a, c]) : b = c := by
  have h := Classical.not_not.1 h; simpa using h

/-- (paravane/region.four).ends$1 -/
theorem it_ends (r : Rg) (hs : r.sm 1099511627776) (b : Nat) : VIt Tryd.prog 123 [ptr b] (fun p => [vP p]) (endsOf r) [bR b r] := by
 intro yf ya yc J Jx Hc0 hJ0 hy
 change VCall _ _ _ (bR b r :: Hc0) _
 refine vcall_of_vrun Tryd.func123 rfl (N := 34) rfl rfl ?_
 refine vseq ?_
 refine vregion ?_
 refine vone rfl (vxa (vbox rfl rfl) rfl rfl (fun b1 => ?_))
 refine vnil ?_
 refine vseq ?_
 refine vregion ?_
 refine vone rfl (vxq (vldn rfl rfl) rfl rfl ?_)
 refine vone rfl (vxg (vcnew rfl rfl rfl (n_rows _)) rfl rfl ?_)
 rintro _ _ ⟨b2, rfl, rfl⟩
 refine vnil ?_
 refine vblock ?_
 refine vrange (enc := (fun w => [vW w])) (xs := (rows r)) (caps := [ptr b2]) (Hi := [bR b2 r]) (Hc := ((b1, blk [.func yf ya yc] 198) :: bR b r :: Hc0)) (ps := [8]) (fun pre H1 => ∃ Hc, H1 = (b1, blk [.func yf ya yc] 198) :: bR b r :: Hc ∧ J (pre.flatMap endL) Hc) (fun c H1 => c = .ret ∧ ∃ Hc, H1 = (b1, blk [.func yf ya yc] 198) :: bR b r :: Hc ∧ Jx Hc) rfl (it_rows r hs b2) (List.Perm.refl _) ⟨_, rfl, hJ0⟩ (fun _ => rfl) rfl ?_ ?_ ?_
 ·
  intro lp rec pre x post H1 hrs hxs hI
  obtain ⟨Hc, rfl, hJ⟩ := hI
  refine vregion ?_
  refine vone rfl (vxa valloc rfl rfl (fun b3 => ?_))
  refine vone rfl (vxs (vstn rfl rfl rfl rfl rfl) rfl ?_)
  refine vnil ?_
  refine vbegin hrs ?_
  refine vblock ?_
  refine vseq ?_
  refine vdraw [(.q, 0), (.q, 1), (.q, 2), (.q, 3), (.q, 4), (.q, 5), (.q, 6), (.q, 7), (.q, 8), (.q, 9), (.a (blk [.int .i64 0, .int .i64 0] 73), 10), (.a (blk [.int .i64 0, .int .i64 0] 73), 11), (.s, 12), (.s, 13)] Tryd.mixed (by kernel_rfl) ⟨⟨_, _, _, _, _, rfl, _, inferInstance, rfl⟩, ⟨⟨_, _, _, _, _, rfl, _, inferInstance, rfl⟩, True.intro⟩⟩ ?_
  refine vdq (mone rfl) (vfa rfl) rfl rfl ?_
  refine vdq (mone rfl) (vld1 rfl rfl) rfl rfl ?_
  refine vdq (mone rfl) (vfa rfl) rfl rfl ?_
  refine vdq (mone rfl) (vld1 rfl rfl) rfl rfl ?_
  refine vdq (mone rfl) (vbd rfl rfl) rfl rfl ?_
  refine vdq (mone rfl) (vfa rfl) rfl rfl ?_
  refine vdq (mone rfl) (vld1 rfl rfl) rfl rfl ?_
  refine vdq (mone rfl) (vfa rfl) rfl rfl ?_
  refine vdq (mone rfl) (vld1 rfl rfl) rfl rfl ?_
  refine vdq (mone rfl) (vbd rfl rfl) rfl rfl ?_
  refine vda rfl rfl (fun b4 => ?_)
  refine vda rfl rfl (fun b5 => ?_)
  refine vds (mone rfl) (vstn rfl rfl rfl rfl rfl) rfl ?_
  refine vds (mone rfl) (vstn rfl rfl rfl rfl rfl) rfl ?_
  refine vdend rfl ?_
  refine vseq ?_
  refine vregion ?_
  refine vone rfl (vxq (vld1 rfl rfl) rfl rfl ?_)
  refine vone rfl (vxq (vldn rfl rfl) rfl rfl ?_)
  obtain ⟨p2, hps⟩ := ends_at1 hxs
  refine vone rfl (vxg (vcy rfl rfl (VY.b6 (hy _ _ _ hps _ hJ))) rfl rfl ?_)
  rintro _ _ ⟨bb, rfl, Hc, rfl, hJ⟩
  rcases bb with _ | _
  ·
   refine vone rfl (vxq (vnot rfl) rfl rfl ?_)
   refine vone rfl (vxq (vmv rfl) rfl rfl ?_)
   refine vno rfl rfl rfl rfl rfl ?_
   refine vno rfl rfl rfl rfl rfl ?_
   refine vno rfl rfl rfl rfl rfl ?_
   refine vno rfl rfl rfl rfl rfl ?_
   refine vnou rfl rfl rfl rfl rfl ?_
   refine vnou rfl rfl rfl rfl rfl ?_
   refine vnou rfl rfl rfl rfl rfl ?_
   refine vnou rfl rfl rfl rfl rfl ?_
   refine vno rfl rfl rfl rfl rfl ?_
   refine vone rfl (vxq (vpkt rfl rfl) rfl rfl ?_)
   refine vnil ?_
   refine vcondt rfl ?_
   refine vroundI_ret (H' := (b1, blk [.func yf ya yc] 198) :: bR b r :: Hc) sb ?_
   exact ⟨rfl, _, rfl, hJ⟩
  ·
   refine vone rfl (vxq (vnot rfl) rfl rfl ?_)
   refine vone rfl (vxq (vmv rfl) rfl rfl ?_)
   refine vyes rfl rfl rfl (vxq (vldn rfl rfl) rfl rfl ?_)
   refine vyes rfl rfl rfl (vxq (vldn rfl rfl) rfl rfl ?_)
   refine vyes rfl rfl rfl (vxq (vnes rfl rfl rfl rfl rfl rfl) rfl rfl ?_)
   refine vyes rfl rfl rfl (vxq (vmv rfl) rfl rfl ?_)
   refine vsplitd (d := 27) rfl (fun h27 => ?_) (fun h27 => ?_)
   ·
    refine vyes rfl rfl rfl (vxq (vld1 rfl rfl) rfl rfl ?_)
    refine vyes rfl rfl rfl (vxq (vldn rfl rfl) rfl rfl ?_)
    obtain ⟨p3, hps2⟩ := ends_at2 hxs (ne_of_l h27)
    refine vyes rfl rfl rfl (vxg (vcy rfl rfl (VY.b6 (hy _ _ _ hps2 _ hJ))) rfl rfl ?_)
    rintro _ _ ⟨bb2, rfl, Hc, rfl, hJ⟩
    rcases bb2 with _ | _
    ·
     refine vyes rfl rfl rfl (vxq (vnot rfl) rfl rfl ?_)
     refine vyes rfl rfl rfl (vxq (vpkt rfl rfl) rfl rfl ?_)
     refine vone rfl (vxq (vpkf rfl rfl) rfl rfl ?_)
     refine vnil ?_
     refine vcondt rfl ?_
     refine vroundI_ret (H' := (b1, blk [.func yf ya yc] 198) :: bR b r :: Hc) sb ?_
     exact ⟨rfl, _, rfl, hJ⟩
    ·
     refine vyes rfl rfl rfl (vxq (vnot rfl) rfl rfl ?_)
     refine vyes rfl rfl rfl (vxq (vpkt rfl rfl) rfl rfl ?_)
     refine vone rfl (vxq (vpkf rfl rfl) rfl rfl ?_)
     refine vnil ?_
     refine vcondf rfl ?_
     refine vskip ?_
     refine vinblock ?_
     refine vroundI_end (H' := (b1, blk [.func yf ya yc] 198) :: bR b r :: Hc) sb ?_
     first | exact ⟨_, rfl, by rw [flat_snoc, show endL x = [⟨x.x, x.a⟩] from if_pos (eq_of_l (by assumption))]; exact hJ⟩ | exact ⟨_, rfl, by rw [flat_snoc, show endL x = [⟨x.x, x.a⟩, ⟨x.x, x.b⟩] from if_neg (ne_of_l (by assumption))]; rw [List.append_assoc] at hJ; exact hJ⟩
   ·
    refine vno rfl rfl rfl rfl rfl ?_
    refine vno rfl rfl rfl rfl rfl ?_
    refine vno rfl rfl rfl rfl rfl ?_
    refine vno rfl rfl rfl rfl rfl ?_
    refine vyes rfl rfl rfl (vxq (vpkf rfl rfl) rfl rfl ?_)
    refine vone rfl (vxq (vpkf rfl rfl) rfl rfl ?_)
    refine vnil ?_
    refine vcondf rfl ?_
    refine vskip ?_
    refine vinblock ?_
    refine vroundI_end (H' := (b1, blk [.func yf ya yc] 198) :: bR b r :: Hc) sb ?_
    first | exact ⟨_, rfl, by rw [flat_snoc, show endL x = [⟨x.x, x.a⟩] from if_pos (eq_of_l (by assumption))]; exact hJ⟩ | exact ⟨_, rfl, by rw [flat_snoc, show endL x = [⟨x.x, x.a⟩, ⟨x.x, x.b⟩] from if_neg (ne_of_l (by assumption))]; rw [List.append_assoc] at hJ; exact hJ⟩
 ·
  intro r1 H1 hI
  obtain ⟨Hc, rfl, hJ⟩ := hI
  change VRun _ _ _ _ _ _ _ ((r1, Obj.deferred (some [])) :: bR b2 r :: (b1, blk [.func yf ya yc] 198) :: bR b r :: Hc) _
  refine vinblock ?_
  refine vend (vret_mark (vr0 (H' := bR b r :: Hc) Tryd.func123 rfl  sb ?_))
  first | exact ⟨rfl, _, rfl, .inl hJ⟩ | exact ⟨rfl, _, rfl, .inr hJ⟩
 ·
  intro r1 c H1 hI
  obtain ⟨rfl, Hc, rfl, hJ⟩ := hI
  change VRun _ _ _ _ _ _ _ ((r1, Obj.deferred (some [])) :: bR b2 r :: (b1, blk [.func yf ya yc] 198) :: bR b r :: Hc) _
  refine vret (vret_mark (vr0 (H' := bR b r :: Hc) Tryd.func123 rfl  sb ?_))
  first | exact ⟨rfl, _, rfl, .inl hJ⟩ | exact ⟨rfl, _, rfl, .inr hJ⟩
end Go.Proofs.YtaplkoimhecacaaDoor
namespace Go.Proofs.YtaplkoimhecacaaDoor
open Go
set_option maxRecDepth 100000
theorem oI {a b : Int} (h : a = b) : Out.val (I a) = Out.val (I b) := by rw [h]
theorem oV {a b : Value} (h : a = b) : Out.val a = Out.val b := by rw [h]
theorem oT {a b : List Value} (h : a = b) : Out.val (tup a) = Out.val (tup b) := by rw [h]
/-- Two blocks in front. -/
theorem VHas.fr1 {P : Program} {gf : FuncId} {al : List Value} {v : Value} {x1 y1 : Nat × Obj} {B : Heap} (h : VHas P gf al v [x1] [y1]) : VHas P gf al v (x1 :: B) (y1 :: B) := h.frame (B := B)
theorem VHas.fr2 {P : Program} {gf : FuncId} {al : List Value} {v : Value} {x1 x2 y1 y2 : Nat × Obj} {B : Heap} (h : VHas P gf al v [x1, x2] [y1, y2]) : VHas P gf al v (x1 :: x2 :: B) (y1 :: y2 :: B) := h.frame (B := B)
theorem c_of (p : Pt) (h : p.sm 1099511627776) : VPure Tryd.prog 82 [vP p] (vR (ofP p)) := c_region_of p.x p.y (by unfold Pt.sm at h; unfold InR; omega) (by unfold Pt.sm at h; unfold InR; omega)
theorem c_span4 (a b : Rg) : VPure Tryd.prog 71 [vR a, vR b, fnv 122] (vR (a.map2 Bd.span b)) :=
  c_region_four_combined _ _ _ _ _ _ _ _ _ _ _ _ _ _ _ _ _ _ _ _ _ _ _ _ _ (c_region_span _ _ _ _) (c_region_span _ _ _ _) (c_region_span _ _ _ _) (c_region_span _ _ _ _)
theorem c_cut4 (a b : Rg) : VPure Tryd.prog 71 [vR a, vR b, fnv 72] (vR (a.map2 Bd.cut b)) :=
  c_region_four_combined _ _ _ _ _ _ _ _ _ _ _ _ _ _ _ _ _ _ _ _ _ _ _ _ _ (c_region_cut _ _ _ _) (c_region_cut _ _ _ _) (c_region_cut _ _ _ _) (c_region_cut _ _ _ _)
theorem c_minus4 (a b : Rg) (ha : a.sm 1099511627776) (hb : b.sm 1099511627776) : VPure Tryd.prog 71 [vR a, vR b, fnv 77] (vR (a.map2 Bd.minus b)) := by
  unfold Rg.sm Bd.sm at ha hb
  exact c_region_four_combined _ _ _ _ _ _ _ _ _ _ _ _ _ _ _ _ _ _ _ _ _ _ _ _ _ (c_region_minus _ _ _ _ (by unfold InR; omega) (by unfold InR; omega)) (c_region_minus _ _ _ _ (by unfold InR; omega) (by unfold InR; omega)) (c_region_minus _ _ _ _ (by unfold InR; omega) (by unfold InR; omega)) (c_region_minus _ _ _ _ (by unfold InR; omega) (by unfold InR; omega))

/-- paravane/region.Check -/
theorem c_region_Check (r : Rg) : VPure Tryd.prog 68 [vR r] (I (chkR r)) := by
 intro H
 refine vcall_of_vrun Tryd.func68 rfl (N := 24) rfl rfl ?_
 refine vseq ?_
 refine vregion ?_
 refine vone rfl (vxa (vbox rfl rfl) rfl rfl (fun b1 => ?_))
 refine vone rfl (vxq (vas rfl) rfl rfl ?_)
 refine vnil ?_
 refine vseq ?_
 refine vregion ?_
 refine vone rfl (vxq (vmff rfl rfl) rfl rfl ?_)
 refine vone rfl (vxq (vmff rfl rfl) rfl rfl ?_)
 refine vone rfl (vxq (vmff rfl rfl) rfl rfl ?_)
 refine vone rfl (vxq (vmff rfl rfl) rfl rfl ?_)
 refine vone rfl (vxq (vbd rfl rfl) rfl rfl ?_)
 refine vone rfl (vxa valloc rfl rfl (fun b2 => ?_))
 refine vone rfl (vxs (vstn rfl rfl rfl rfl rfl) rfl ?_)
 refine vnil ?_
 refine vseq ?_
 refine vseq ?_
 refine vregion ?_
 refine vone rfl (vxq (vldn rfl rfl) rfl rfl ?_)
 refine vone rfl (vxq (vcp rfl rfl rfl (c_region_bounds _ _ _ _ _ _ _ _)) rfl rfl ?_)
 refine vone rfl (vxq (vmv rfl) rfl rfl ?_)
 refine vnil ?_
 refine vblock ?_
 refine vloop1 ?_
 refine vseq ?_
 refine vregion ?_
 refine vone rfl (vxq (vlss rfl rfl) rfl rfl ?_)
 refine vnil ?_
 refine vseq ?_
 refine vcondt rfl ?_
 refine vskip ?_
 refine vseq ?_
 refine vblock ?_
 refine vseq ?_
 refine vregion ?_
 refine vone rfl (vxq (vmv rfl) rfl rfl ?_)
 refine vone rfl (vxq (vixan rfl rfl (by omega) rfl) rfl rfl ?_)
 refine vone rfl (vxa valloc rfl rfl (fun b3 => ?_))
 refine vone rfl (vxq (vas rfl) rfl rfl ?_)
 refine vone rfl (vxs (vstn rfl rfl rfl rfl rfl) rfl ?_)
 refine vnil ?_
 refine vseq ?_
 refine vdraw0 [(.q, 0), (.q, 1), (.q, 2), (.q, 3), (.q, 4), (.q, 5)] Tryd.mixed (by kernel_rfl) (by kernel_rfl) ?_
 refine vdq (mone rfl) (vmv rfl) rfl rfl ?_
 refine vdq (mone rfl) (via rfl rfl (by omega)) rfl rfl ?_
 refine vdq (mone rfl) (vld1 rfl rfl) rfl rfl ?_
 refine vdq (mone rfl) (vldn rfl rfl) rfl rfl ?_
 refine vdq (mone rfl) (vcpf rfl rfl rfl (c_region_limit_fits _ _ _ (by omega))) rfl rfl ?_
 refine vdq (mone rfl) (vnotd rfl) rfl rfl ?_
 refine vdend rfl ?_
 refine vcondd rfl (fun h22 => ?_) (fun h22 => ?_)
 ·
  refine vseq ?_
  refine vregion ?_
  refine vone rfl (vxq (vas rfl) rfl rfl ?_)
  refine vnil ?_
  refine vret (vr1 (H' := H) Tryd.func68 rfl (.tmp rfl) sb ?_)
  first | exact ⟨oI (chkR_no (by unfold Rg.ok Bd.fits; omega)).symm, rfl⟩ | exact ⟨oI (chkR_ok (by unfold Rg.ok Bd.fits; omega)).symm, rfl⟩
 ·
  refine vskip ?_
  refine vinblock ?_
  refine vregion ?_
  refine vone rfl (vxq (vadd rfl rfl (by unfold InR; omega)) rfl rfl ?_)
  refine vone rfl (vxq (vmv rfl) rfl rfl ?_)
  refine vnil ?_
  refine vinloop1 ?_
  refine vseq ?_
  refine vregion ?_
  refine vone rfl (vxq (vlss rfl rfl) rfl rfl ?_)
  refine vnil ?_
  refine vseq ?_
  refine vcondt rfl ?_
  refine vskip ?_
  refine vseq ?_
  refine vblock ?_
  refine vseq ?_
  refine vregion ?_
  refine vone rfl (vxq (vmv rfl) rfl rfl ?_)
  refine vone rfl (vxq (vixan rfl rfl (by omega) rfl) rfl rfl ?_)
  refine vone rfl (vxa valloc rfl rfl (fun b4 => ?_))
  refine vone rfl (vxq (vas rfl) rfl rfl ?_)
  refine vone rfl (vxs (vstn rfl rfl rfl rfl rfl) rfl ?_)
  refine vnil ?_
  refine vseq ?_
  refine vdraw0 [(.q, 0), (.q, 1), (.q, 2), (.q, 3), (.q, 4), (.q, 5)] Tryd.mixed (by kernel_rfl) (by kernel_rfl) ?_
  refine vdq (mone rfl) (vmv rfl) rfl rfl ?_
  refine vdq (mone rfl) (via rfl rfl (by omega)) rfl rfl ?_
  refine vdq (mone rfl) (vld1 rfl rfl) rfl rfl ?_
  refine vdq (mone rfl) (vldn rfl rfl) rfl rfl ?_
  refine vdq (mone rfl) (vcpf rfl rfl rfl (c_region_limit_fits _ _ _ (by omega))) rfl rfl ?_
  refine vdq (mone rfl) (vnotd rfl) rfl rfl ?_
  refine vdend rfl ?_
  refine vcondd rfl (fun h22 => ?_) (fun h22 => ?_)
  ·
   refine vseq ?_
   refine vregion ?_
   refine vone rfl (vxq (vas rfl) rfl rfl ?_)
   refine vnil ?_
   refine vret (vr1 (H' := H) Tryd.func68 rfl (.tmp rfl) sb ?_)
   first | exact ⟨oI (chkR_no (by unfold Rg.ok Bd.fits; omega)).symm, rfl⟩ | exact ⟨oI (chkR_ok (by unfold Rg.ok Bd.fits; omega)).symm, rfl⟩
  ·
   refine vskip ?_
   refine vinblock ?_
   refine vregion ?_
   refine vone rfl (vxq (vadd rfl rfl (by unfold InR; omega)) rfl rfl ?_)
   refine vone rfl (vxq (vmv rfl) rfl rfl ?_)
   refine vnil ?_
   refine vinloop1 ?_
   refine vseq ?_
   refine vregion ?_
   refine vone rfl (vxq (vlss rfl rfl) rfl rfl ?_)
   refine vnil ?_
   refine vseq ?_
   refine vcondt rfl ?_
   refine vskip ?_
   refine vseq ?_
   refine vblock ?_
   refine vseq ?_
   refine vregion ?_
   refine vone rfl (vxq (vmv rfl) rfl rfl ?_)
   refine vone rfl (vxq (vixan rfl rfl (by omega) rfl) rfl rfl ?_)
   refine vone rfl (vxa valloc rfl rfl (fun b5 => ?_))
   refine vone rfl (vxq (vas rfl) rfl rfl ?_)
   refine vone rfl (vxs (vstn rfl rfl rfl rfl rfl) rfl ?_)
   refine vnil ?_
   refine vseq ?_
   refine vdraw0 [(.q, 0), (.q, 1), (.q, 2), (.q, 3), (.q, 4), (.q, 5)] Tryd.mixed (by kernel_rfl) (by kernel_rfl) ?_
   refine vdq (mone rfl) (vmv rfl) rfl rfl ?_
   refine vdq (mone rfl) (via rfl rfl (by omega)) rfl rfl ?_
   refine vdq (mone rfl) (vld1 rfl rfl) rfl rfl ?_
   refine vdq (mone rfl) (vldn rfl rfl) rfl rfl ?_
   refine vdq (mone rfl) (vcpf rfl rfl rfl (c_region_limit_fits _ _ _ (by omega))) rfl rfl ?_
   refine vdq (mone rfl) (vnotd rfl) rfl rfl ?_
   refine vdend rfl ?_
   refine vcondd rfl (fun h22 => ?_) (fun h22 => ?_)
   ·
    refine vseq ?_
    refine vregion ?_
    refine vone rfl (vxq (vas rfl) rfl rfl ?_)
    refine vnil ?_
    refine vret (vr1 (H' := H) Tryd.func68 rfl (.tmp rfl) sb ?_)
    first | exact ⟨oI (chkR_no (by unfold Rg.ok Bd.fits; omega)).symm, rfl⟩ | exact ⟨oI (chkR_ok (by unfold Rg.ok Bd.fits; omega)).symm, rfl⟩
   ·
    refine vskip ?_
    refine vinblock ?_
    refine vregion ?_
    refine vone rfl (vxq (vadd rfl rfl (by unfold InR; omega)) rfl rfl ?_)
    refine vone rfl (vxq (vmv rfl) rfl rfl ?_)
    refine vnil ?_
    refine vinloop1 ?_
    refine vseq ?_
    refine vregion ?_
    refine vone rfl (vxq (vlss rfl rfl) rfl rfl ?_)
    refine vnil ?_
    refine vseq ?_
    refine vcondt rfl ?_
    refine vskip ?_
    refine vseq ?_
    refine vblock ?_
    refine vseq ?_
    refine vregion ?_
    refine vone rfl (vxq (vmv rfl) rfl rfl ?_)
    refine vone rfl (vxq (vixan rfl rfl (by omega) rfl) rfl rfl ?_)
    refine vone rfl (vxa valloc rfl rfl (fun b6 => ?_))
    refine vone rfl (vxq (vas rfl) rfl rfl ?_)
    refine vone rfl (vxs (vstn rfl rfl rfl rfl rfl) rfl ?_)
    refine vnil ?_
    refine vseq ?_
    refine vdraw0 [(.q, 0), (.q, 1), (.q, 2), (.q, 3), (.q, 4), (.q, 5)] Tryd.mixed (by kernel_rfl) (by kernel_rfl) ?_
    refine vdq (mone rfl) (vmv rfl) rfl rfl ?_
    refine vdq (mone rfl) (via rfl rfl (by omega)) rfl rfl ?_
    refine vdq (mone rfl) (vld1 rfl rfl) rfl rfl ?_
    refine vdq (mone rfl) (vldn rfl rfl) rfl rfl ?_
    refine vdq (mone rfl) (vcpf rfl rfl rfl (c_region_limit_fits _ _ _ (by omega))) rfl rfl ?_
    refine vdq (mone rfl) (vnotd rfl) rfl rfl ?_
    refine vdend rfl ?_
    refine vcondd rfl (fun h22 => ?_) (fun h22 => ?_)
    ·
     refine vseq ?_
     refine vregion ?_
     refine vone rfl (vxq (vas rfl) rfl rfl ?_)
     refine vnil ?_
     refine vret (vr1 (H' := H) Tryd.func68 rfl (.tmp rfl) sb ?_)
     first | exact ⟨oI (chkR_no (by unfold Rg.ok Bd.fits; omega)).symm, rfl⟩ | exact ⟨oI (chkR_ok (by unfold Rg.ok Bd.fits; omega)).symm, rfl⟩
    ·
     refine vskip ?_
     refine vinblock ?_
     refine vregion ?_
     refine vone rfl (vxq (vadd rfl rfl (by unfold InR; omega)) rfl rfl ?_)
     refine vone rfl (vxq (vmv rfl) rfl rfl ?_)
     refine vnil ?_
     refine vinloop1 ?_
     refine vseq ?_
     refine vregion ?_
     refine vone rfl (vxq (vlss rfl rfl) rfl rfl ?_)
     refine vnil ?_
     refine vseq ?_
     refine vcondf rfl ?_
     refine vexit (k' := _) rfl ?_
     refine vseq ?_
     refine vregion ?_
     refine vone rfl (vxq (vas rfl) rfl rfl ?_)
     refine vnil ?_
     refine vret (vr1 (H' := H) Tryd.func68 rfl (.tmp rfl) sb ?_)
     first | exact ⟨oI (chkR_no (by unfold Rg.ok Bd.fits; omega)).symm, rfl⟩ | exact ⟨oI (chkR_ok (by unfold Rg.ok Bd.fits; omega)).symm, rfl⟩
theorem hull_eqN {pre : List Pt} {x : Pt} (h : (!(hullP pre).isSome) = true) : hullP (pre ++ [x]) = some ((ofP x).map2 Bd.span (ofP x)) := by
  rw [hullP_snoc, optN h]; rfl
theorem hull_eqS {pre : List Pt} {x : Pt} (h : (!(hullP pre).isSome) = false) : hullP (pre ++ [x]) = some (((hullP pre).getD zR).map2 Bd.span (ofP x)) := by
  obtain ⟨g, hg⟩ := optS h
  rw [hullP_snoc, hg]; rfl

/-- paravane/region.hull -/
theorem h_hull1 {kf : FuncId} [TFn Tryd.prog kf] {caps : List Value} {Hi : Heap} {xs : List Pt} (hit : VIt Tryd.prog kf caps (fun p => [vP p]) xs Hi) (hsm : ∀ p ∈ xs, p.sm 1099511627776) (bs : Nat) : VHas Tryd.prog 105 [.slice (some ⟨bs, 0, Option.none⟩) 1 1] (tup [vR ((hullP xs).getD zR), .bool (hullP xs).isSome]) ((bs, blk [.func (.func kf) #[] caps.toArray] 183) :: Hi) ((bs, blk [.func (.func kf) #[] caps.toArray] 183) :: Hi) := by
 refine vcall_of_vrun Tryd.func105 rfl (N := 26) rfl rfl ?_
 refine vseq ?_
 refine vregion ?_
 refine vone rfl (vxa valloc rfl rfl (fun b1 => ?_))
 refine vone rfl (vxa valloc rfl rfl (fun b2 => ?_))
 refine vnil ?_
 refine vseq ?_
 refine vseq ?_
 refine vregion ?_
 refine vone rfl (vxq (vmv rfl) rfl rfl ?_)
 refine vone rfl (vxq (vlen rfl) rfl rfl ?_)
 refine vone rfl (vxq (vmv rfl) rfl rfl ?_)
 refine vnil ?_
 refine vblock ?_
 refine vloop1 ?_
 refine vseq ?_
 refine vregion ?_
 refine vone rfl (vxq (vlss rfl rfl) rfl rfl ?_)
 refine vnil ?_
 refine vseq ?_
 refine vcondt rfl ?_
 refine vskip ?_
 refine vseq ?_
 refine vblock ?_
 refine vseq ?_
 refine vregion ?_
 refine vone rfl (vxq (vis rfl rfl (by omega)) rfl rfl ?_)
 refine vone rfl (vxq (vld1 rfl rfl) rfl rfl ?_)
 refine vone rfl (vxq (vas rfl) rfl rfl ?_)
 refine vnil ?_
 refine vseq ?_
 refine vregion ?_
 refine vone rfl (vxq (vmv rfl) rfl rfl ?_)
 refine vnil ?_
 refine vblock ?_
 refine vrange (enc := (fun p => [vP p])) (xs := xs) (caps := caps) (Hi := Hi) (Hc := [(b2, blk [.bool (hullP []).isSome] 4), (b1, blk (clR ((hullP []).getD zR)) 137), (bs, blk [.func (.func kf) #[] caps.toArray] 183)]) (ps := [14]) (fun pre H1 => H1 = [(b2, blk [.bool (hullP pre).isSome] 4), (b1, blk (clR ((hullP pre).getD zR)) 137), (bs, blk [.func (.func kf) #[] caps.toArray] 183)]) (fun _ _ => False) rfl (hit) (List.perm_append_comm (l₁ := [(b2, blk [.bool (hullP []).isSome] 4), (b1, blk (clR ((hullP []).getD zR)) 137), (bs, blk [.func (.func kf) #[] caps.toArray] 183)])) rfl (fun _ => rfl) rfl ?_ ?_ ?_
 ·
  intro lpa reca prea xa posta H1a hrsa hxsa hIa
  subst hIa
  have hsx := hsm xa (by rw [hxsa]; simp)
  refine vregion ?_
  refine vone rfl (vxa valloc rfl rfl (fun b3 => ?_))
  refine vone rfl (vxs (vstn rfl rfl rfl rfl rfl) rfl ?_)
  refine vnil ?_
  refine vbegin hrsa ?_
  refine vblock ?_
  refine vseq ?_
  refine vseq ?_
  refine vregion ?_
  refine vone rfl (vxq (vld1 rfl rfl) rfl rfl ?_)
  refine vone rfl (vxq (vnot rfl) rfl rfl ?_)
  refine vnil ?_
  refine vcond rfl (fun h16 => ?_) (fun h16 => ?_)
  ·
   refine vregion ?_
   refine vone rfl (vxq (vldn rfl rfl) rfl rfl ?_)
   refine vone rfl (vxq (vcp rfl rfl rfl (c_of xa hsx)) rfl rfl ?_)
   refine vone rfl (vxs (vstn rfl rfl rfl rfl rfl) rfl ?_)
   refine vone rfl (vxs (vst1 rfl rfl rfl rfl) rfl ?_)
   refine vnil ?_
   refine vdraw0 [(.q, 0), (.q, 1), (.q, 2), (.q, 3), (.c, 4)] Tryd.mixed (by kernel_rfl) (by kernel_rfl) ?_
   refine vdq (mone rfl) (vldn rfl rfl) rfl rfl ?_
   refine vdq (mone rfl) (vldn rfl rfl) rfl rfl ?_
   refine vdq (mone rfl) (vcp rfl rfl rfl (c_of xa hsx)) rfl rfl ?_
   refine vdq (mone rfl) (vcp rfl rfl rfl (c_span4 ⟨⟨_, _⟩, ⟨_, _⟩, ⟨_, _⟩, ⟨_, _⟩⟩ ⟨⟨_, _⟩, ⟨_, _⟩, ⟨_, _⟩, ⟨_, _⟩⟩)) rfl rfl ?_
   refine vdcs (mone rfl) (vstn rfl rfl rfl rfl rfl) rfl ?_
   refine vdend rfl ?_
   refine vinblock ?_
   refine vroundI_end (H' := [(b2, _), (b1, _), (bs, _)]) sb ?_
   first | (rw [hull_eqN h16]; rfl) | (have he := hull_eqS (x := xa) h16; obtain ⟨gg, hg⟩ := optS h16; rw [he, hg]; rfl)
  ·
   refine vskip ?_
   refine vdraw0 [(.q, 0), (.q, 1), (.q, 2), (.q, 3), (.c, 4)] Tryd.mixed (by kernel_rfl) (by kernel_rfl) ?_
   refine vdq (mone rfl) (vldn rfl rfl) rfl rfl ?_
   refine vdq (mone rfl) (vldn rfl rfl) rfl rfl ?_
   refine vdq (mone rfl) (vcp rfl rfl rfl (c_of xa hsx)) rfl rfl ?_
   refine vdq (mone rfl) (vcp rfl rfl rfl (c_span4 ⟨⟨_, _⟩, ⟨_, _⟩, ⟨_, _⟩, ⟨_, _⟩⟩ ⟨⟨_, _⟩, ⟨_, _⟩, ⟨_, _⟩, ⟨_, _⟩⟩)) rfl rfl ?_
   refine vdcs (mone rfl) (vstn rfl rfl rfl rfl rfl) rfl ?_
   refine vdend rfl ?_
   refine vinblock ?_
   refine vroundI_end (H' := [(b2, _), (b1, _), (bs, _)]) sb ?_
   first | (rw [hull_eqN h16]; rfl) | (have he := hull_eqS (x := xa) h16; obtain ⟨gg, hg⟩ := optS h16; rw [he, hg]; rfl)
 ·
  intro r1a H1a hIa
  subst hIa
  refine VRun.perm (H' := (r1a, Obj.deferred (some [])) :: (b2, blk [.bool (hullP xs).isSome] 4) :: (b1, blk (clR ((hullP xs).getD zR)) 137) :: (bs, blk [.func (.func kf) #[] caps.toArray] 183) :: Hi) ((List.perm_append_comm).cons _) ?_
  refine vinblock ?_
  refine vinblock ?_
  refine vregion ?_
  refine vone rfl (vxq (vadd rfl rfl (by unfold InR; omega)) rfl rfl ?_)
  refine vone rfl (vxq (vmv rfl) rfl rfl ?_)
  refine vnil ?_
  refine vinloop1 ?_
  refine vseq ?_
  refine vregion ?_
  refine vone rfl (vxq (vlss rfl rfl) rfl rfl ?_)
  refine vnil ?_
  refine vseq ?_
  refine vcondf rfl ?_
  refine vexit (k' := _) rfl ?_
  refine vseq ?_
  refine vdraw0 [(.q, 0), (.q, 1), (.q, 2), (.q, 3)] Tryd.mixed (by kernel_rfl) (by kernel_rfl) ?_
  refine vdq (mone rfl) (vldn rfl rfl) rfl rfl ?_
  refine vdq (mone rfl) (vld1 rfl rfl) rfl rfl ?_
  refine vdqn (mone rfl) (vstns rfl rfl rfl rfl rfl) rfl ?_
  refine vdqn (mone rfl) (vst1s rfl rfl rfl rfl) rfl ?_
  refine vdend rfl ?_
  refine vret (vret_mark (vr2 (H' := (bs, blk [.func (.func kf) #[] caps.toArray] 183) :: Hi) Tryd.func105 rfl (.celln rfl rfl) (.cell1 rfl rfl) sb ?_))
  exact ⟨rfl, rfl⟩
 ·
  intro r1a ca H1a hIa
  exact hIa.elim
theorem optE_n {h : Option Rg} (e : h = none) : optE h = (zR, 4) := by subst e; rfl
theorem optE_s {h : Option Rg} {g : Rg} (e : h = some g) : optE h = (g, 0) := by subst e; rfl

/-- (paravane/region.four).tight -/
theorem c_tight (r : Rg) (hs : r.sm 1099511627776) : VPure Tryd.prog 73 [vR r] (tup [vR (optE (tightP r)).1, I (optE (tightP r)).2]) := by
 intro H
 refine vcall_of_vrun Tryd.func73 rfl (N := 17) rfl rfl ?_
 refine vseq ?_
 refine vregion ?_
 refine vone rfl (vxa (vbox rfl rfl) rfl rfl (fun b1 => ?_))
 refine vone rfl (vxa valloc rfl rfl (fun b2 => ?_))
 refine vone rfl (vxq (vas rfl) rfl rfl ?_)
 refine vnil ?_
 refine vseq ?_
 refine vregion ?_
 refine vone rfl (vxq (vldn rfl rfl) rfl rfl ?_)
 refine vone rfl (vxg (vcnew rfl rfl rfl (n_ends _)) rfl rfl ?_)
 rintro _ _ ⟨b3, rfl, rfl⟩
 refine vone rfl (vxg (vbs rfl rfl rfl rfl rfl rfl) rfl rfl ?_)
 rintro _ _ ⟨b4, rfl, rfl⟩
 refine vone rfl (vxq (vcq rfl rfl rfl ((h_hull1 (it_ends r hs b3) (fun p hp => ends_sm hs hp) b4).fr2)) rfl rfl ?_)
 refine vone rfl (vxq (vmv rfl) rfl rfl ?_)
 refine vone rfl (vxq (vex rfl rfl) rfl rfl ?_)
 refine vone rfl (vxq (vex rfl rfl) rfl rfl ?_)
 refine vone rfl (vxa valloc rfl rfl (fun b5 => ?_))
 refine vone rfl (vxs (vstn rfl rfl rfl rfl rfl) rfl ?_)
 refine vone rfl (vxq (vas rfl) rfl rfl ?_)
 refine vnil ?_
 refine vseq ?_
 refine vseq ?_
 refine vregion ?_
 refine vone rfl (vxq (vmv rfl) rfl rfl ?_)
 refine vone rfl (vxq (vnot rfl) rfl rfl ?_)
 refine vnil ?_
 refine vcond rfl (fun h14 => ?_) (fun h14 => ?_)
 ·
  refine vseq ?_
  refine vregion ?_
  refine vone rfl (vxq (vbd rfl rfl) rfl rfl ?_)
  refine vone rfl (vxs (vstn rfl rfl rfl rfl rfl) rfl ?_)
  refine vone rfl (vxq (vas rfl) rfl rfl ?_)
  refine vnil ?_
  refine vret (vr2 (H' := H) Tryd.func73 rfl (.celln rfl rfl) (.tmp rfl) sb ?_)
  first | (have hh := optN (h := tightP r) h14; rw [optE_n hh]; exact ⟨rfl, rfl⟩) | (obtain ⟨gg, hh⟩ := optS (h := tightP r) h14; rw [optE_s hh, show hullP (endsOf r) = _ from hh]; exact ⟨rfl, rfl⟩)
 ·
  refine vskip ?_
  refine vseq ?_
  refine vregion ?_
  refine vone rfl (vxq (vldn rfl rfl) rfl rfl ?_)
  refine vone rfl (vxs (vstn rfl rfl rfl rfl rfl) rfl ?_)
  refine vone rfl (vxq (vas rfl) rfl rfl ?_)
  refine vnil ?_
  refine vret (vr2 (H' := H) Tryd.func73 rfl (.celln rfl rfl) (.tmp rfl) sb ?_)
  first | (have hh := optN (h := tightP r) h14; rw [optE_n hh]; exact ⟨rfl, rfl⟩) | (obtain ⟨gg, hh⟩ := optS (h := tightP r) h14; rw [optE_s hh, show hullP (endsOf r) = _ from hh]; exact ⟨rfl, rfl⟩)
/-- paravane/region.done -/
theorem c_done (r : Rg) (e : Int) : VPure Tryd.prog 69 [vR r, I e] (tup [vR (if e = 0 then r else zR), I e]) := by
 intro H
 refine vcall_of_vrun Tryd.func69 rfl (N := 12) rfl rfl ?_
 refine vseq ?_
 refine vregion ?_
 refine vone rfl (vxa (vbox rfl rfl) rfl rfl (fun b1 => ?_))
 refine vone rfl (vxa valloc rfl rfl (fun b2 => ?_))
 refine vone rfl (vxq (vas rfl) rfl rfl ?_)
 refine vnil ?_
 refine vseq ?_
 refine vseq ?_
 refine vregion ?_
 refine vone rfl (vxq (vmv rfl) rfl rfl ?_)
 refine vone rfl (vxq (vneq rfl rfl) rfl rfl ?_)
 refine vnil ?_
 refine vcondd rfl (fun h7 => ?_) (fun h7 => ?_)
 ·
  refine vseq ?_
  refine vregion ?_
  refine vone rfl (vxq (vbd rfl rfl) rfl rfl ?_)
  refine vone rfl (vxq (vmv rfl) rfl rfl ?_)
  refine vone rfl (vxs (vstn rfl rfl rfl rfl rfl) rfl ?_)
  refine vone rfl (vxq (vas rfl) rfl rfl ?_)
  refine vnil ?_
  refine vret (vr2 (H' := H) Tryd.func69 rfl (.celln rfl rfl) (.tmp rfl) sb ?_)
  first | (rw [if_neg h7]; exact ⟨rfl, rfl⟩) | (have h7 := Classical.not_not.1 h7; subst h7; exact ⟨rfl, rfl⟩)
 ·
  refine vskip ?_
  refine vseq ?_
  refine vregion ?_
  refine vone rfl (vxq (vldn rfl rfl) rfl rfl ?_)
  refine vone rfl (vxq (vcp rfl rfl rfl (c_region_four_region _ _ _ _ _ _ _ _)) rfl rfl ?_)
  refine vone rfl (vxs (vstn rfl rfl rfl rfl rfl) rfl ?_)
  refine vone rfl (vxq (vas rfl) rfl rfl ?_)
  refine vnil ?_
  refine vret (vr2 (H' := H) Tryd.func69 rfl (.celln rfl rfl) (.tmp rfl) sb ?_)
  first | (rw [if_neg h7]; exact ⟨rfl, rfl⟩) | (have h7 := Classical.not_not.1 h7; subst h7; exact ⟨rfl, rfl⟩)

theorem optE_if (h : Option Rg) : (if (optE h).2 = 0 then (optE h).1 else zR) = (optE h).1 := by
  cases h <;> rfl
end Go.Proofs.YtaplkoimhecacaaDoor
namespace Go.Proofs.YtaplkoimhecacaaDoor
open Go
set_option maxRecDepth 100000

theorem tightE_no {r : Rg} (h : ¬ r.ok) : tightE r = (zR, chkR r) := by rw [tightE, if_neg h, chkR_no h]
theorem tightE_ok {r : Rg} (h : ¬ chkR r ≠ 0) : tightE r = optE (tightP r) := if_pos (chkR_zero.1 (Classical.not_not.1 h))
theorem ok_of {r : Rg} (h : ¬ chkR r ≠ 0) : r.ok := chkR_zero.1 (Classical.not_not.1 h)
theorem sm_of {r : Rg} (h : ¬ chkR r ≠ 0) : r.sm 1099511627776 := (ok_of h).sm.mono (by decide)

/-- paravane/region.Tight -/
theorem c_Tight (r : Rg) : VPure Tryd.prog 102 [vR r] (tup [vR (tightE r).1, I (tightE r).2]) := by
 intro H
 refine vcall_of_vrun Tryd.func102 rfl (N := 19) rfl rfl ?_
 refine vseq ?_
 refine vregion ?_
 refine vone rfl (vxa (vbox rfl rfl) rfl rfl (fun b1 => ?_))
 refine vone rfl (vxa valloc rfl rfl (fun b2 => ?_))
 refine vone rfl (vxq (vas rfl) rfl rfl ?_)
 refine vnil ?_
 refine vseq ?_
 refine vseq ?_
 refine vregion ?_
 refine vone rfl (vxq (vldn rfl rfl) rfl rfl ?_)
 refine vone rfl (vxq (vcp rfl rfl rfl (c_region_Check ⟨⟨_, _⟩, ⟨_, _⟩, ⟨_, _⟩, ⟨_, _⟩⟩)) rfl rfl ?_)
 refine vone rfl (vxq (vas rfl) rfl rfl ?_)
 refine vnil ?_
 refine vseq ?_
 refine vregion ?_
 refine vone rfl (vxq (vmv rfl) rfl rfl ?_)
 refine vone rfl (vxq (vneq rfl rfl) rfl rfl ?_)
 refine vnil ?_
 refine vcondd rfl (fun h8 => ?_) (fun h8 => ?_)
 ·
  refine vseq ?_
  refine vregion ?_
  refine vone rfl (vxq (vbd rfl rfl) rfl rfl ?_)
  refine vone rfl (vxq (vmv rfl) rfl rfl ?_)
  refine vone rfl (vxs (vstn rfl rfl rfl rfl rfl) rfl ?_)
  refine vone rfl (vxq (vas rfl) rfl rfl ?_)
  refine vnil ?_
  refine vret (vr2 (H' := H) Tryd.func102 rfl (.celln rfl rfl) (.tmp rfl) sb ?_)
  first | (rw [tightE_no (chkR_nz.1 h8)]; exact ⟨rfl, rfl⟩) | (rw [tightE_ok h8]; exact ⟨rfl, rfl⟩)
 ·
  refine vskip ?_
  refine vseq ?_
  refine vregion ?_
  refine vone rfl (vxq (vldn rfl rfl) rfl rfl ?_)
  refine vone rfl (vxq (vcp rfl rfl rfl (c_region_bounds _ _ _ _ _ _ _ _)) rfl rfl ?_)
  refine vone rfl (vxq (vcp rfl rfl rfl (c_tight ⟨⟨_, _⟩, ⟨_, _⟩, ⟨_, _⟩, ⟨_, _⟩⟩ (sm_of h8))) rfl rfl ?_)
  refine vone rfl (vxq (vex rfl rfl) rfl rfl ?_)
  refine vone rfl (vxq (vex rfl rfl) rfl rfl ?_)
  refine vone rfl (vxq (vcp rfl rfl rfl ((c_done (optE (tightP r)).1 (optE (tightP r)).2).cong (by rw [optE_if]))) rfl rfl ?_)
  refine vone rfl (vxq (vex rfl rfl) rfl rfl ?_)
  refine vone rfl (vxq (vex rfl rfl) rfl rfl ?_)
  refine vone rfl (vxs (vstn rfl rfl rfl rfl rfl) rfl ?_)
  refine vone rfl (vxq (vas rfl) rfl rfl ?_)
  refine vnil ?_
  refine vret (vr2 (H' := H) Tryd.func102 rfl (.celln rfl rfl) (.tmp rfl) sb ?_)
  first | (rw [tightE_no (chkR_nz.1 h8)]; exact ⟨rfl, rfl⟩) | (rw [tightE_ok h8]; exact ⟨rfl, rfl⟩)
end Go.Proofs.YtaplkoimhecacaaDoor
namespace Go.Proofs.YtaplkoimhecacaaDoor
open Go
set_option maxRecDepth 100000

abbrev sli (oa : Option Addr) (n c : Nat) : Value := .slice oa n c
def fst2 (a b : Int) : Int := if a ≠ 0 then a else b

/-- paravane/region.first -/
theorem h_first2 (a b : Int) (bs : Nat) : VHas Tryd.prog 67 [.slice (some ⟨bs, 0, Option.none⟩) 2 2] (I (fst2 a b)) ([(bs, blk [I a, I b] 24)]) ([(bs, blk [I a, I b] 24)]) := by
 refine vcall_of_vrun Tryd.func67 rfl (N := 15) rfl rfl ?_
 refine vseq ?_
 refine vregion ?_
 refine vone rfl (vxq (vas rfl) rfl rfl ?_)
 refine vnil ?_
 refine vseq ?_
 refine vseq ?_
 refine vregion ?_
 refine vone rfl (vxq (vmv rfl) rfl rfl ?_)
 refine vone rfl (vxq (vlen rfl) rfl rfl ?_)
 refine vone rfl (vxq (vmv rfl) rfl rfl ?_)
 refine vnil ?_
 refine vblock ?_
 refine vloop1 ?_
 refine vseq ?_
 refine vregion ?_
 refine vone rfl (vxq (vlss rfl rfl) rfl rfl ?_)
 refine vnil ?_
 refine vseq ?_
 refine vcondt rfl ?_
 refine vskip ?_
 refine vseq ?_
 refine vblock ?_
 refine vseq ?_
 refine vregion ?_
 refine vone rfl (vxq (vis rfl rfl (by omega)) rfl rfl ?_)
 refine vone rfl (vxq (vld1 rfl rfl) rfl rfl ?_)
 refine vone rfl (vxq (vas rfl) rfl rfl ?_)
 refine vnil ?_
 refine vseq ?_
 refine vregion ?_
 refine vone rfl (vxq (vmv rfl) rfl rfl ?_)
 refine vone rfl (vxq (vneq rfl rfl) rfl rfl ?_)
 refine vnil ?_
 refine vcondd rfl (fun h12 => ?_) (fun h12 => ?_)
 ·
  refine vseq ?_
  refine vregion ?_
  refine vone rfl (vxq (vmv rfl) rfl rfl ?_)
  refine vone rfl (vxq (vas rfl) rfl rfl ?_)
  refine vnil ?_
  refine vret (vr1 (H' := [(bs, blk [I a, I b] 24)]) Tryd.func67 rfl (.tmp rfl) sb ?_)
  exact ⟨oI (by unfold fst2; split <;> omega), rfl⟩
 ·
  refine vskip ?_
  refine vinblock ?_
  refine vregion ?_
  refine vone rfl (vxq (vadd rfl rfl (by unfold InR; omega)) rfl rfl ?_)
  refine vone rfl (vxq (vmv rfl) rfl rfl ?_)
  refine vnil ?_
  refine vinloop1 ?_
  refine vseq ?_
  refine vregion ?_
  refine vone rfl (vxq (vlss rfl rfl) rfl rfl ?_)
  refine vnil ?_
  refine vseq ?_
  refine vcondt rfl ?_
  refine vskip ?_
  refine vseq ?_
  refine vblock ?_
  refine vseq ?_
  refine vregion ?_
  refine vone rfl (vxq (vis rfl rfl (by omega)) rfl rfl ?_)
  refine vone rfl (vxq (vld1 rfl rfl) rfl rfl ?_)
  refine vone rfl (vxq (vas rfl) rfl rfl ?_)
  refine vnil ?_
  refine vseq ?_
  refine vregion ?_
  refine vone rfl (vxq (vmv rfl) rfl rfl ?_)
  refine vone rfl (vxq (vneq rfl rfl) rfl rfl ?_)
  refine vnil ?_
  refine vcondd rfl (fun h12 => ?_) (fun h12 => ?_)
  ·
   refine vseq ?_
   refine vregion ?_
   refine vone rfl (vxq (vmv rfl) rfl rfl ?_)
   refine vone rfl (vxq (vas rfl) rfl rfl ?_)
   refine vnil ?_
   refine vret (vr1 (H' := [(bs, blk [I a, I b] 24)]) Tryd.func67 rfl (.tmp rfl) sb ?_)
   exact ⟨oI (by unfold fst2; split <;> omega), rfl⟩
  ·
   refine vskip ?_
   refine vinblock ?_
   refine vregion ?_
   refine vone rfl (vxq (vadd rfl rfl (by unfold InR; omega)) rfl rfl ?_)
   refine vone rfl (vxq (vmv rfl) rfl rfl ?_)
   refine vnil ?_
   refine vinloop1 ?_
   refine vseq ?_
   refine vregion ?_
   refine vone rfl (vxq (vlss rfl rfl) rfl rfl ?_)
   refine vnil ?_
   refine vseq ?_
   refine vcondf rfl ?_
   refine vexit (k' := _) rfl ?_
   refine vseq ?_
   refine vregion ?_
   refine vone rfl (vxq (vas rfl) rfl rfl ?_)
   refine vnil ?_
   refine vret (vr1 (H' := [(bs, blk [I a, I b] 24)]) Tryd.func67 rfl (.tmp rfl) sb ?_)
   exact ⟨oI (by unfold fst2; split <;> omega), rfl⟩
end Go.Proofs.YtaplkoimhecacaaDoor
namespace Go.Proofs.YtaplkoimhecacaaDoor
open Go
set_option maxRecDepth 100000

theorem fst2_chk (a b : Rg) : fst2 (chkR a) (chkR b) = chk2 a b := by
  unfold fst2 chk2
  by_cases ha : a.ok
  · rw [chkR_ok ha]; simp only [ne_eq, not_true_eq_false, if_false]
    by_cases hb : b.ok
    · rw [chkR_ok hb, if_pos ⟨ha, hb⟩]
    · rw [chkR_no hb, if_neg (fun h => hb h.2)]
  · rw [chkR_no ha, if_pos (by decide), if_neg (fun h => ha h.1)]
theorem h_firstR (a b : Rg) (bs : Nat) : VHas Tryd.prog 67 [.slice (some ⟨bs, 0, Option.none⟩) 2 2] (I (chk2 a b)) [(bs, blk [I (chkR a), I (chkR b)] 24)] [(bs, blk [I (chkR a), I (chkR b)] 24)] :=
  (h_first2 (chkR a) (chkR b) bs).cong (by rw [fst2_chk])
theorem chk_n {a b : Rg} (h : ¬ chk2 a b ≠ 0) : chk2 a b = 0 := Classical.not_not.1 h
theorem sm2a {a b : Rg} (h : ¬ chk2 a b ≠ 0) : a.sm 1099511627776 := (chk2_zero.1 (chk_n h)).1.sm.mono (by decide)
theorem sm2b {a b : Rg} (h : ¬ chk2 a b ≠ 0) : b.sm 1099511627776 := (chk2_zero.1 (chk_n h)).2.sm.mono (by decide)
theorem nn {a : Int} (h : ¬ a ≠ 0) : a = 0 := Classical.not_not.1 h
theorem c_doneO (h : Option Rg) : VPure Tryd.prog 69 [vR (optE h).1, I (optE h).2] (tup [vR (optE h).1, I (optE h).2]) := (c_done (optE h).1 (optE h).2).cong (by rw [optE_if])

/-- paravane/region.Meet -/
theorem c_Meet (a b : Rg) : VPure Tryd.prog 28 [vR a, vR b] (tup [vR (meetE a b).1, I (meetE a b).2]) := by
 intro H
 refine vcall_of_vrun Tryd.func28 rfl (N := 28) rfl rfl ?_
 refine vseq ?_
 refine vregion ?_
 refine vone rfl (vxa (vbox rfl rfl) rfl rfl (fun b1 => ?_))
 refine vone rfl (vxa (vbox rfl rfl) rfl rfl (fun b2 => ?_))
 refine vone rfl (vxa valloc rfl rfl (fun b3 => ?_))
 refine vone rfl (vxq (vas rfl) rfl rfl ?_)
 refine vnil ?_
 refine vseq ?_
 refine vseq ?_
 refine vdraw0 [(.q, 0), (.q, 1), (.q, 2), (.q, 3), (.m, 4), (.n, 5), (.q, 6)] Tryd.mixed (by kernel_rfl) (by kernel_rfl) ?_
 refine vdq (mone rfl) (vldn rfl rfl) rfl rfl ?_
 refine vdq (mone rfl) (vcp rfl rfl rfl (c_region_Check a)) rfl rfl ?_
 refine vdq (mone rfl) (vldn rfl rfl) rfl rfl ?_
 refine vdq (mone rfl) (vcp rfl rfl rfl (c_region_Check b)) rfl rfl ?_
 refine vdm (mone rfl) (vbsP rfl rfl rfl rfl rfl rfl) rfl rfl (fun b4 => ?_)
 refine vdn rfl (mone rfl) (vcq rfl rfl rfl ((h_firstR a b b4).fr1)) rfl rfl ?_
 refine vdq (mone rfl) (vas rfl) rfl rfl ?_
 refine vdend rfl ?_
 refine vseq ?_
 refine vregion ?_
 refine vone rfl (vxq (vmv rfl) rfl rfl ?_)
 refine vone rfl (vxq (vneq rfl rfl) rfl rfl ?_)
 refine vnil ?_
 refine vcondd rfl (fun h14 => ?_) (fun h14 => ?_)
 ·
  refine vseq ?_
  refine vregion ?_
  refine vone rfl (vxq (vbd rfl rfl) rfl rfl ?_)
  refine vone rfl (vxq (vmv rfl) rfl rfl ?_)
  refine vone rfl (vxs (vstn rfl rfl rfl rfl rfl) rfl ?_)
  refine vone rfl (vxq (vas rfl) rfl rfl ?_)
  refine vnil ?_
  refine vret (vr2 (H' := H) Tryd.func28 rfl (.celln rfl rfl) (.tmp rfl) sb ?_)
  first | (rw [show meetE a b = (zR, chk2 a b) from if_neg h14]; exact ⟨rfl, rfl⟩) | (rw [show meetE a b = optE (tightP (a.map2 Bd.cut b)) from if_pos (nn h14)]; exact ⟨rfl, rfl⟩)
 ·
  refine vskip ?_
  refine vseq ?_
  refine vdraw0 [(.q, 0), (.q, 1), (.q, 2), (.q, 3), (.q, 4), (.q, 5), (.q, 6), (.q, 7), (.q, 8), (.q, 9), (.q, 10), (.c, 11), (.q, 12)] Tryd.mixed (by kernel_rfl) (by kernel_rfl) ?_
  refine vdq (mone rfl) (vldn rfl rfl) rfl rfl ?_
  refine vdq (mone rfl) (vcp rfl rfl rfl (c_region_bounds _ _ _ _ _ _ _ _)) rfl rfl ?_
  refine vdq (mone rfl) (vldn rfl rfl) rfl rfl ?_
  refine vdq (mone rfl) (vcp rfl rfl rfl (c_region_bounds _ _ _ _ _ _ _ _)) rfl rfl ?_
  refine vdq (mone rfl) (vcp rfl rfl rfl (c_cut4 a b)) rfl rfl ?_
  refine vdq (mone rfl) (vcp rfl rfl rfl (c_tight (a.map2 Bd.cut b) (cut_sm (sm2a h14) (sm2b h14)))) rfl rfl ?_
  refine vdq (mone rfl) (vex rfl rfl) rfl rfl ?_
  refine vdq (mone rfl) (vex rfl rfl) rfl rfl ?_
  refine vdq (mone rfl) (vcp rfl rfl rfl (c_doneO (tightP (a.map2 Bd.cut b)))) rfl rfl ?_
  refine vdq (mone rfl) (vex rfl rfl) rfl rfl ?_
  refine vdq (mone rfl) (vex rfl rfl) rfl rfl ?_
  refine vdcs (mone rfl) (vstn rfl rfl rfl rfl rfl) rfl ?_
  refine vdq (mone rfl) (vas rfl) rfl rfl ?_
  refine vdend rfl ?_
  refine vret (vr2 (H' := H) Tryd.func28 rfl (.celln rfl rfl) (.tmp rfl) sb ?_)
  first | (rw [show meetE a b = (zR, chk2 a b) from if_neg h14]; exact ⟨rfl, rfl⟩) | (rw [show meetE a b = optE (tightP (a.map2 Bd.cut b)) from if_pos (nn h14)]; exact ⟨rfl, rfl⟩)

theorem twoE_n {a b : Rg} (h : chk2 a b ≠ 0) : twoE a b = (zR, zR, chk2 a b) := if_neg h
theorem twoE_e {a b : Rg} (h : ¬ chk2 a b ≠ 0) : twoE a b = (match tightP a, tightP b with | some x, some y => (x, y, 0) | _, _ => (zR, zR, 4)) := if_pos (nn h)
theorem errO_z {h : Option Rg} (e : errO h = 0) : ∃ g, h = some g := by cases h <;> simp_all [errO]
theorem errO_nz {h : Option Rg} (e : errO h ≠ 0) : h = none := by cases h <;> simp_all [errO]
theorem h_firstE (g h : Option Rg) (bs : Nat) : VHas Tryd.prog 67 [.slice (some ⟨bs, 0, Option.none⟩) 2 2] (I (fst2 (errO g) (errO h))) [(bs, blk [I (errO g), I (errO h)] 24)] [(bs, blk [I (errO g), I (errO h)] 24)] := h_first2 _ _ bs
theorem fstE_z {g h : Option Rg} (e : ¬ fst2 (errO g) (errO h) ≠ 0) : ∃ x y, g = some x ∧ h = some y := by
  cases g <;> cases h <;> simp_all [fst2, errO]
theorem fstE_nz {g h : Option Rg} (e : fst2 (errO g) (errO h) ≠ 0) : fst2 (errO g) (errO h) = 4 ∧ (g = none ∨ h = none) := by
  cases g <;> cases h <;> simp_all [fst2, errO]
theorem twoE_4 {a b : Rg} (h : ¬ chk2 a b ≠ 0) (e : tightP a = none ∨ tightP b = none) : twoE a b = (zR, zR, 4) := by
  rw [twoE_e h]; rcases e with e | e
  · rw [e]
  · rw [e]; cases tightP a <;> rfl
theorem twoE_0 {a b x y : Rg} (h : ¬ chk2 a b ≠ 0) (ea : tightP a = some x) (eb : tightP b = some y) : twoE a b = (x, y, 0) := by
  rw [twoE_e h, ea, eb]

/-- paravane/region.two -/
theorem c_two (a b : Rg) : VPure Tryd.prog 75 [vR a, vR b] (tup [vR (twoE a b).1, vR (twoE a b).2.1, I (twoE a b).2.2]) := by
 intro H
 refine vcall_of_vrun Tryd.func75 rfl (N := 44) rfl rfl ?_
 refine vseq ?_
 refine vregion ?_
 refine vone rfl (vxa (vbox rfl rfl) rfl rfl (fun b1 => ?_))
 refine vone rfl (vxa (vbox rfl rfl) rfl rfl (fun b2 => ?_))
 refine vone rfl (vxa valloc rfl rfl (fun b3 => ?_))
 refine vone rfl (vxa valloc rfl rfl (fun b4 => ?_))
 refine vone rfl (vxq (vas rfl) rfl rfl ?_)
 refine vnil ?_
 refine vseq ?_
 refine vseq ?_
 refine vdraw0 [(.q, 0), (.q, 1), (.q, 2), (.q, 3), (.m, 4), (.n, 5), (.q, 6)] Tryd.mixed (by kernel_rfl) (by kernel_rfl) ?_
 refine vdq (mone rfl) (vldn rfl rfl) rfl rfl ?_
 refine vdq (mone rfl) (vcp rfl rfl rfl (c_region_Check a)) rfl rfl ?_
 refine vdq (mone rfl) (vldn rfl rfl) rfl rfl ?_
 refine vdq (mone rfl) (vcp rfl rfl rfl (c_region_Check b)) rfl rfl ?_
 refine vdm (mone rfl) (vbsP rfl rfl rfl rfl rfl rfl) rfl rfl (fun b5 => ?_)
 refine vdn rfl (mone rfl) (vcq rfl rfl rfl ((h_firstR a b b5).fr1)) rfl rfl ?_
 refine vdq (mone rfl) (vas rfl) rfl rfl ?_
 refine vdend rfl ?_
 refine vseq ?_
 refine vregion ?_
 refine vone rfl (vxq (vmv rfl) rfl rfl ?_)
 refine vone rfl (vxq (vneq rfl rfl) rfl rfl ?_)
 refine vnil ?_
 refine vcondd rfl (fun h17 => ?_) (fun h17 => ?_)
 ·
  refine vseq ?_
  refine vregion ?_
  refine vone rfl (vxq (vbd rfl rfl) rfl rfl ?_)
  refine vone rfl (vxq (vbd rfl rfl) rfl rfl ?_)
  refine vone rfl (vxq (vmv rfl) rfl rfl ?_)
  refine vone rfl (vxs (vstn rfl rfl rfl rfl rfl) rfl ?_)
  refine vone rfl (vxs (vstn rfl rfl rfl rfl rfl) rfl ?_)
  refine vone rfl (vxq (vas rfl) rfl rfl ?_)
  refine vnil ?_
  refine vret (vr3 (H' := H) Tryd.func75 rfl (.celln rfl rfl) (.celln rfl rfl) (.tmp rfl) sb ?_)
  first | (rw [twoE_n h17]; exact ⟨rfl, rfl⟩) | (obtain ⟨e4, eo⟩ := fstE_nz h38; rw [twoE_4 h17 eo, e4]; exact ⟨rfl, rfl⟩) | (obtain ⟨gx, gy, ex, ey⟩ := fstE_z h38; rw [twoE_0 h17 ex ey, ex, ey]; exact ⟨rfl, rfl⟩)
 ·
  refine vskip ?_
  refine vseq ?_
  refine vregion ?_
  refine vone rfl (vxq (vldn rfl rfl) rfl rfl ?_)
  refine vone rfl (vxq (vcp rfl rfl rfl (c_region_bounds _ _ _ _ _ _ _ _)) rfl rfl ?_)
  refine vone rfl (vxq (vcp rfl rfl rfl (c_tight a (sm2a h17))) rfl rfl ?_)
  refine vone rfl (vxq (vmv rfl) rfl rfl ?_)
  refine vone rfl (vxq (vex rfl rfl) rfl rfl ?_)
  refine vone rfl (vxq (vex rfl rfl) rfl rfl ?_)
  refine vone rfl (vxs (vstn rfl rfl rfl rfl rfl) rfl ?_)
  refine vone rfl (vxq (vas rfl) rfl rfl ?_)
  refine vnil ?_
  refine vseq ?_
  refine vregion ?_
  refine vone rfl (vxq (vldn rfl rfl) rfl rfl ?_)
  refine vone rfl (vxq (vcp rfl rfl rfl (c_region_bounds _ _ _ _ _ _ _ _)) rfl rfl ?_)
  refine vone rfl (vxq (vcp rfl rfl rfl (c_tight b (sm2b h17))) rfl rfl ?_)
  refine vone rfl (vxq (vmv rfl) rfl rfl ?_)
  refine vone rfl (vxq (vex rfl rfl) rfl rfl ?_)
  refine vone rfl (vxq (vex rfl rfl) rfl rfl ?_)
  refine vone rfl (vxs (vstn rfl rfl rfl rfl rfl) rfl ?_)
  refine vone rfl (vxq (vas rfl) rfl rfl ?_)
  refine vnil ?_
  refine vseq ?_
  refine vseq ?_
  refine vregion ?_
  refine vone rfl (vxq (vmv rfl) rfl rfl ?_)
  refine vone rfl (vxq (vmv rfl) rfl rfl ?_)
  refine vone rfl (vxg (vbs rfl rfl rfl rfl rfl rfl) rfl rfl ?_)
  rintro _ _ ⟨b6, rfl, rfl⟩
  refine vone rfl (vxq (vcq rfl rfl rfl ((h_firstE (tightP a) (tightP b) b6).fr1)) rfl rfl ?_)
  refine vone rfl (vxq (vas rfl) rfl rfl ?_)
  refine vnil ?_
  refine vseq ?_
  refine vregion ?_
  refine vone rfl (vxq (vmv rfl) rfl rfl ?_)
  refine vone rfl (vxq (vneq rfl rfl) rfl rfl ?_)
  refine vnil ?_
  refine vcondd rfl (fun h38 => ?_) (fun h38 => ?_)
  ·
   refine vseq ?_
   refine vregion ?_
   refine vone rfl (vxq (vbd rfl rfl) rfl rfl ?_)
   refine vone rfl (vxq (vbd rfl rfl) rfl rfl ?_)
   refine vone rfl (vxq (vmv rfl) rfl rfl ?_)
   refine vone rfl (vxs (vstn rfl rfl rfl rfl rfl) rfl ?_)
   refine vone rfl (vxs (vstn rfl rfl rfl rfl rfl) rfl ?_)
   refine vone rfl (vxq (vas rfl) rfl rfl ?_)
   refine vnil ?_
   refine vret (vr3 (H' := H) Tryd.func75 rfl (.celln rfl rfl) (.celln rfl rfl) (.tmp rfl) sb ?_)
   first | (rw [twoE_n h17]; exact ⟨rfl, rfl⟩) | (obtain ⟨e4, eo⟩ := fstE_nz h38; rw [twoE_4 h17 eo, e4]; exact ⟨rfl, rfl⟩) | (obtain ⟨gx, gy, ex, ey⟩ := fstE_z h38; rw [twoE_0 h17 ex ey, ex, ey]; exact ⟨rfl, rfl⟩)
  ·
   refine vskip ?_
   refine vseq ?_
   refine vdraw0 [(.q, 0), (.q, 1), (.q, 2), (.q, 3), (.q, 4)] Tryd.mixed (by kernel_rfl) (by kernel_rfl) ?_
   refine vdq (mone rfl) (vldn rfl rfl) rfl rfl ?_
   refine vdq (mone rfl) (vldn rfl rfl) rfl rfl ?_
   refine vdqn (mone rfl) (vstns rfl rfl rfl rfl rfl) rfl ?_
   refine vdqn (mone rfl) (vstns rfl rfl rfl rfl rfl) rfl ?_
   refine vdq (mone rfl) (vas rfl) rfl rfl ?_
   refine vdend rfl ?_
   refine vret (vr3 (H' := H) Tryd.func75 rfl (.celln rfl rfl) (.celln rfl rfl) (.tmp rfl) sb ?_)
   first | (rw [twoE_n h17]; exact ⟨rfl, rfl⟩) | (obtain ⟨e4, eo⟩ := fstE_nz h38; rw [twoE_4 h17 eo, e4]; exact ⟨rfl, rfl⟩) | (obtain ⟨gx, gy, ex, ey⟩ := fstE_z h38; rw [twoE_0 h17 ex ey, ex, ey]; exact ⟨rfl, rfl⟩)

theorem optE_sm {r : Rg} (h : r.ok) : (optE (tightP r)).1.sm 65536 := by
  cases e : tightP r with
  | none => exact zR_sm
  | some t => exact tight_sm e h.sm
theorem ok_c {r : Rg} (h : ¬ chkR r ≠ 0) : r.ok := chkR_zero.1 (nn h)
end Go.Proofs.YtaplkoimhecacaaDoor
namespace Go.Proofs.YtaplkoimhecacaaDoor
open Go
set_option maxRecDepth 100000

theorem inR_mul {a b : Int} (ha : 0 ≤ a ∧ a ≤ 4194304) (hb : 0 ≤ b ∧ b ≤ 4194304) : InR (a * b) := by
  have := mul_bd ha hb; unfold InR; omega
theorem IsRt.bd {n r : Int} (h : IsRt n r) (hn : n ≤ 2199023255552) : r ≤ 2097152 := by
  obtain ⟨h1, h2, _⟩ := h
  rcases Int.lt_or_le 2097152 r with h3 | h3
  · have := sq_lt (by omega) h3; omega
  · exact h3

/-- paravane/region.root -/
theorem c_root (n : Int) (hn : 0 ≤ n ∧ n ≤ 2199023255552) : VPure Tryd.prog 115 [I n] (I (rootP n)) := by
 intro H
 refine vcall_of_vrun Tryd.func115 rfl (N := 22) rfl rfl ?_
 refine vseq ?_
 refine vregion ?_
 refine vone rfl (vxq (vas rfl) rfl rfl ?_)
 refine vnil ?_
 refine vseq ?_
 refine vregion ?_
 refine vone rfl (vxq (vas rfl) rfl rfl ?_)
 refine vnil ?_
 refine vseq ?_
 refine vseq ?_
 refine vregion ?_
 refine vone rfl (vxq (vas rfl) rfl rfl ?_)
 refine vnil ?_
 refine vblock ?_
 refine vwhile (σ := Int × Int) (fun ⟨r, bit⟩ => bit.toNat) (fun ⟨r, bit⟩ => [(0, I n), (3, I r), (4, I bit)]) (fun ⟨r, bit⟩ => H) (fun ⟨r, bit⟩ => RtInv n r bit) (0, 1048576) (RtInv.start (by omega)) ⟨rfl, rfl, rfl, True.intro⟩ sb ?_
 rintro ⟨r, bit⟩ hI IH
 change VRun _ _ _ _ _ [(0, I n), (3, I r), (4, I bit)] _ (H) _
 refine vseq ?_
 refine vseq ?_
 refine vregion ?_
 refine vone rfl (vxq (vmv rfl) rfl rfl ?_)
 refine vone rfl (vxq (vgtr rfl rfl) rfl rfl ?_)
 refine vnil ?_
 refine vcondd rfl (fun h6 => ?_) (fun h6 => ?_)
 ·
  have hbd := hI.bd
  refine vskip ?_
  refine vseq ?_
  refine vblock ?_
  refine vseq ?_
  refine vregion ?_
  refine vone rfl (vxq (vmv rfl) rfl rfl ?_)
  refine vone rfl (vxq (vmv rfl) rfl rfl ?_)
  refine vone rfl (vxq (vadd rfl rfl (by unfold InR; omega)) rfl rfl ?_)
  refine vone rfl (vxq (vmv rfl) rfl rfl ?_)
  refine vone rfl (vxq (vmv rfl) rfl rfl ?_)
  refine vone rfl (vxq (vadd rfl rfl (by unfold InR; omega)) rfl rfl ?_)
  refine vone rfl (vxq (vmul rfl rfl (inR_mul (by omega) (by omega))) rfl rfl ?_)
  refine vone rfl (vxq (vmv rfl) rfl rfl ?_)
  refine vone rfl (vxq (vleq rfl rfl) rfl rfl ?_)
  refine vnil ?_
  refine vcondd rfl (fun h17 => ?_) (fun h17 => ?_)
  ·
   refine vregion ?_
   refine vone rfl (vxq (vmv rfl) rfl rfl ?_)
   refine vone rfl (vxq (vmv rfl) rfl rfl ?_)
   refine vone rfl (vxq (vadd rfl rfl (by unfold InR; omega)) rfl rfl ?_)
   refine vone rfl (vxq (vas rfl) rfl rfl ?_)
   refine vnil ?_
   refine vinblock ?_
   refine vregion ?_
   refine vone rfl (vxq (vmv rfl) rfl rfl ?_)
   refine vone rfl (vxq (vquop rfl rfl (by omega) (by omega) (by unfold InR; omega)) rfl rfl ?_)
   refine vone rfl (vxq (vas rfl) rfl rfl ?_)
   refine vnil ?_
   first | exact vback (IH (r + bit, bit / 2) (hI.yes h6 h17) (by show (_ : Int).toNat < (_ : Int).toNat; omega)) ⟨rfl, rfl, rfl, True.intro⟩ sb | exact vback (IH (r, bit / 2) (hI.no h6 h17) (by show (_ : Int).toNat < (_ : Int).toNat; omega)) ⟨rfl, rfl, rfl, True.intro⟩ sb
  ·
   refine vskip ?_
   refine vinblock ?_
   refine vregion ?_
   refine vone rfl (vxq (vmv rfl) rfl rfl ?_)
   refine vone rfl (vxq (vquop rfl rfl (by omega) (by omega) (by unfold InR; omega)) rfl rfl ?_)
   refine vone rfl (vxq (vas rfl) rfl rfl ?_)
   refine vnil ?_
   first | exact vback (IH (r + bit, bit / 2) (hI.yes h6 h17) (by show (_ : Int).toNat < (_ : Int).toNat; omega)) ⟨rfl, rfl, rfl, True.intro⟩ sb | exact vback (IH (r, bit / 2) (hI.no h6 h17) (by show (_ : Int).toNat < (_ : Int).toNat; omega)) ⟨rfl, rfl, rfl, True.intro⟩ sb
 ·
  refine vexit (k' := _) rfl ?_
  refine vseq ?_
  refine vregion ?_
  refine vone rfl (vxq (vmv rfl) rfl rfl ?_)
  refine vone rfl (vxq (vas rfl) rfl rfl ?_)
  refine vnil ?_
  refine vret (vr1 (H' := H) Tryd.func115 rfl (.tmp rfl) sb ?_)
  exact ⟨oI (rootP_eq (hI.done h6)).symm, rfl⟩
/-- paravane/region.farthest -/
theorem c_farthest (n : Int) (hn : 0 ≤ n ∧ n ≤ 32768) : VPure Tryd.prog 121 [I n] (I (farP n)) := by
 have h2n : 0 ≤ 2 * n * n ∧ 2 * n * n ≤ 2147483648 := by have := mul_bd (a := 2 * n) (b := n) (m := 65536) (by omega) (by omega); have h3 := mul_bd (a := n) (b := n) (m := 32768) (by omega) (by omega); rw [Int.mul_assoc]; omega
 have hnn := mul_bd (a := n) (b := n) (m := 32768) (by omega) (by omega)
 have hrt := rootP_is h2n.1
 intro H
 refine vcall_of_vrun Tryd.func121 rfl (N := 31) rfl rfl ?_
 refine vseq ?_
 refine vregion ?_
 refine vone rfl (vxq (vas rfl) rfl rfl ?_)
 refine vnil ?_
 refine vseq ?_
 refine vregion ?_
 refine vone rfl (vxq (vmv rfl) rfl rfl ?_)
 refine vone rfl (vxq (vmul rfl rfl (by unfold InR; omega)) rfl rfl ?_)
 refine vone rfl (vxq (vmv rfl) rfl rfl ?_)
 refine vone rfl (vxq (vmul rfl rfl (by unfold InR; omega)) rfl rfl ?_)
 refine vone rfl (vxq (vcp rfl rfl rfl (c_root (2 * n * n) (by omega))) rfl rfl ?_)
 refine vone rfl (vxq (vas rfl) rfl rfl ?_)
 refine vnil ?_
 refine vseq ?_
 refine vblock ?_
 refine vwhile (σ := Int) (fun s => s.toNat) (fun s => [(0, I n), (3, I s)]) (fun s => H) (fun s => (0 ≤ s ∧ s ≤ 2097152) ∧ ∀ s', s < s' → n * n < half2 s') (rootP (2 * n * n)) ⟨⟨hrt.1, hrt.bd (by omega)⟩, far_start hrt⟩ ⟨rfl, rfl, True.intro⟩ sb ?_
 rintro s ⟨⟨hs0, hs1⟩, hfar⟩ IH
 change VRun _ _ _ _ _ [(0, I n), (3, I s)] _ (H) _
 refine vseq ?_
 refine vseq ?_
 refine vregion ?_
 refine vone rfl (vxq (vmv rfl) rfl rfl ?_)
 refine vone rfl (vxq (vquop rfl rfl (by omega) (by omega) (by unfold InR; omega)) rfl rfl ?_)
 refine vone rfl (vxq (vmv rfl) rfl rfl ?_)
 refine vone rfl (vxq (vquop rfl rfl (by omega) (by omega) (by unfold InR; omega)) rfl rfl ?_)
 refine vone rfl (vxq (vmul rfl rfl (inR_mul (by omega) (by omega))) rfl rfl ?_)
 refine vone rfl (vxq (vmv rfl) rfl rfl ?_)
 refine vone rfl (vxq (vmv rfl) rfl rfl ?_)
 refine vone rfl (vxq (vquop rfl rfl (by omega) (by omega) (by unfold InR; omega)) rfl rfl ?_)
 refine vone rfl (vxq (vsub rfl rfl (by unfold InR; omega)) rfl rfl ?_)
 refine vone rfl (vxq (vmv rfl) rfl rfl ?_)
 refine vone rfl (vxq (vmv rfl) rfl rfl ?_)
 refine vone rfl (vxq (vquop rfl rfl (by omega) (by omega) (by unfold InR; omega)) rfl rfl ?_)
 refine vone rfl (vxq (vsub rfl rfl (by unfold InR; omega)) rfl rfl ?_)
 refine vone rfl (vxq (vmul rfl rfl (inR_mul (by omega) (by omega))) rfl rfl ?_)
 refine vone rfl (vxq (vadd rfl rfl (by have h1 := mul_bd (a := s / 2) (b := s / 2) (m := 4194304) (by omega) (by omega); have h2 := mul_bd (a := s - s / 2) (b := s - s / 2) (m := 4194304) (by omega) (by omega); unfold InR; omega)) rfl rfl ?_)
 refine vone rfl (vxq (vmv rfl) rfl rfl ?_)
 refine vone rfl (vxq (vmv rfl) rfl rfl ?_)
 refine vone rfl (vxq (vmul rfl rfl (inR_mul (by omega) (by omega))) rfl rfl ?_)
 refine vone rfl (vxq (vgtr rfl rfl) rfl rfl ?_)
 refine vnil ?_
 refine vcondd rfl (fun h27 => ?_) (fun h27 => ?_)
 ·
  refine vskip ?_
  refine vblock ?_
  refine vregion ?_
  refine vone rfl (vxq (vmv rfl) rfl rfl ?_)
  refine vone rfl (vxq (vsub rfl rfl (by unfold InR; omega)) rfl rfl ?_)
  refine vone rfl (vxq (vas rfl) rfl rfl ?_)
  refine vnil ?_
  refine vinblock ?_
  have hpos : 0 < s := by
   rcases Int.lt_or_le 0 s with h | h
   · exact h
   ·
    have : s = 0 := by omega
    subst this; exact absurd h27 (by simp; omega)
  exact vback (IH (s - 1) ⟨by omega, fun s' hs' => by
    by_cases e : s' = s
    · subst e; exact h27
    · exact hfar s' (by omega)⟩ (by show (_ : Int).toNat < (_ : Int).toNat; omega)) ⟨rfl, rfl, True.intro⟩ sb
 ·
  refine vexit (k' := _) rfl ?_
  refine vseq ?_
  refine vregion ?_
  refine vone rfl (vxq (vmv rfl) rfl rfl ?_)
  refine vone rfl (vxq (vas rfl) rfl rfl ?_)
  refine vnil ?_
  refine vret (vr1 (H' := H) Tryd.func121 rfl (.tmp rfl) sb ?_)
  exact ⟨oI (farP_eq hn.1 ⟨hs0, Int.not_lt.1 h27, hfar⟩).symm, rfl⟩

structure WInv (n best x y : Int) : Prop where
  bd : (0 ≤ x ∧ x ≤ n + 1) ∧ (0 ≤ y ∧ y ≤ n) ∧ 0 ≤ best ∧ best ≤ 70000
  over : ∀ a b, x ≤ a → y < b → n * n < a * a + b * b
  all : ∀ a b, 0 ≤ a → a < x → 0 ≤ b → a * a + b * b ≤ n * n → a + b ≤ best
  some : ∃ a b, 0 ≤ a ∧ 0 ≤ b ∧ a * a + b * b ≤ n * n ∧ a + b = best
theorem WInv.start {n : Int} (hn : 0 ≤ n ∧ n ≤ 32768) : WInv n 0 0 n := by
  refine ⟨by omega, fun a b ha hb => ?_, fun a b ha hx => by omega, 0, 0, by omega, by omega, by have := sq_nn n; omega, by omega⟩
  have h1 := sq_lt hn.1 hb
  have h2 := sq_nn a
  omega
theorem WInv.next {n best x y : Int} (hn : n ≤ 32768) (h : WInv n best x y) (hx : x ≤ n) (hg : ¬ x * x + y * y > n * n) : WInv n (max best (x + y)) (x + 1) y := by
  have hb := h.bd
  refine ⟨by omega, fun a b ha hb' => h.over a b (by omega) hb', fun a b ha hax hb' hab => ?_, ?_⟩
  · by_cases e : a = x
    · subst e
      rcases Int.lt_or_le y b with h1 | h1
      · have := h.over a b (by omega) h1; omega
      · omega
    · have := h.all a b ha (by omega) hb' hab; omega
  · rcases Int.le_total best (x + y) with h1 | h1
    · exact ⟨x, y, hb.1.1, hb.2.1.1, by omega, by omega⟩
    · obtain ⟨a, b, h2, h3, h4, h5⟩ := h.some
      exact ⟨a, b, h2, h3, h4, by omega⟩
theorem WInv.done {n best x y : Int} (h : WInv n best x y) (hx : ¬ x ≤ n) (hn : 0 ≤ n) : farP n = best := by
  refine farP_eq hn (far_of_widest hn h.some fun a b ha hb hab => h.all a b ha ?_ hb hab)
  rcases Int.lt_or_le a x with h1 | h1
  · exact h1
  · have h2 := sq_lt hn (show n < a by omega)
    have h3 := sq_nn b
    omega


theorem reachE_11 {r : Rg} {n : Int} (h : chkR r ≠ 0) : reachE r n = (zR, chkR r) := by rw [reachE, if_neg (chkR_nz.1 h), chkR_no (chkR_nz.1 h)]
theorem reachE_7 {r : Rg} {n : Int} (h : ¬ chkR r ≠ 0) (hv : ¬ (0 ≤ n ∧ n ≤ 32768)) : reachE r n = (zR, 7) := by rw [reachE, if_pos (ok_c h), if_neg hv]
theorem reachE_4 {r : Rg} {n : Int} (h : ¬ chkR r ≠ 0) (hv : 0 ≤ n ∧ n ≤ 32768) (e : tightP r = none) : reachE r n = (zR, 4) := by rw [reachE, if_pos (ok_c h), if_pos hv, e]
theorem reachE_0 {r x : Rg} {n : Int} (h : ¬ chkR r ≠ 0) (hv : 0 ≤ n ∧ n ≤ 32768) (e : tightP r = some x) : reachE r n = optE (tightP (wideR x n (farP n))) := by rw [reachE, if_pos (ok_c h), if_pos hv, e]
theorem farP_bd {n : Int} (hn : 0 ≤ n ∧ n ≤ 32768) : 0 ≤ farP n ∧ farP n ≤ 65536 := by
  have h := farP_is hn.1
  have := far_bd h hn.1
  have := h.1
  omega

end Go.Proofs.YtaplkoimhecacaaDoor
