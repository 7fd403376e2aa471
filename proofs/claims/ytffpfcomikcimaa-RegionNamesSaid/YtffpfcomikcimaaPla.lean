/-
  Plain Lean: what the functions of package region compute. No condition, no program.
-/
namespace Go.Proofs.Ytffpfcomikcimaa

/-- A bound; a point; a region. -/
structure Bd where
  lo : Int
  hi : Int
  deriving DecidableEq
structure Pt where
  x : Int
  y : Int
  deriving DecidableEq
structure Rg where
  x : Bd
  y : Bd
  s : Bd
  d : Bd
  deriving DecidableEq

def Bd.fits (b : Bd) (l : Int) : Prop := -l ≤ b.lo ∧ b.lo ≤ b.hi ∧ b.hi ≤ l
instance (b : Bd) (l : Int) : Decidable (b.fits l) := by unfold Bd.fits; exact inferInstance
def Rg.ok (r : Rg) : Prop := r.x.fits 32768 ∧ r.y.fits 32768 ∧ r.s.fits 65536 ∧ r.d.fits 65536
instance (r : Rg) : Decidable r.ok := by unfold Rg.ok; exact inferInstance
def Pt.ok (p : Pt) : Prop := (-32768 ≤ p.x ∧ p.x ≤ 32768) ∧ (-32768 ≤ p.y ∧ p.y ≤ 32768)
instance (p : Pt) : Decidable p.ok := by unfold Pt.ok; exact inferInstance
def chkR (r : Rg) : Int := if r.ok then 0 else 11
def chkP (p : Pt) : Int := if p.ok then 0 else 10
end Go.Proofs.Ytffpfcomikcimaa
