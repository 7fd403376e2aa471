/-
  Facts on the program's head.
-/
import Derived.Test.YtffpfcomikcimaaRows
namespace Go.Proofs.Ytffpfcomikcimaa
open Go
set_option maxRecDepth 100000
theorem Try.enterK : Try.prog.mayEnter = true := by kernel_rfl
theorem Try.liftsK : (Rows.regionTightsRow.lifted == Try.prog.liftsFinal) = true := by kernel_rfl
theorem Try.makeK : (Try.prog.make == some Rows.regionTightsRow.make) = true := by kernel_rfl
end Go.Proofs.Ytffpfcomikcimaa
