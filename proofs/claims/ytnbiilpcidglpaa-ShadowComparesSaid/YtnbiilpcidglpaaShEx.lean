/- Walks of this program by an abstract machine: the text ShEx. No conditions. -/
import Derived.Test.YtnbiilpcidglpaaSA0
import Derived.Test.YtnbiilpcidglpaaAwD
import Derived.KernelRfl
set_option linter.unusedSimpArgs false
set_option linter.unusedVariables false

/-
  The fixed calls of chapter 52's laws, reckoned by the kernel.
-/
namespace Go.Aw
open Go.Proofs

def noExt : FuncId → List AV → Option AV := fun _ _ => none

set_option maxRecDepth 100000 in
theorem ex52_run : (lvl (EE noExt) 200).1 n_law52_examples [] = some (.bool true) := by kernel_rfl
theorem ex52 : cL (EE noExt) n_law52_examples [] = some (.bool true) := cL_of_run ex52_run

end Go.Aw
