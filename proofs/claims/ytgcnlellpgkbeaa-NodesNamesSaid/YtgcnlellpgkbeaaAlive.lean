/-
  The example of the chapter, by a run.
-/
import Derived.Test.YtgcnlellpgkbeaaPop
namespace Go.Proofs.Ytgcnlellpgkbeaa
open Go.AL
set_option linter.unusedSimpArgs false
set_option maxRecDepth 10000
theorem alive_c : ACall Try.prog 17 [] (.lit (.bool true)) := run_sound (by kernel_rfl)
end Go.Proofs.Ytgcnlellpgkbeaa
