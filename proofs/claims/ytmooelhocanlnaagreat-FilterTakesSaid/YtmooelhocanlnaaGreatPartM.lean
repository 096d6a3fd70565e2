/-
  Parts of expressions, in plain Lean: no program in sight.
-/
import Derived.Test.YtmooelhocanlnaaGreatTreeM
namespace Go.Proofs.YtmooelhocanlnaaGreat
open Go.AL
set_option linter.unusedSimpArgs false
set_option linter.unusedVariables false
end Go.Proofs.YtmooelhocanlnaaGreat
