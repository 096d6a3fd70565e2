/-
  The chapter's examples of folding.
-/
import Derived.Test.YteohklfoggiojaaFldE
namespace Go.Proofs.Yteohklfoggiojaa
open Go.AL Go.RowKit
set_option linter.unusedSimpArgs false
set_option linter.unusedVariables false
set_option maxRecDepth 10000
set_option maxHeartbeats 4000000
end Go.Proofs.Yteohklfoggiojaa
