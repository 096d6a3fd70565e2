/-
  The walks over the reference's Depth, Size, Parts.
-/
import Derived.Test.YteohklfoggiojaaPart2
import Derived.Test.YteohklfoggiojaaPlnM
namespace Go.Proofs.Yteohklfoggiojaa
open Go.AL Go.RowKit
set_option linter.unusedSimpArgs false
set_option linter.unusedVariables false
set_option maxRecDepth 10000
set_option maxHeartbeats 4000000
end Go.Proofs.Yteohklfoggiojaa
