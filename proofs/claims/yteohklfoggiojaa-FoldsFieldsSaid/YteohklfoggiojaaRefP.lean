/-
  The walks over the reference's Depth, Size, Parts.
-/
import Derived.Test.YteohklfoggiojaaPart2
import Derived.Test.YteohklfoggiojaaSubM
namespace Go.Proofs.Yteohklfoggiojaa
open Go.AL Go.RowKit
set_option linter.unusedSimpArgs false
set_option linter.unusedVariables false
set_option maxRecDepth 10000
set_option maxHeartbeats 4000000
def cutUp (l : List Node) (off k : Nat) : List Node := ((l.drop off).take k).map (mvN (-(off : Int)))
end Go.Proofs.Yteohklfoggiojaa
