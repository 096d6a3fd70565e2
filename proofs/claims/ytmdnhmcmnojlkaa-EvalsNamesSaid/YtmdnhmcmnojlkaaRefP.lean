/-
  The walks over the reference's Depth, Size, Parts.
-/
import Derived.Test.YtmdnhmcmnojlkaaPart2
import Derived.Test.YtmdnhmcmnojlkaaSubM
namespace Go.Proofs.Ytmdnhmcmnojlkaa
open Go.AL Go.RowKit
set_option linter.unusedSimpArgs false
set_option linter.unusedVariables false
set_option maxRecDepth 10000
set_option maxHeartbeats 4000000

/-- the reference's cut, of a valid expression -/
def cutUp (l : List Node) (off k : Nat) : List Node := ((l.drop off).take k).map (mvN (-(off : Int)))
end Go.Proofs.Ytmdnhmcmnojlkaa
