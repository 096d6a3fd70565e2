/-
  The walks over a source's step: of the program and of the reference.
-/
import Derived.Test.YtjeehkdepoiegaaGreatSrcW
import Derived.Test.YtjeehkdepoiegaaGreatAbsRV
namespace Go.Proofs.YtjeehkdepoiegaaGreat
open Go.AL Go.RowKit
set_option linter.unusedSimpArgs false
set_option linter.unusedVariables false
set_option maxRecDepth 10000
set_option maxHeartbeats 8000000
def stepE (t : Tsk) : Int := if askE t ≠ 0 then askE t else if 0 < t.pend.length then 18 else if t.evs.length = 0 then 6 else 0
def stepT (t : Tsk) : Tsk := if stepE t = 0 then { t with pend := [⟨0, told (t.evs.getD 0 default)⟩], evs := t.evs.tail } else zeroT
end Go.Proofs.YtjeehkdepoiegaaGreat
