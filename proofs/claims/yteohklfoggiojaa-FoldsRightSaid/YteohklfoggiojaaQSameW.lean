/-
  The walks over Twin and Same of queries.
-/
import Derived.Test.YteohklfoggiojaaQryW
import Derived.Test.YteohklfoggiojaaPlnM
import Derived.Test.YteohklfoggiojaaEqualW
namespace Go.Proofs.Yteohklfoggiojaa
open Go.AL Go.RowKit
set_option linter.unusedSimpArgs false
set_option linter.unusedVariables false
set_option maxRecDepth 10000
set_option maxHeartbeats 4000000
def alikeQ (p q : Qry) : Bool := (p.agg == q.agg) && (p.join == q.join) && decide (p.win = q.win) && (p.byKey == q.byKey) && (p.late == q.late) && decide (p.src = q.src) && sameN p.arg q.arg && sameN p.wh q.wh
end Go.Proofs.Yteohklfoggiojaa
