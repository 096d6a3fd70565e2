/-
  Events of a source, in plain Lean: no program in sight.
-/
import Derived.Test.YteohklfoggiojaaAbsS
namespace Go.Proofs.Yteohklfoggiojaa
open Go.AL
set_option linter.unusedSimpArgs false
set_option linter.unusedVariables false
structure Ev where
  mark : Bool
  time : Int
  key : Int
  rt : Int
  value : Int
  deriving DecidableEq, Inhabited
def Ev.cells (e : Ev) : List AV := [.lit (.bool e.mark), .lit (.int .i64 e.time), .lit (.int .i64 e.key), .lit (.int .i64 e.rt), .lit (.int .i64 e.value)]
def evsV (l : List Ev) : AV := .ro 5 (l.map Ev.cells)
def isTimeB (t : Int) : Bool := decide (-1099511627776 ≤ t) && decide (t ≤ 1099511627776)
def markB (t : Int) : Bool := isTimeB t || t == 9223372036854775807
structure Msg where
  kind : Int
  key : Int
  rt : Int
  value : Int
  time : Int
  r1 : Int
  r2 : Int
  r3 : Int
  r4 : Int
  r5 : Int
  deriving DecidableEq, Inhabited
def Msg.cells (m : Msg) : List AV := [.lit (.int .u8 m.kind), .lit (.int .i64 m.key), .lit (.int .i64 m.rt), .lit (.int .i64 m.value), .lit (.int .i64 m.time),
  .lit (.int .i64 m.r1), .lit (.int .i64 m.r2), .lit (.int .i64 m.r3), .lit (.int .i64 m.r4), .lit (.int .i64 m.r5)]
end Go.Proofs.Yteohklfoggiojaa
