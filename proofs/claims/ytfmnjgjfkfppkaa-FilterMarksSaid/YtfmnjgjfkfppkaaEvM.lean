/-
  Events of a source, in plain Lean: no program in sight.
-/
import Derived.Test.YtfmnjgjfkfppkaaAbsS
namespace Go.Proofs.Ytfmnjgjfkfppkaa
open Go.AL
set_option linter.unusedSimpArgs false
set_option linter.unusedVariables false

structure Ev where
  mark : Bool
  time : Int
  key : Int
  rt : Int
  value : Int
  deriving DecidableEq, Inhabited
def Ev.cells (e : Ev) : List AV := [.lit (.bool e.mark), .lit (.int .i64 e.time), .lit (.int .i64 e.key), .lit (.int .i64 e.rt), .lit (.int .i64 e.value)]
def evsV (l : List Ev) : AV := .ro 5 (l.map Ev.cells)
def isTimeB (t : Int) : Bool := decide (-1099511627776 ≤ t) && decide (t ≤ 1099511627776)
def markB (t : Int) : Bool := isTimeB t || t == 9223372036854775807
def okE (e : Ev) : Bool := if e.mark = true then markB e.time && (e.key == 0 && (e.rt == 0 && e.value == 0)) else e.time == 0 && isTimeB e.rt
def errE (e : Ev) : Int := if okE e = true then 0 else 8
/-- a message: its kind, its record, its time, its row -/
structure Msg where
  kind : Int
  key : Int
  rt : Int
  value : Int
  time : Int
  r1 : Int
  r2 : Int
  r3 : Int
  r4 : Int
  r5 : Int
  deriving DecidableEq, Inhabited
def Msg.cells (m : Msg) : List AV := [.lit (.int .u8 m.kind), .lit (.int .i64 m.key), .lit (.int .i64 m.rt), .lit (.int .i64 m.value), .lit (.int .i64 m.time),
  .lit (.int .i64 m.r1), .lit (.int .i64 m.r2), .lit (.int .i64 m.r3), .lit (.int .i64 m.r4), .lit (.int .i64 m.r5)]
def msgE (e : Ev) : Msg :=
  if okE e = true then (if e.mark = true then ⟨2, 0, 0, 0, e.time, 0, 0, 0, 0, 0⟩ else ⟨1, e.key, e.rt, e.value, 0, 0, 0, 0, 0, 0⟩) else ⟨0, 0, 0, 0, 0, 0, 0, 0, 0, 0⟩
end Go.Proofs.Ytfmnjgjfkfppkaa
