/-
  Messages, sends, entries of stores and tasks, in plain Lean: no program in sight.
-/
import Derived.Test.YteohklfoggiojaaEvM
namespace Go.Proofs.Yteohklfoggiojaa
open Go.AL
set_option linter.unusedSimpArgs false
set_option linter.unusedVariables false
instance : Inhabited Msg := ⟨⟨0, 0, 0, 0, 0, 0, 0, 0, 0, 0⟩⟩
structure Snd where
  out : Int
  m : Msg
  deriving DecidableEq, Inhabited
def Snd.cells (s : Snd) : List AV := .lit (.int .i64 s.out) :: s.m.cells
structure RowT where
  key : Int
  s : Int
  e : Int
  v0 : Int
  v1 : Int
  deriving DecidableEq, Inhabited
def RowT.cells (r : RowT) : List AV := [.lit (.int .i64 r.key), .lit (.int .i64 r.s), .lit (.int .i64 r.e), .lit (.int .i64 r.v0), .lit (.int .i64 r.v1)]
structure Rcd where
  key : Int
  t : Int
  v : Int
  deriving DecidableEq, Inhabited
def Rcd.cells (r : Rcd) : List AV := [.lit (.int .i64 r.key), .lit (.int .i64 r.t), .lit (.int .i64 r.v)]
structure Ent where
  key : Int
  s : Int
  e : Int
  c0 : Int
  s0 : Int
  m0 : Int
  x0 : Int
  c1 : Int
  s1 : Int
  m1 : Int
  x1 : Int
  deriving DecidableEq, Inhabited
def Ent.cells (r : Ent) : List AV := [.lit (.int .i64 r.key), .lit (.int .i64 r.s), .lit (.int .i64 r.e), .lit (.int .i64 r.c0), .lit (.int .i64 r.s0), .lit (.int .i64 r.m0), .lit (.int .i64 r.x0), .lit (.int .i64 r.c1), .lit (.int .i64 r.s1), .lit (.int .i64 r.m1), .lit (.int .i64 r.x1)]
def intC (x : Int) : List AV := [.lit (.int .i64 x)]
structure Tsk where
  kind : Int
  n : Int
  turn : Int
  pend : List Snd
  marks : List Int
  store : List Ent
  evs : List Ev
  rows : List RowT
  late : List Rcd
  deriving DecidableEq, Inhabited
structure Tsk.ok (t : Tsk) : Prop where
  p : t.pend.length ≤ maxLen
  m : t.marks.length ≤ maxLen
  s : t.store.length ≤ maxLen
  e : t.evs.length ≤ maxLen
  r : t.rows.length ≤ maxLen
  l : t.late.length ≤ maxLen
def sndsV (l : List Snd) : AV := .ro 11 (l.map Snd.cells)
def mksV (l : List Int) : AV := .ro 1 (l.map intC)
def entsV (l : List Ent) : AV := .ro 11 (l.map Ent.cells)
def rowsV (l : List RowT) : AV := .ro 5 (l.map RowT.cells)
def rcdsV (l : List Rcd) : AV := .ro 3 (l.map Rcd.cells)
def Tsk.cells (t : Tsk) : List AV := [.lit (.int .u8 t.kind), .lit (.int .i64 t.n), .lit (.int .i64 t.turn), sndsV t.pend, mksV t.marks, entsV t.store, evsV t.evs, rowsV t.rows, rcdsV t.late]
/-! ### what is valid -/
def lowB (t : Int) : Bool := t == -9223372036854775808 || markB t
end Go.Proofs.Yteohklfoggiojaa
