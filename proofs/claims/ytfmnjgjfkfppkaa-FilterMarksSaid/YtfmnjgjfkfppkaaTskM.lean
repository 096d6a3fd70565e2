/-
  Messages, sends, entries of stores and tasks, in plain Lean: no program in sight.
-/
import Derived.Test.YtfmnjgjfkfppkaaEvM
namespace Go.Proofs.Ytfmnjgjfkfppkaa
open Go.AL
set_option linter.unusedSimpArgs false
set_option linter.unusedVariables false

instance : Inhabited Msg := ⟨⟨0, 0, 0, 0, 0, 0, 0, 0, 0, 0⟩⟩
structure Snd where
  out : Int
  m : Msg
  deriving DecidableEq, Inhabited
def Snd.cells (s : Snd) : List AV := .lit (.int .i64 s.out) :: s.m.cells
structure RowT where
  key : Int
  s : Int
  e : Int
  v0 : Int
  v1 : Int
  deriving DecidableEq, Inhabited
def RowT.cells (r : RowT) : List AV := [.lit (.int .i64 r.key), .lit (.int .i64 r.s), .lit (.int .i64 r.e), .lit (.int .i64 r.v0), .lit (.int .i64 r.v1)]
structure Rcd where
  key : Int
  t : Int
  v : Int
  deriving DecidableEq, Inhabited
def Rcd.cells (r : Rcd) : List AV := [.lit (.int .i64 r.key), .lit (.int .i64 r.t), .lit (.int .i64 r.v)]
structure Ent where
  key : Int
  s : Int
  e : Int
  c0 : Int
  s0 : Int
  m0 : Int
  x0 : Int
  c1 : Int
  s1 : Int
  m1 : Int
  x1 : Int
  deriving DecidableEq, Inhabited
def Ent.cells (r : Ent) : List AV := [.lit (.int .i64 r.key), .lit (.int .i64 r.s), .lit (.int .i64 r.e), .lit (.int .i64 r.c0), .lit (.int .i64 r.s0), .lit (.int .i64 r.m0), .lit (.int .i64 r.x0), .lit (.int .i64 r.c1), .lit (.int .i64 r.s1), .lit (.int .i64 r.m1), .lit (.int .i64 r.x1)]
def intC (x : Int) : List AV := [.lit (.int .i64 x)]
structure Tsk where
  kind : Int
  n : Int
  turn : Int
  pend : List Snd
  marks : List Int
  store : List Ent
  evs : List Ev
  rows : List RowT
  late : List Rcd
  deriving DecidableEq, Inhabited
/-- lists that are no longer than memory allows -/
structure Tsk.ok (t : Tsk) : Prop where
  p : t.pend.length ≤ maxLen
  m : t.marks.length ≤ maxLen
  s : t.store.length ≤ maxLen
  e : t.evs.length ≤ maxLen
  r : t.rows.length ≤ maxLen
  l : t.late.length ≤ maxLen
def sndsV (l : List Snd) : AV := .ro 11 (l.map Snd.cells)
def mksV (l : List Int) : AV := .ro 1 (l.map intC)
def entsV (l : List Ent) : AV := .ro 11 (l.map Ent.cells)
def rowsV (l : List RowT) : AV := .ro 5 (l.map RowT.cells)
def rcdsV (l : List Rcd) : AV := .ro 3 (l.map Rcd.cells)
def msgsV (l : List Msg) : AV := .ro 10 (l.map Msg.cells)
def Tsk.cells (t : Tsk) : List AV := [.lit (.int .u8 t.kind), .lit (.int .i64 t.n), .lit (.int .i64 t.turn), sndsV t.pend, mksV t.marks, entsV t.store, evsV t.evs, rowsV t.rows, rcdsV t.late]

/-! ### what is valid -/
def rowB (s e : Int) : Bool := decide (-2199023255552 ≤ s) && (decide (s < e) && decide (e ≤ 2199023255552))
def validM (m : Msg) : Bool :=
  if m.kind = 1 ∨ m.kind = 4 then isTimeB m.rt && decide (m.time = 0 ∧ m.r1 = 0 ∧ m.r2 = 0 ∧ m.r3 = 0 ∧ m.r4 = 0 ∧ m.r5 = 0)
  else if m.kind = 2 then markB m.time && decide (m.key = 0 ∧ m.rt = 0 ∧ m.value = 0 ∧ m.r1 = 0 ∧ m.r2 = 0 ∧ m.r3 = 0 ∧ m.r4 = 0 ∧ m.r5 = 0)
  else if m.kind = 3 then rowB m.r2 m.r3 && decide (m.key = 0 ∧ m.rt = 0 ∧ m.value = 0 ∧ m.time = 0)
  else false
def sendB (s : Snd) : Bool := decide (0 ≤ s.out ∧ s.out < 3) && validM s.m
def lowB (t : Int) : Bool := t == -9223372036854775808 || markB t
def accB (c s m x : Int) : Bool := decide ((c = 0 ∧ s = 0 ∧ m = 0 ∧ x = 0) ∨ (c = 1 ∧ s = m ∧ s = x) ∨ (1 < c ∧ c ≤ 1073741824 ∧ m ≤ x))
def rightE (r : Ent) : Bool := decide (-1100585369600 ≤ r.s ∧ r.s < r.e ∧ r.e ≤ 1100585369600) && (accB r.c0 r.s0 r.m0 r.x0 && (accB r.c1 r.s1 r.m1 r.x1 && decide (0 < r.c0 + r.c1)))
def lessE (a b : Ent) : Bool := decide (a.e < b.e ∨ (a.e = b.e ∧ (a.s < b.s ∨ (a.s = b.s ∧ a.key < b.key))))
/-- all numbers below n -/
def allN (n : Nat) (p : Nat → Bool) : Bool := (List.range n).all p
theorem allN_true {n : Nat} {p : Nat → Bool} (h : ∀ j, j < n → p j = true) : allN n p = true := by
  unfold allN
  rw [List.all_eq_true]
  exact fun j hj => h j (List.mem_range.1 hj)
theorem allN_false {n k : Nat} {p : Nat → Bool} (hk : k < n) (h : p k = false) : allN n p = false := by
  unfold allN
  rw [List.all_eq_false]
  exact ⟨k, List.mem_range.2 hk, by rw [h]; simp⟩
theorem allN_spec {n : Nat} {p : Nat → Bool} (h : allN n p = true) (k : Nat) (hk : k < n) : p k = true := by
  unfold allN at h
  exact List.all_eq_true.1 h k (List.mem_range.2 hk)
theorem allN_succ (n : Nat) (p : Nat → Bool) : allN (n + 1) p = (allN n p && p n) := by
  unfold allN
  rw [List.range_succ, List.all_append]
  simp
theorem allN_congr {n : Nat} {p q : Nat → Bool} (h : ∀ j, j < n → p j = q j) : allN n p = allN n q := by
  unfold allN
  rw [Bool.eq_iff_iff, List.all_eq_true, List.all_eq_true]
  exact ⟨fun h2 j hj => by rw [← h j (List.mem_range.1 hj)]; exact h2 j hj, fun h2 j hj => by rw [h j (List.mem_range.1 hj)]; exact h2 j hj⟩
def allL {α : Type} [Inhabited α] (l : List α) (p : α → Bool) : Bool := allN l.length fun k => p (l.getD k default)
theorem allL_all {α : Type} [Inhabited α] (l : List α) (p : α → Bool) : allL l p = l.all p := by
  unfold allL
  rw [Bool.eq_iff_iff, List.all_eq_true]
  constructor
  · intro h x hx
    obtain ⟨i, hi, rfl⟩ := List.getElem_of_mem hx
    have := allN_spec h i hi
    simpa [List.getD_eq_getElem?_getD, List.getElem?_eq_getElem hi] using this
  · intro h
    refine allN_true fun j hj => ?_
    have := h (l[j]) (List.getElem_mem hj)
    simpa [List.getD_eq_getElem?_getD, List.getElem?_eq_getElem hj] using this
def entAt (l : List Ent) (k : Nat) : Bool := rightE (l.getD k default) && (decide (k = 0) || lessE (l.getD (k - 1) default) (l.getD k default))
def storeE (l : List Ent) : Int := if 4000 < l.length then 4 else if allN l.length (entAt l) = true then 0 else 8
/-- as many of all as the kind allows -/
def keptB (t : Tsk) : Bool := decide (
  (t.kind = 1 ∧ t.marks.length = 0 ∧ t.store.length = 0 ∧ t.evs.length ≤ 60 ∧ t.rows.length = 0 ∧ t.late.length = 0) ∨
  (t.kind = 2 ∧ t.marks.length = 1 ∧ t.store.length = 0 ∧ t.evs.length = 0 ∧ t.rows.length = 0 ∧ t.late.length = 0) ∨
  (t.kind = 3 ∧ t.marks.length = 0 ∧ t.store.length = 0 ∧ t.evs.length = 0 ∧ t.rows.length = 0 ∧ t.late.length = 0) ∨
  (t.kind = 4 ∧ 1 ≤ t.marks.length ∧ t.marks.length ≤ 4 ∧ t.evs.length = 0 ∧ t.rows.length = 0 ∧ t.late.length = 0) ∨
  (t.kind = 5 ∧ t.marks.length = 2 ∧ t.evs.length = 0 ∧ t.rows.length = 0 ∧ t.late.length = 0) ∨
  (t.kind = 6 ∧ t.marks.length = 0 ∧ t.store.length = 0 ∧ t.evs.length = 0 ∧ t.rows.length ≤ 4000 ∧ t.late.length = 0) ∨
  (t.kind = 7 ∧ t.marks.length = 0 ∧ t.store.length = 0 ∧ t.evs.length = 0 ∧ t.rows.length = 0 ∧ t.late.length ≤ 4000))
def oneB (t : Tsk) (x : Ent) : Bool := !(t.kind == 4) || x.c1 == 0
def listsB (t : Tsk) : Bool := allL t.marks lowB && (allL t.evs okE && (allL t.rows (fun r => rowB r.s r.e) && allL t.late (fun r => isTimeB r.t)))
def numsB (t : Tsk) : Bool := decide (0 ≤ t.turn ∧ t.turn < 20 ∧ 0 ≤ t.n ∧ t.n < 4)
def goodT (t : Tsk) : Bool := numsB t && (decide (t.pend.length ≤ 4000) && (keptB t && (allL t.pend sendB && (decide (storeE t.store = 0) && (listsB t && allL t.store (oneB t))))))
def tskE (t : Tsk) : Int := if goodT t = true then 0 else 8
end Go.Proofs.Ytfmnjgjfkfppkaa
