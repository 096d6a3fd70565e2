/-
  Queues, and what a task does with them, in plain Lean: no program in sight.
-/
import Derived.Test.YtlpmgkillalhbaaTskW7
namespace Go.Proofs.Ytlpmgkillalhbaa
open Go.AL
set_option linter.unusedSimpArgs false
set_option linter.unusedVariables false

structure Que where
  room : Int
  list : List Msg
  deriving DecidableEq, Inhabited
def Que.cells (q : Que) : List AV := [.lit (.int .i64 q.room), .ro 10 (q.list.map Msg.cells)]
def quesV (l : List Que) : AV := .ro 2 (l.map Que.cells)
def goodQ (q : Que) : Bool := decide (1 ≤ q.room ∧ q.room ≤ 8 ∧ (q.list.length : Int) ≤ q.room) && q.list.all validM
def queE (q : Que) : Int := if goodQ q = true then 0 else 8
def greatQu (q : Que) : Bool := decide (20 < q.list.length)
def greatQs (l : List Que) : Bool := (l.take 11).any greatQu || decide (10 < l.length)
def askQ (t : Tsk) (ins outs : List Que) : Int := if tskE t ≠ 0 then tskE t else if 4 < ins.length ∨ 3 < outs.length then 4 else if (ins ++ outs).all goodQ = true then 0 else 8
theorem askQ_0 {t : Tsk} {ins outs : List Que} (h : askQ t ins outs = 0) : tskE t = 0 ∧ ins.length ≤ 4 ∧ outs.length ≤ 3 ∧ (∀ q ∈ ins, goodQ q = true) ∧ (∀ q ∈ outs, goodQ q = true) := by
  unfold askQ at h
  split at h
  · omega
  · split at h
    · omega
    · split at h
      · rename_i g1 g2 g3
        rw [List.all_eq_true] at g3
        exact ⟨Classical.not_not.1 g1, by omega, by omega, fun q hq => g3 q (by simp [hq]), fun q hq => g3 q (by simp [hq])⟩
      · omega
theorem goodQ_bd {q : Que} (h : goodQ q = true) : 1 ≤ q.room ∧ q.room ≤ 8 ∧ (q.list.length : Int) ≤ q.room ∧ ∀ m ∈ q.list, validM m = true := by
  unfold goodQ at h
  simp only [Bool.and_eq_true, decide_eq_true_eq, List.all_eq_true] at h
  exact ⟨h.1.1, h.1.2.1, h.1.2.2, h.2⟩
/-- the first input from a place on that is not empty -/
def firstAt (s : Nat) (ins : List Que) (i : Nat) : Nat := (s + i) % ins.length
def hasQ (ins : List Que) (k : Nat) : Bool := decide (0 < (ins.getD k default).list.length)
def firstIx (s : Nat) (ins : List Que) : Nat → Nat → Int
  | 0, _ => -1
  | d + 1, i => if hasQ ins (firstAt s ins i) = true then (firstAt s ins i : Int) else firstIx s ins d (i + 1)
def firstQ (turn : Int) (ins : List Que) : Int := firstIx (if (ins.length : Int) ≤ turn then 0 else turn.toNat) ins ins.length 0
theorem firstIx_spec (s : Nat) (ins : List Que) : ∀ d i, (firstIx s ins d i = -1 ∧ ∀ j, i ≤ j → j < i + d → hasQ ins (firstAt s ins j) = false) ∨
    ∃ j, i ≤ j ∧ j < i + d ∧ hasQ ins (firstAt s ins j) = true ∧ (∀ j', i ≤ j' → j' < j → hasQ ins (firstAt s ins j') = false) ∧ firstIx s ins d i = (firstAt s ins j : Int)
  | 0, i => .inl ⟨rfl, fun j h1 h2 => by omega⟩
  | d + 1, i => by
    unfold firstIx
    by_cases h : hasQ ins (firstAt s ins i) = true
    · rw [if_pos h]
      exact .inr ⟨i, Nat.le_refl _, by omega, h, fun j h1 h2 => by omega, rfl⟩
    · rw [if_neg h]
      rcases firstIx_spec s ins d (i + 1) with ⟨h1, h2⟩ | ⟨j, h1, h2, h3, h4, h5⟩
      · refine .inl ⟨h1, fun j g1 g2 => ?_⟩
        by_cases e : j = i
        · rw [e]; exact Bool.not_eq_true _ ▸ h
        · exact h2 j (by omega) (by omega)
      · refine .inr ⟨j, by omega, by omega, h3, fun j' g1 g2 => ?_, h5⟩
        by_cases e : j' = i
        · rw [e]; exact Bool.not_eq_true _ ▸ h
        · exact h4 j' (by omega) g2
def outsB (t : Tsk) (outs : List Que) : Bool := t.pend.all fun s => decide (s.out < (outs.length : Int))
def enaE (t : Tsk) (ins outs : List Que) : Int := if askQ t ins outs ≠ 0 then askQ t ins outs else if outsB t outs = true then 0 else 2
def roomB (q : Que) : Bool := decide ((q.list.length : Int) < q.room)
def ableB (t : Tsk) (ins outs : List Que) : Bool := match t.pend with
  | s :: _ => roomB (outs.getD s.out.toNat default)
  | [] => if t.kind = 1 then decide (0 < t.evs.length) else decide (0 ≤ firstQ 0 ins)
def enaB (t : Tsk) (ins outs : List Que) : Bool := if enaE t ins outs = 0 then ableB t ins outs else false
def turnE (t : Tsk) (ins : List Que) : Int := if askQ t ins [] ≠ 0 then askQ t ins [] else if firstQ t.turn ins < 0 ∨ 0 < t.pend.length then 6 else 0
def turnK (t : Tsk) (ins : List Que) : Int := if turnE t ins = 0 then firstQ t.turn ins else 0
def turnT (t : Tsk) (ins : List Que) : Tsk := if turnE t ins = 0 then { t with turn := (firstQ t.turn ins + 1) % (ins.length : Int) } else zeroT
def sendE (t : Tsk) (outs : List Que) : Int := if askQ t [] outs ≠ 0 then askQ t [] outs else match t.pend with
  | [] => 6
  | s :: _ => if (outs.length : Int) ≤ s.out then 2 else if roomB (outs.getD s.out.toNat default) = true then 0 else 18
def putQ (q : Que) (m : Msg) : Que := ⟨q.room, q.list ++ [m]⟩
def sendT (t : Tsk) (outs : List Que) : Tsk := if sendE t outs = 0 then { t with pend := t.pend.tail } else zeroT
def sendL (t : Tsk) (outs : List Que) : List Que := if sendE t outs = 0 then (match t.pend with
  | [] => []
  | s :: _ => outs.set s.out.toNat (putQ (outs.getD s.out.toNat default) s.m)) else []
end Go.Proofs.Ytlpmgkillalhbaa
