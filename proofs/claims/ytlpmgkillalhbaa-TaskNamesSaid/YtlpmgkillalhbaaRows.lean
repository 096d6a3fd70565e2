/-
  No cell of these rows narrows 'for every input' (looked for: loops, veiled, ifaces, maps, wideKeys, modest, calm, conditions, laid).
  DERIVED. THE GIVEN ROWS OF THIS SEAT. 7 by the template 'for every input the law returns true; each argument reads behind the call as it read before'; 0 by the template 'total and deterministic' (their statements: YtlpmgkillalhbaaTotals.lean).
  GIVEN WITH THE SEED: the statements are not yours to turn. If you find one false, say at which input.
  Laid BY PROGRAM, IN A SANDBOX (cutbox-rows.mjs): the forced cells as the released guide's own fill.sh prints them over the translation 1c1c81ab8ebe73eb… (all of the seat's roots in one cut). By AI agents, Wed Nov 11 2026. No macro, syntax, notation, axiom, sorry.
-/
import Derived.Test.YtlpmgkillalhbaaChecked
import GoSem.Claim
import GoSem.ClaimJoined
import GoSem.ClaimMapViews
import Derived.JoinedTies
import Derived.KernelRfl
namespace Go.Proofs.Ytlpmgkillalhbaa
/- THE CELL 'sum', in the pinned program and in every row, IS THE sha256 OF THE DUMP (.gsa) THAT YtlpmgkillalhbaaProg.lean LOADS. Nothing in Lean hashes anything: it is a label: what it is worth is what the hold of that sum in a sandbox is worth. -/
noncomputable def Try.pinned : Pinned := { name := "ytlpmgkillalhbaa", sum := "1c1c81ab8ebe73eb52308a7e5d54bbf2e0b6c73a63d70d6a755376498ccfd7b4", checked := Try.checked }
namespace Rows
def none {H : Type} : Left H := { results := [], args := [] }

/-- 'tailwaterlaw27.TaskIdle': WHATEVER THE INPUT: true; the input reads as it did. -/
def taskIdleSpec : ChangeSpec := { name := "taskIdle", fn := fun _ => fun
  | [d1, d2, d3] => { results := [.lit (.bool true)], args := [d1, d2, d3] }
  | _ => none }
def taskIdleRow : OpenClaim := { program := "ytlpmgkillalhbaa", sum := "1c1c81ab8ebe73eb52308a7e5d54bbf2e0b6c73a63d70d6a755376498ccfd7b4", func := "tailwater/tailwaterlaw27.TaskIdle", spec := "taskIdle", apart := false }
def TaskIdleSaid : Prop := taskIdleRow.holds Try.pinned (OpenSpec.ofChange taskIdleSpec)

/-- ITS FALSE NEIGHBOUR: 'it returns false'. Refute it at one input. -/
def taskIdleWrong : ChangeSpec := { name := "taskIdle", fn := fun _ => fun
  | [d1, d2, d3] => { results := [.lit (.bool false)], args := [d1, d2, d3] }
  | _ => none }
def TaskIdleWrongFalsely : Prop := taskIdleRow.holds Try.pinned (OpenSpec.ofChange taskIdleWrong)

/-- 'tailwaterlaw27.TaskTells': WHATEVER THE INPUT: true; the input reads as it did. -/
def taskTellsSpec : ChangeSpec := { name := "taskTells", fn := fun _ => fun
  | [d1, d2, d3] => { results := [.lit (.bool true)], args := [d1, d2, d3] }
  | _ => none }
def taskTellsRow : OpenClaim := { program := "ytlpmgkillalhbaa", sum := "1c1c81ab8ebe73eb52308a7e5d54bbf2e0b6c73a63d70d6a755376498ccfd7b4", func := "tailwater/tailwaterlaw27.TaskTells", spec := "taskTells", apart := false }
def TaskTellsSaid : Prop := taskTellsRow.holds Try.pinned (OpenSpec.ofChange taskTellsSpec)

/-- ITS FALSE NEIGHBOUR: 'it returns false'. Refute it at one input. -/
def taskTellsWrong : ChangeSpec := { name := "taskTells", fn := fun _ => fun
  | [d1, d2, d3] => { results := [.lit (.bool false)], args := [d1, d2, d3] }
  | _ => none }
def TaskTellsWrongFalsely : Prop := taskTellsRow.holds Try.pinned (OpenSpec.ofChange taskTellsWrong)

/-- 'tailwaterlaw27.TaskTurns': WHATEVER THE INPUT: true; the input reads as it did. -/
def taskTurnsSpec : ChangeSpec := { name := "taskTurns", fn := fun _ => fun
  | [d1, d2] => { results := [.lit (.bool true)], args := [d1, d2] }
  | _ => none }
def taskTurnsRow : OpenClaim := { program := "ytlpmgkillalhbaa", sum := "1c1c81ab8ebe73eb52308a7e5d54bbf2e0b6c73a63d70d6a755376498ccfd7b4", func := "tailwater/tailwaterlaw27.TaskTurns", spec := "taskTurns", apart := false }
def TaskTurnsSaid : Prop := taskTurnsRow.holds Try.pinned (OpenSpec.ofChange taskTurnsSpec)

/-- ITS FALSE NEIGHBOUR: 'it returns false'. Refute it at one input. -/
def taskTurnsWrong : ChangeSpec := { name := "taskTurns", fn := fun _ => fun
  | [d1, d2] => { results := [.lit (.bool false)], args := [d1, d2] }
  | _ => none }
def TaskTurnsWrongFalsely : Prop := taskTurnsRow.holds Try.pinned (OpenSpec.ofChange taskTurnsWrong)

/-- 'tailwaterlaw27.TaskPends': WHATEVER THE INPUT: true; the input reads as it did. -/
def taskPendsSpec : ChangeSpec := { name := "taskPends", fn := fun _ => fun
  | [d1, d2, d3] => { results := [.lit (.bool true)], args := [d1, d2, d3] }
  | _ => none }
def taskPendsRow : OpenClaim := { program := "ytlpmgkillalhbaa", sum := "1c1c81ab8ebe73eb52308a7e5d54bbf2e0b6c73a63d70d6a755376498ccfd7b4", func := "tailwater/tailwaterlaw27.TaskPends", spec := "taskPends", apart := false }
def TaskPendsSaid : Prop := taskPendsRow.holds Try.pinned (OpenSpec.ofChange taskPendsSpec)

/-- ITS FALSE NEIGHBOUR: 'it returns false'. Refute it at one input. -/
def taskPendsWrong : ChangeSpec := { name := "taskPends", fn := fun _ => fun
  | [d1, d2, d3] => { results := [.lit (.bool false)], args := [d1, d2, d3] }
  | _ => none }
def TaskPendsWrongFalsely : Prop := taskPendsRow.holds Try.pinned (OpenSpec.ofChange taskPendsWrong)

/-- 'tailwaterlaw27.TaskSends': WHATEVER THE INPUT: true; the input reads as it did. -/
def taskSendsSpec : ChangeSpec := { name := "taskSends", fn := fun _ => fun
  | [d1, d2, d3] => { results := [.lit (.bool true)], args := [d1, d2, d3] }
  | _ => none }
def taskSendsRow : OpenClaim := { program := "ytlpmgkillalhbaa", sum := "1c1c81ab8ebe73eb52308a7e5d54bbf2e0b6c73a63d70d6a755376498ccfd7b4", func := "tailwater/tailwaterlaw27.TaskSends", spec := "taskSends", apart := false }
def TaskSendsSaid : Prop := taskSendsRow.holds Try.pinned (OpenSpec.ofChange taskSendsSpec)

/-- ITS FALSE NEIGHBOUR: 'it returns false'. Refute it at one input. -/
def taskSendsWrong : ChangeSpec := { name := "taskSends", fn := fun _ => fun
  | [d1, d2, d3] => { results := [.lit (.bool false)], args := [d1, d2, d3] }
  | _ => none }
def TaskSendsWrongFalsely : Prop := taskSendsRow.holds Try.pinned (OpenSpec.ofChange taskSendsWrong)

/-- 'tailwaterlaw27.TaskSent': WHATEVER THE INPUT: true; the input reads as it did. -/
def taskSentSpec : ChangeSpec := { name := "taskSent", fn := fun _ => fun
  | [d1, d2, d3] => { results := [.lit (.bool true)], args := [d1, d2, d3] }
  | _ => none }
def taskSentRow : OpenClaim := { program := "ytlpmgkillalhbaa", sum := "1c1c81ab8ebe73eb52308a7e5d54bbf2e0b6c73a63d70d6a755376498ccfd7b4", func := "tailwater/tailwaterlaw27.TaskSent", spec := "taskSent", apart := false }
def TaskSentSaid : Prop := taskSentRow.holds Try.pinned (OpenSpec.ofChange taskSentSpec)

/-- ITS FALSE NEIGHBOUR: 'it returns false'. Refute it at one input. -/
def taskSentWrong : ChangeSpec := { name := "taskSent", fn := fun _ => fun
  | [d1, d2, d3] => { results := [.lit (.bool false)], args := [d1, d2, d3] }
  | _ => none }
def TaskSentWrongFalsely : Prop := taskSentRow.holds Try.pinned (OpenSpec.ofChange taskSentWrong)

/-- 'tailwaterlaw27.TaskNames': WHATEVER THE INPUT: true; the input reads as it did. -/
def taskNamesSpec : ChangeSpec := { name := "taskNames", fn := fun _ => fun
  | [] => { results := [.lit (.bool true)], args := [] }
  | _ => none }
def taskNamesRow : OpenClaim := { program := "ytlpmgkillalhbaa", sum := "1c1c81ab8ebe73eb52308a7e5d54bbf2e0b6c73a63d70d6a755376498ccfd7b4", func := "tailwater/tailwaterlaw27.TaskNames", spec := "taskNames", apart := false }
def TaskNamesSaid : Prop := taskNamesRow.holds Try.pinned (OpenSpec.ofChange taskNamesSpec)

/-- ITS FALSE NEIGHBOUR: 'it returns false'. Refute it at one input. -/
def taskNamesWrong : ChangeSpec := { name := "taskNames", fn := fun _ => fun
  | [] => { results := [.lit (.bool false)], args := [] }
  | _ => none }
def TaskNamesWrongFalsely : Prop := taskNamesRow.holds Try.pinned (OpenSpec.ofChange taskNamesWrong)

/- THE SECOND FORM. 'bulk': how many values and letters a reading holds, each counted each time it is reached (what is shared counts as often as it is met; a slice's spare places count too). A statement '..UptoSaid' is the law's where the arguments, and the package variables that the reading takes, are together of bulk at most 1048576: NARROWER than '..Said'. Prove '..Said' where nothing that the law and all that it calls make is longer than what came in: it says more and counts as full. Else prove '..UptoSaid'. A law counts once. -/
mutual
def uptoBulk {H : Type} : DataW H → Nat
  | .lit (.string bytes) => bytes.length + 1
  | .lit _ => 1
  | .nil => 1
  | .ptr d => uptoBulk d + 1
  | .slice elems spare => uptoBulkAll elems + uptoBulkAll spare + 1
  | .agg parts => uptoBulkAll parts + 1
  | .iface _ d => uptoBulk d + 1
  | .map entries => uptoBulkEntries entries + 1
  | .held _ => 1
def uptoBulkAll {H : Type} : List (DataW H) → Nat
  | [] => 0
  | d :: r => uptoBulk d + uptoBulkAll r
def uptoBulkEntries {H : Type} : List (Lit × DataW H) → Nat
  | [] => 0
  | x :: r => uptoBulkEntry x + uptoBulkEntries r
def uptoBulkEntry {H : Type} : Lit × DataW H → Nat
  | (.string bytes, d) => bytes.length + uptoBulk d + 1
  | (_, d) => uptoBulk d + 1
 end
def uptoSmall : (H : Type) → List (DataW H) → Bool := fun _ ds => decide (uptoBulkAll ds ≤ 1048576)
def OpenSpec.upto (s : _root_.Go.ChangeSpec) : _root_.Go.OpenSpec := { _root_.Go.OpenSpec.ofChange s with cond := some uptoSmall }

/-- 'tailwaterlaw27.TaskIdle', WHERE WHAT IT READS IS OF BULK AT MOST 1048576: true; the input reads as it did. -/
def taskIdleUptoRow : OpenClaim := { program := "ytlpmgkillalhbaa", sum := "1c1c81ab8ebe73eb52308a7e5d54bbf2e0b6c73a63d70d6a755376498ccfd7b4", func := "tailwater/tailwaterlaw27.TaskIdle", spec := "taskIdle", apart := false, narrowed := true }
def TaskIdleUptoSaid : Prop := taskIdleUptoRow.holds Try.pinned (OpenSpec.upto taskIdleSpec)

/-- 'tailwaterlaw27.TaskTells', WHERE WHAT IT READS IS OF BULK AT MOST 1048576: true; the input reads as it did. -/
def taskTellsUptoRow : OpenClaim := { program := "ytlpmgkillalhbaa", sum := "1c1c81ab8ebe73eb52308a7e5d54bbf2e0b6c73a63d70d6a755376498ccfd7b4", func := "tailwater/tailwaterlaw27.TaskTells", spec := "taskTells", apart := false, narrowed := true }
def TaskTellsUptoSaid : Prop := taskTellsUptoRow.holds Try.pinned (OpenSpec.upto taskTellsSpec)

/-- 'tailwaterlaw27.TaskTurns', WHERE WHAT IT READS IS OF BULK AT MOST 1048576: true; the input reads as it did. -/
def taskTurnsUptoRow : OpenClaim := { program := "ytlpmgkillalhbaa", sum := "1c1c81ab8ebe73eb52308a7e5d54bbf2e0b6c73a63d70d6a755376498ccfd7b4", func := "tailwater/tailwaterlaw27.TaskTurns", spec := "taskTurns", apart := false, narrowed := true }
def TaskTurnsUptoSaid : Prop := taskTurnsUptoRow.holds Try.pinned (OpenSpec.upto taskTurnsSpec)

/-- 'tailwaterlaw27.TaskPends', WHERE WHAT IT READS IS OF BULK AT MOST 1048576: true; the input reads as it did. -/
def taskPendsUptoRow : OpenClaim := { program := "ytlpmgkillalhbaa", sum := "1c1c81ab8ebe73eb52308a7e5d54bbf2e0b6c73a63d70d6a755376498ccfd7b4", func := "tailwater/tailwaterlaw27.TaskPends", spec := "taskPends", apart := false, narrowed := true }
def TaskPendsUptoSaid : Prop := taskPendsUptoRow.holds Try.pinned (OpenSpec.upto taskPendsSpec)

/-- 'tailwaterlaw27.TaskSends', WHERE WHAT IT READS IS OF BULK AT MOST 1048576: true; the input reads as it did. -/
def taskSendsUptoRow : OpenClaim := { program := "ytlpmgkillalhbaa", sum := "1c1c81ab8ebe73eb52308a7e5d54bbf2e0b6c73a63d70d6a755376498ccfd7b4", func := "tailwater/tailwaterlaw27.TaskSends", spec := "taskSends", apart := false, narrowed := true }
def TaskSendsUptoSaid : Prop := taskSendsUptoRow.holds Try.pinned (OpenSpec.upto taskSendsSpec)

/-- 'tailwaterlaw27.TaskSent', WHERE WHAT IT READS IS OF BULK AT MOST 1048576: true; the input reads as it did. -/
def taskSentUptoRow : OpenClaim := { program := "ytlpmgkillalhbaa", sum := "1c1c81ab8ebe73eb52308a7e5d54bbf2e0b6c73a63d70d6a755376498ccfd7b4", func := "tailwater/tailwaterlaw27.TaskSent", spec := "taskSent", apart := false, narrowed := true }
def TaskSentUptoSaid : Prop := taskSentUptoRow.holds Try.pinned (OpenSpec.upto taskSentSpec)

/-- 'tailwaterlaw27.TaskNames', WHERE WHAT IT READS IS OF BULK AT MOST 1048576: true; the input reads as it did. -/
def taskNamesUptoRow : OpenClaim := { program := "ytlpmgkillalhbaa", sum := "1c1c81ab8ebe73eb52308a7e5d54bbf2e0b6c73a63d70d6a755376498ccfd7b4", func := "tailwater/tailwaterlaw27.TaskNames", spec := "taskNames", apart := false, narrowed := true }
def TaskNamesUptoSaid : Prop := taskNamesUptoRow.holds Try.pinned (OpenSpec.upto taskNamesSpec)

end Rows
end Go.Proofs.Ytlpmgkillalhbaa
