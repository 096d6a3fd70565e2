/-
  No cell of these rows narrows 'for every input' (looked for: loops, veiled, ifaces, maps, wideKeys, modest, calm, conditions, laid).
  DERIVED. THE GIVEN ROWS OF THIS SEAT. 6 by the template 'for every input the law returns true; each argument reads behind the call as it read before'; 0 by the template 'total and deterministic' (their statements: YtmdnhmcmnojlkaaTotals.lean).
  GIVEN WITH THE SEED: the statements are not yours to turn. If you find one false, say at which input.
  Laid BY PROGRAM, IN A SANDBOX (cutbox-rows.mjs): the forced cells as the released guide's own fill.sh prints them over the translation 27e49db68385f54f… (all of the seat's roots in one cut). By AI agents, Wed Nov 11 2026. No macro, syntax, notation, axiom, sorry.
-/
import Derived.Test.YtmdnhmcmnojlkaaChecked
import GoSem.Claim
import GoSem.ClaimJoined
import GoSem.ClaimMapViews
import Derived.JoinedTies
import Derived.KernelRfl
namespace Go.Proofs.Ytmdnhmcmnojlkaa
/- THE CELL 'sum', in the pinned program and in every row, IS THE sha256 OF THE DUMP (.gsa) THAT YtmdnhmcmnojlkaaProg.lean LOADS. Nothing in Lean hashes anything: it is a label: what it is worth is what the hold of that sum in a sandbox is worth. -/
noncomputable def Try.pinned : Pinned := { name := "ytmdnhmcmnojlkaa", sum := "27e49db68385f54f13a4754769ce4e2b4b4969b437b308634443ca2e506a5dbf", checked := Try.checked }
namespace Rows
def none {H : Type} : Left H := { results := [], args := [] }

/-- 'tailwaterlaw07.EvalsTruth': WHATEVER THE INPUT: true; the input reads as it did. -/
def evalsTruthSpec : ChangeSpec := { name := "evalsTruth", fn := fun _ => fun
  | [d1, d2] => { results := [.lit (.bool true)], args := [d1, d2] }
  | _ => none }
def evalsTruthRow : OpenClaim := { program := "ytmdnhmcmnojlkaa", sum := "27e49db68385f54f13a4754769ce4e2b4b4969b437b308634443ca2e506a5dbf", func := "tailwater/tailwaterlaw07.EvalsTruth", spec := "evalsTruth", unfollowed := true, recurses := true, apart := false }
def EvalsTruthSaid : Prop := evalsTruthRow.holds Try.pinned (OpenSpec.ofChange evalsTruthSpec)

/-- ITS FALSE NEIGHBOUR: 'it returns false'. Refute it at one input. -/
def evalsTruthWrong : ChangeSpec := { name := "evalsTruth", fn := fun _ => fun
  | [d1, d2] => { results := [.lit (.bool false)], args := [d1, d2] }
  | _ => none }
def EvalsTruthWrongFalsely : Prop := evalsTruthRow.holds Try.pinned (OpenSpec.ofChange evalsTruthWrong)

/-- 'tailwaterlaw07.EvalsNames': WHATEVER THE INPUT: true; the input reads as it did. -/
def evalsNamesSpec : ChangeSpec := { name := "evalsNames", fn := fun _ => fun
  | [] => { results := [.lit (.bool true)], args := [] }
  | _ => none }
def evalsNamesRow : OpenClaim := { program := "ytmdnhmcmnojlkaa", sum := "27e49db68385f54f13a4754769ce4e2b4b4969b437b308634443ca2e506a5dbf", func := "tailwater/tailwaterlaw07.EvalsNames", spec := "evalsNames", unfollowed := true, recurses := true, apart := false }
def EvalsNamesSaid : Prop := evalsNamesRow.holds Try.pinned (OpenSpec.ofChange evalsNamesSpec)

/-- ITS FALSE NEIGHBOUR: 'it returns false'. Refute it at one input. -/
def evalsNamesWrong : ChangeSpec := { name := "evalsNames", fn := fun _ => fun
  | [] => { results := [.lit (.bool false)], args := [] }
  | _ => none }
def EvalsNamesWrongFalsely : Prop := evalsNamesRow.holds Try.pinned (OpenSpec.ofChange evalsNamesWrong)

/-- 'tailwaterlaw07.EvalsTells': WHATEVER THE INPUT: true; the input reads as it did. -/
def evalsTellsSpec : ChangeSpec := { name := "evalsTells", fn := fun _ => fun
  | [d1, d2] => { results := [.lit (.bool true)], args := [d1, d2] }
  | _ => none }
def evalsTellsRow : OpenClaim := { program := "ytmdnhmcmnojlkaa", sum := "27e49db68385f54f13a4754769ce4e2b4b4969b437b308634443ca2e506a5dbf", func := "tailwater/tailwaterlaw07.EvalsTells", spec := "evalsTells", unfollowed := true, recurses := true, apart := false }
def EvalsTellsSaid : Prop := evalsTellsRow.holds Try.pinned (OpenSpec.ofChange evalsTellsSpec)

/-- ITS FALSE NEIGHBOUR: 'it returns false'. Refute it at one input. -/
def evalsTellsWrong : ChangeSpec := { name := "evalsTells", fn := fun _ => fun
  | [d1, d2] => { results := [.lit (.bool false)], args := [d1, d2] }
  | _ => none }
def EvalsTellsWrongFalsely : Prop := evalsTellsRow.holds Try.pinned (OpenSpec.ofChange evalsTellsWrong)

/-- 'tailwaterlaw07.EvalsUses': WHATEVER THE INPUT: true; the input reads as it did. -/
def evalsUsesSpec : ChangeSpec := { name := "evalsUses", fn := fun _ => fun
  | [d1, d2, d3] => { results := [.lit (.bool true)], args := [d1, d2, d3] }
  | _ => none }
def evalsUsesRow : OpenClaim := { program := "ytmdnhmcmnojlkaa", sum := "27e49db68385f54f13a4754769ce4e2b4b4969b437b308634443ca2e506a5dbf", func := "tailwater/tailwaterlaw07.EvalsUses", spec := "evalsUses", unfollowed := true, recurses := true, apart := false }
def EvalsUsesSaid : Prop := evalsUsesRow.holds Try.pinned (OpenSpec.ofChange evalsUsesSpec)

/-- ITS FALSE NEIGHBOUR: 'it returns false'. Refute it at one input. -/
def evalsUsesWrong : ChangeSpec := { name := "evalsUses", fn := fun _ => fun
  | [d1, d2, d3] => { results := [.lit (.bool false)], args := [d1, d2, d3] }
  | _ => none }
def EvalsUsesWrongFalsely : Prop := evalsUsesRow.holds Try.pinned (OpenSpec.ofChange evalsUsesWrong)

/-- 'tailwaterlaw07.EvalsParts': WHATEVER THE INPUT: true; the input reads as it did. -/
def evalsPartsSpec : ChangeSpec := { name := "evalsParts", fn := fun _ => fun
  | [d1, d2, d3] => { results := [.lit (.bool true)], args := [d1, d2, d3] }
  | _ => none }
def evalsPartsRow : OpenClaim := { program := "ytmdnhmcmnojlkaa", sum := "27e49db68385f54f13a4754769ce4e2b4b4969b437b308634443ca2e506a5dbf", func := "tailwater/tailwaterlaw07.EvalsParts", spec := "evalsParts", unfollowed := true, recurses := true, apart := false }
def EvalsPartsSaid : Prop := evalsPartsRow.holds Try.pinned (OpenSpec.ofChange evalsPartsSpec)

/-- ITS FALSE NEIGHBOUR: 'it returns false'. Refute it at one input. -/
def evalsPartsWrong : ChangeSpec := { name := "evalsParts", fn := fun _ => fun
  | [d1, d2, d3] => { results := [.lit (.bool false)], args := [d1, d2, d3] }
  | _ => none }
def EvalsPartsWrongFalsely : Prop := evalsPartsRow.holds Try.pinned (OpenSpec.ofChange evalsPartsWrong)

/-- 'tailwaterlaw07.EvalsMade': WHATEVER THE INPUT: true; the input reads as it did. -/
def evalsMadeSpec : ChangeSpec := { name := "evalsMade", fn := fun _ => fun
  | [d1, d2, d3, d4] => { results := [.lit (.bool true)], args := [d1, d2, d3, d4] }
  | _ => none }
def evalsMadeRow : OpenClaim := { program := "ytmdnhmcmnojlkaa", sum := "27e49db68385f54f13a4754769ce4e2b4b4969b437b308634443ca2e506a5dbf", func := "tailwater/tailwaterlaw07.EvalsMade", spec := "evalsMade", unfollowed := true, recurses := true, apart := false }
def EvalsMadeSaid : Prop := evalsMadeRow.holds Try.pinned (OpenSpec.ofChange evalsMadeSpec)

/-- ITS FALSE NEIGHBOUR: 'it returns false'. Refute it at one input. -/
def evalsMadeWrong : ChangeSpec := { name := "evalsMade", fn := fun _ => fun
  | [d1, d2, d3, d4] => { results := [.lit (.bool false)], args := [d1, d2, d3, d4] }
  | _ => none }
def EvalsMadeWrongFalsely : Prop := evalsMadeRow.holds Try.pinned (OpenSpec.ofChange evalsMadeWrong)

/- THE SECOND FORM. 'bulk': how many values and letters a reading holds, each counted each time it is reached (what is shared counts as often as it is met; a slice's spare places count too). A statement '..UptoSaid' is the law's where the arguments, and the package variables that the reading takes, are together of bulk at most 1048576: NARROWER than '..Said'. Prove '..Said' where nothing that the law and all that it calls make is longer than what came in: it says more and counts as full. Else prove '..UptoSaid'. A law counts once. -/
mutual
def uptoBulk {H : Type} : DataW H → Nat
  | .lit (.string bytes) => bytes.length + 1
  | .lit _ => 1
  | .nil => 1
  | .ptr d => uptoBulk d + 1
  | .slice elems spare => uptoBulkAll elems + uptoBulkAll spare + 1
  | .agg parts => uptoBulkAll parts + 1
  | .iface _ d => uptoBulk d + 1
  | .map entries => uptoBulkEntries entries + 1
  | .held _ => 1
def uptoBulkAll {H : Type} : List (DataW H) → Nat
  | [] => 0
  | d :: r => uptoBulk d + uptoBulkAll r
def uptoBulkEntries {H : Type} : List (Lit × DataW H) → Nat
  | [] => 0
  | x :: r => uptoBulkEntry x + uptoBulkEntries r
def uptoBulkEntry {H : Type} : Lit × DataW H → Nat
  | (.string bytes, d) => bytes.length + uptoBulk d + 1
  | (_, d) => uptoBulk d + 1
 end
def uptoSmall : (H : Type) → List (DataW H) → Bool := fun _ ds => decide (uptoBulkAll ds ≤ 1048576)
def OpenSpec.upto (s : _root_.Go.ChangeSpec) : _root_.Go.OpenSpec := { _root_.Go.OpenSpec.ofChange s with cond := some uptoSmall }

/-- 'tailwaterlaw07.EvalsTruth', WHERE WHAT IT READS IS OF BULK AT MOST 1048576: true; the input reads as it did. -/
def evalsTruthUptoRow : OpenClaim := { program := "ytmdnhmcmnojlkaa", sum := "27e49db68385f54f13a4754769ce4e2b4b4969b437b308634443ca2e506a5dbf", func := "tailwater/tailwaterlaw07.EvalsTruth", spec := "evalsTruth", unfollowed := true, recurses := true, apart := false, narrowed := true }
def EvalsTruthUptoSaid : Prop := evalsTruthUptoRow.holds Try.pinned (OpenSpec.upto evalsTruthSpec)

/-- 'tailwaterlaw07.EvalsNames', WHERE WHAT IT READS IS OF BULK AT MOST 1048576: true; the input reads as it did. -/
def evalsNamesUptoRow : OpenClaim := { program := "ytmdnhmcmnojlkaa", sum := "27e49db68385f54f13a4754769ce4e2b4b4969b437b308634443ca2e506a5dbf", func := "tailwater/tailwaterlaw07.EvalsNames", spec := "evalsNames", unfollowed := true, recurses := true, apart := false, narrowed := true }
def EvalsNamesUptoSaid : Prop := evalsNamesUptoRow.holds Try.pinned (OpenSpec.upto evalsNamesSpec)

/-- 'tailwaterlaw07.EvalsTells', WHERE WHAT IT READS IS OF BULK AT MOST 1048576: true; the input reads as it did. -/
def evalsTellsUptoRow : OpenClaim := { program := "ytmdnhmcmnojlkaa", sum := "27e49db68385f54f13a4754769ce4e2b4b4969b437b308634443ca2e506a5dbf", func := "tailwater/tailwaterlaw07.EvalsTells", spec := "evalsTells", unfollowed := true, recurses := true, apart := false, narrowed := true }
def EvalsTellsUptoSaid : Prop := evalsTellsUptoRow.holds Try.pinned (OpenSpec.upto evalsTellsSpec)

/-- 'tailwaterlaw07.EvalsUses', WHERE WHAT IT READS IS OF BULK AT MOST 1048576: true; the input reads as it did. -/
def evalsUsesUptoRow : OpenClaim := { program := "ytmdnhmcmnojlkaa", sum := "27e49db68385f54f13a4754769ce4e2b4b4969b437b308634443ca2e506a5dbf", func := "tailwater/tailwaterlaw07.EvalsUses", spec := "evalsUses", unfollowed := true, recurses := true, apart := false, narrowed := true }
def EvalsUsesUptoSaid : Prop := evalsUsesUptoRow.holds Try.pinned (OpenSpec.upto evalsUsesSpec)

/-- 'tailwaterlaw07.EvalsParts', WHERE WHAT IT READS IS OF BULK AT MOST 1048576: true; the input reads as it did. -/
def evalsPartsUptoRow : OpenClaim := { program := "ytmdnhmcmnojlkaa", sum := "27e49db68385f54f13a4754769ce4e2b4b4969b437b308634443ca2e506a5dbf", func := "tailwater/tailwaterlaw07.EvalsParts", spec := "evalsParts", unfollowed := true, recurses := true, apart := false, narrowed := true }
def EvalsPartsUptoSaid : Prop := evalsPartsUptoRow.holds Try.pinned (OpenSpec.upto evalsPartsSpec)

/-- 'tailwaterlaw07.EvalsMade', WHERE WHAT IT READS IS OF BULK AT MOST 1048576: true; the input reads as it did. -/
def evalsMadeUptoRow : OpenClaim := { program := "ytmdnhmcmnojlkaa", sum := "27e49db68385f54f13a4754769ce4e2b4b4969b437b308634443ca2e506a5dbf", func := "tailwater/tailwaterlaw07.EvalsMade", spec := "evalsMade", unfollowed := true, recurses := true, apart := false, narrowed := true }
def EvalsMadeUptoSaid : Prop := evalsMadeUptoRow.holds Try.pinned (OpenSpec.upto evalsMadeSpec)

end Rows
end Go.Proofs.Ytmdnhmcmnojlkaa
