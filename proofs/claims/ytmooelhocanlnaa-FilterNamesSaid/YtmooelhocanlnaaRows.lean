/-
  No cell of these rows narrows 'for every input' (looked for: loops, veiled, ifaces, maps, wideKeys, modest, calm, conditions, laid).
  DERIVED. THE GIVEN ROWS OF THIS SEAT. 5 by the template 'for every input the law returns true; each argument reads behind the call as it read before'; 0 by the template 'total and deterministic' (their statements: YtmooelhocanlnaaTotals.lean).
  GIVEN WITH THE SEED: the statements are not yours to turn. If you find one false, say at which input.
  Laid BY PROGRAM, IN A SANDBOX (cutbox-rows.mjs): the forced cells as the released guide's own fill.sh prints them over the translation 16f35420facb83ff… (all of the seat's roots in one cut). By AI agents, Wed Nov 11 2026. No macro, syntax, notation, axiom, sorry.
-/
import Derived.Test.YtmooelhocanlnaaChecked
import GoSem.Claim
import GoSem.ClaimJoined
import GoSem.ClaimMapViews
import Derived.JoinedTies
import Derived.KernelRfl
namespace Go.Proofs.Ytmooelhocanlnaa
/- THE CELL 'sum', in the pinned program and in every row, IS THE sha256 OF THE DUMP (.gsa) THAT YtmooelhocanlnaaProg.lean LOADS. Nothing in Lean hashes anything: it is a label: what it is worth is what the hold of that sum in a sandbox is worth. -/
noncomputable def Try.pinned : Pinned := { name := "ytmooelhocanlnaa", sum := "16f35420facb83fffb10fd5aa182579d2fd1ba90ede70a94ac18575a7dd5f609", checked := Try.checked }
namespace Rows
def none {H : Type} : Left H := { results := [], args := [] }

/-- 'tailwaterlaw29.FilterProjects': WHATEVER THE INPUT: true; the input reads as it did. -/
def filterProjectsSpec : ChangeSpec := { name := "filterProjects", fn := fun _ => fun
  | [d1, d2] => { results := [.lit (.bool true)], args := [d1, d2] }
  | _ => none }
def filterProjectsRow : OpenClaim := { program := "ytmooelhocanlnaa", sum := "16f35420facb83fffb10fd5aa182579d2fd1ba90ede70a94ac18575a7dd5f609", func := "tailwater/tailwaterlaw29.FilterProjects", spec := "filterProjects", unfollowed := true, recurses := true, apart := false }
def FilterProjectsSaid : Prop := filterProjectsRow.holds Try.pinned (OpenSpec.ofChange filterProjectsSpec)

/-- ITS FALSE NEIGHBOUR: 'it returns false'. Refute it at one input. -/
def filterProjectsWrong : ChangeSpec := { name := "filterProjects", fn := fun _ => fun
  | [d1, d2] => { results := [.lit (.bool false)], args := [d1, d2] }
  | _ => none }
def FilterProjectsWrongFalsely : Prop := filterProjectsRow.holds Try.pinned (OpenSpec.ofChange filterProjectsWrong)

/-- 'tailwaterlaw29.FilterWhere': WHATEVER THE INPUT: true; the input reads as it did. -/
def filterWhereSpec : ChangeSpec := { name := "filterWhere", fn := fun _ => fun
  | [d1, d2] => { results := [.lit (.bool true)], args := [d1, d2] }
  | _ => none }
def filterWhereRow : OpenClaim := { program := "ytmooelhocanlnaa", sum := "16f35420facb83fffb10fd5aa182579d2fd1ba90ede70a94ac18575a7dd5f609", func := "tailwater/tailwaterlaw29.FilterWhere", spec := "filterWhere", unfollowed := true, recurses := true, apart := false }
def FilterWhereSaid : Prop := filterWhereRow.holds Try.pinned (OpenSpec.ofChange filterWhereSpec)

/-- ITS FALSE NEIGHBOUR: 'it returns false'. Refute it at one input. -/
def filterWhereWrong : ChangeSpec := { name := "filterWhere", fn := fun _ => fun
  | [d1, d2] => { results := [.lit (.bool false)], args := [d1, d2] }
  | _ => none }
def FilterWhereWrongFalsely : Prop := filterWhereRow.holds Try.pinned (OpenSpec.ofChange filterWhereWrong)

/-- 'tailwaterlaw29.FilterTwice': WHATEVER THE INPUT: true; the input reads as it did. -/
def filterTwiceSpec : ChangeSpec := { name := "filterTwice", fn := fun _ => fun
  | [d1, d2] => { results := [.lit (.bool true)], args := [d1, d2] }
  | _ => none }
def filterTwiceRow : OpenClaim := { program := "ytmooelhocanlnaa", sum := "16f35420facb83fffb10fd5aa182579d2fd1ba90ede70a94ac18575a7dd5f609", func := "tailwater/tailwaterlaw29.FilterTwice", spec := "filterTwice", unfollowed := true, recurses := true, apart := false }
def FilterTwiceSaid : Prop := filterTwiceRow.holds Try.pinned (OpenSpec.ofChange filterTwiceSpec)

/-- ITS FALSE NEIGHBOUR: 'it returns false'. Refute it at one input. -/
def filterTwiceWrong : ChangeSpec := { name := "filterTwice", fn := fun _ => fun
  | [d1, d2] => { results := [.lit (.bool false)], args := [d1, d2] }
  | _ => none }
def FilterTwiceWrongFalsely : Prop := filterTwiceRow.holds Try.pinned (OpenSpec.ofChange filterTwiceWrong)

/-- 'tailwaterlaw29.FilterNames': WHATEVER THE INPUT: true; the input reads as it did. -/
def filterNamesSpec : ChangeSpec := { name := "filterNames", fn := fun _ => fun
  | [] => { results := [.lit (.bool true)], args := [] }
  | _ => none }
def filterNamesRow : OpenClaim := { program := "ytmooelhocanlnaa", sum := "16f35420facb83fffb10fd5aa182579d2fd1ba90ede70a94ac18575a7dd5f609", func := "tailwater/tailwaterlaw29.FilterNames", spec := "filterNames", unfollowed := true, recurses := true, apart := false }
def FilterNamesSaid : Prop := filterNamesRow.holds Try.pinned (OpenSpec.ofChange filterNamesSpec)

/-- ITS FALSE NEIGHBOUR: 'it returns false'. Refute it at one input. -/
def filterNamesWrong : ChangeSpec := { name := "filterNames", fn := fun _ => fun
  | [] => { results := [.lit (.bool false)], args := [] }
  | _ => none }
def FilterNamesWrongFalsely : Prop := filterNamesRow.holds Try.pinned (OpenSpec.ofChange filterNamesWrong)

/-- 'tailwaterlaw29.FilterMarks': WHATEVER THE INPUT: true; the input reads as it did. -/
def filterMarksSpec : ChangeSpec := { name := "filterMarks", fn := fun _ => fun
  | [d1, d2] => { results := [.lit (.bool true)], args := [d1, d2] }
  | _ => none }
def filterMarksRow : OpenClaim := { program := "ytmooelhocanlnaa", sum := "16f35420facb83fffb10fd5aa182579d2fd1ba90ede70a94ac18575a7dd5f609", func := "tailwater/tailwaterlaw29.FilterMarks", spec := "filterMarks", unfollowed := true, recurses := true, apart := false }
def FilterMarksSaid : Prop := filterMarksRow.holds Try.pinned (OpenSpec.ofChange filterMarksSpec)

/-- ITS FALSE NEIGHBOUR: 'it returns false'. Refute it at one input. -/
def filterMarksWrong : ChangeSpec := { name := "filterMarks", fn := fun _ => fun
  | [d1, d2] => { results := [.lit (.bool false)], args := [d1, d2] }
  | _ => none }
def FilterMarksWrongFalsely : Prop := filterMarksRow.holds Try.pinned (OpenSpec.ofChange filterMarksWrong)

/- THE SECOND FORM. 'bulk': how many values and letters a reading holds, each counted each time it is reached (what is shared counts as often as it is met; a slice's spare places count too). A statement '..UptoSaid' is the law's where the arguments, and the package variables that the reading takes, are together of bulk at most 1048576: NARROWER than '..Said'. Prove '..Said' where nothing that the law and all that it calls make is longer than what came in: it says more and counts as full. Else prove '..UptoSaid'. A law counts once. -/
mutual
def uptoBulk {H : Type} : DataW H → Nat
  | .lit (.string bytes) => bytes.length + 1
  | .lit _ => 1
  | .nil => 1
  | .ptr d => uptoBulk d + 1
  | .slice elems spare => uptoBulkAll elems + uptoBulkAll spare + 1
  | .agg parts => uptoBulkAll parts + 1
  | .iface _ d => uptoBulk d + 1
  | .map entries => uptoBulkEntries entries + 1
  | .held _ => 1
def uptoBulkAll {H : Type} : List (DataW H) → Nat
  | [] => 0
  | d :: r => uptoBulk d + uptoBulkAll r
def uptoBulkEntries {H : Type} : List (Lit × DataW H) → Nat
  | [] => 0
  | x :: r => uptoBulkEntry x + uptoBulkEntries r
def uptoBulkEntry {H : Type} : Lit × DataW H → Nat
  | (.string bytes, d) => bytes.length + uptoBulk d + 1
  | (_, d) => uptoBulk d + 1
 end
def uptoSmall : (H : Type) → List (DataW H) → Bool := fun _ ds => decide (uptoBulkAll ds ≤ 1048576)
def OpenSpec.upto (s : _root_.Go.ChangeSpec) : _root_.Go.OpenSpec := { _root_.Go.OpenSpec.ofChange s with cond := some uptoSmall }

/-- 'tailwaterlaw29.FilterProjects', WHERE WHAT IT READS IS OF BULK AT MOST 1048576: true; the input reads as it did. -/
def filterProjectsUptoRow : OpenClaim := { program := "ytmooelhocanlnaa", sum := "16f35420facb83fffb10fd5aa182579d2fd1ba90ede70a94ac18575a7dd5f609", func := "tailwater/tailwaterlaw29.FilterProjects", spec := "filterProjects", unfollowed := true, recurses := true, apart := false, narrowed := true }
def FilterProjectsUptoSaid : Prop := filterProjectsUptoRow.holds Try.pinned (OpenSpec.upto filterProjectsSpec)

/-- 'tailwaterlaw29.FilterWhere', WHERE WHAT IT READS IS OF BULK AT MOST 1048576: true; the input reads as it did. -/
def filterWhereUptoRow : OpenClaim := { program := "ytmooelhocanlnaa", sum := "16f35420facb83fffb10fd5aa182579d2fd1ba90ede70a94ac18575a7dd5f609", func := "tailwater/tailwaterlaw29.FilterWhere", spec := "filterWhere", unfollowed := true, recurses := true, apart := false, narrowed := true }
def FilterWhereUptoSaid : Prop := filterWhereUptoRow.holds Try.pinned (OpenSpec.upto filterWhereSpec)

/-- 'tailwaterlaw29.FilterTwice', WHERE WHAT IT READS IS OF BULK AT MOST 1048576: true; the input reads as it did. -/
def filterTwiceUptoRow : OpenClaim := { program := "ytmooelhocanlnaa", sum := "16f35420facb83fffb10fd5aa182579d2fd1ba90ede70a94ac18575a7dd5f609", func := "tailwater/tailwaterlaw29.FilterTwice", spec := "filterTwice", unfollowed := true, recurses := true, apart := false, narrowed := true }
def FilterTwiceUptoSaid : Prop := filterTwiceUptoRow.holds Try.pinned (OpenSpec.upto filterTwiceSpec)

/-- 'tailwaterlaw29.FilterNames', WHERE WHAT IT READS IS OF BULK AT MOST 1048576: true; the input reads as it did. -/
def filterNamesUptoRow : OpenClaim := { program := "ytmooelhocanlnaa", sum := "16f35420facb83fffb10fd5aa182579d2fd1ba90ede70a94ac18575a7dd5f609", func := "tailwater/tailwaterlaw29.FilterNames", spec := "filterNames", unfollowed := true, recurses := true, apart := false, narrowed := true }
def FilterNamesUptoSaid : Prop := filterNamesUptoRow.holds Try.pinned (OpenSpec.upto filterNamesSpec)

/-- 'tailwaterlaw29.FilterMarks', WHERE WHAT IT READS IS OF BULK AT MOST 1048576: true; the input reads as it did. -/
def filterMarksUptoRow : OpenClaim := { program := "ytmooelhocanlnaa", sum := "16f35420facb83fffb10fd5aa182579d2fd1ba90ede70a94ac18575a7dd5f609", func := "tailwater/tailwaterlaw29.FilterMarks", spec := "filterMarks", unfollowed := true, recurses := true, apart := false, narrowed := true }
def FilterMarksUptoSaid : Prop := filterMarksUptoRow.holds Try.pinned (OpenSpec.upto filterMarksSpec)

end Rows
end Go.Proofs.Ytmooelhocanlnaa
