/-
  No cell of these rows narrows 'for every input' (looked for: loops, veiled, ifaces, maps, wideKeys, modest, calm, conditions, laid).
  DERIVED. THE GIVEN ROWS OF THIS SEAT. 8 by the template 'for every input the law returns true; each argument reads behind the call as it read before'; 0 by the template 'total and deterministic' (their statements: YteohklfoggiojaaTotals.lean).
  GIVEN WITH THE SEED: the statements are not yours to turn. If you find one false, say at which input.
  Laid BY PROGRAM, IN A SANDBOX (cutbox-rows.mjs): the forced cells as the released guide's own fill.sh prints them over the translation 3149e874a2c47b8b… (all of the seat's roots in one cut). By AI agents, Wed Nov 11 2026. No macro, syntax, notation, axiom, sorry.
-/
import Derived.Test.YteohklfoggiojaaChecked
import GoSem.Claim
import GoSem.ClaimJoined
import GoSem.ClaimMapViews
import Derived.JoinedTies
import Derived.KernelRfl
namespace Go.Proofs.Yteohklfoggiojaa
/- THE CELL 'sum', in the pinned program and in every row, IS THE sha256 OF THE DUMP (.gsa) THAT YteohklfoggiojaaProg.lean LOADS. Nothing in Lean hashes anything: it is a label: what it is worth is what the hold of that sum in a sandbox is worth. -/
noncomputable def Try.pinned : Pinned := { name := "yteohklfoggiojaa", sum := "3149e874a2c47b8b6cf6f36c7b18c898dd1ca8c5f3dc0fe3f833f6584a8ab21a", checked := Try.checked }
namespace Rows
def none {H : Type} : Left H := { results := [], args := [] }

/-- 'tailwaterlaw12.FoldsTells': WHATEVER THE INPUT: true; the input reads as it did. -/
def foldsTellsSpec : ChangeSpec := { name := "foldsTells", fn := fun _ => fun
  | [d] => { results := [.lit (.bool true)], args := [d] }
  | _ => none }
def foldsTellsRow : OpenClaim := { program := "yteohklfoggiojaa", sum := "3149e874a2c47b8b6cf6f36c7b18c898dd1ca8c5f3dc0fe3f833f6584a8ab21a", func := "tailwater/tailwaterlaw12.FoldsTells", spec := "foldsTells", unfollowed := true, recurses := true, apart := false }
def FoldsTellsSaid : Prop := foldsTellsRow.holds Try.pinned (OpenSpec.ofChange foldsTellsSpec)

/-- ITS FALSE NEIGHBOUR: 'it returns false'. Refute it at one input. -/
def foldsTellsWrong : ChangeSpec := { name := "foldsTells", fn := fun _ => fun
  | [d] => { results := [.lit (.bool false)], args := [d] }
  | _ => none }
def FoldsTellsWrongFalsely : Prop := foldsTellsRow.holds Try.pinned (OpenSpec.ofChange foldsTellsWrong)

/-- 'tailwaterlaw12.FoldsValues': WHATEVER THE INPUT: true; the input reads as it did. -/
def foldsValuesSpec : ChangeSpec := { name := "foldsValues", fn := fun _ => fun
  | [d1, d2] => { results := [.lit (.bool true)], args := [d1, d2] }
  | _ => none }
def foldsValuesRow : OpenClaim := { program := "yteohklfoggiojaa", sum := "3149e874a2c47b8b6cf6f36c7b18c898dd1ca8c5f3dc0fe3f833f6584a8ab21a", func := "tailwater/tailwaterlaw12.FoldsValues", spec := "foldsValues", unfollowed := true, recurses := true, apart := false }
def FoldsValuesSaid : Prop := foldsValuesRow.holds Try.pinned (OpenSpec.ofChange foldsValuesSpec)

/-- ITS FALSE NEIGHBOUR: 'it returns false'. Refute it at one input. -/
def foldsValuesWrong : ChangeSpec := { name := "foldsValues", fn := fun _ => fun
  | [d1, d2] => { results := [.lit (.bool false)], args := [d1, d2] }
  | _ => none }
def FoldsValuesWrongFalsely : Prop := foldsValuesRow.holds Try.pinned (OpenSpec.ofChange foldsValuesWrong)

/-- 'tailwaterlaw12.FoldsForms': WHATEVER THE INPUT: true; the input reads as it did. -/
def foldsFormsSpec : ChangeSpec := { name := "foldsForms", fn := fun _ => fun
  | [d1, d2] => { results := [.lit (.bool true)], args := [d1, d2] }
  | _ => none }
def foldsFormsRow : OpenClaim := { program := "yteohklfoggiojaa", sum := "3149e874a2c47b8b6cf6f36c7b18c898dd1ca8c5f3dc0fe3f833f6584a8ab21a", func := "tailwater/tailwaterlaw12.FoldsForms", spec := "foldsForms", unfollowed := true, recurses := true, apart := false }
def FoldsFormsSaid : Prop := foldsFormsRow.holds Try.pinned (OpenSpec.ofChange foldsFormsSpec)

/-- ITS FALSE NEIGHBOUR: 'it returns false'. Refute it at one input. -/
def foldsFormsWrong : ChangeSpec := { name := "foldsForms", fn := fun _ => fun
  | [d1, d2] => { results := [.lit (.bool false)], args := [d1, d2] }
  | _ => none }
def FoldsFormsWrongFalsely : Prop := foldsFormsRow.holds Try.pinned (OpenSpec.ofChange foldsFormsWrong)

/-- 'tailwaterlaw12.FoldsFields': WHATEVER THE INPUT: true; the input reads as it did. -/
def foldsFieldsSpec : ChangeSpec := { name := "foldsFields", fn := fun _ => fun
  | [d1, d2] => { results := [.lit (.bool true)], args := [d1, d2] }
  | _ => none }
def foldsFieldsRow : OpenClaim := { program := "yteohklfoggiojaa", sum := "3149e874a2c47b8b6cf6f36c7b18c898dd1ca8c5f3dc0fe3f833f6584a8ab21a", func := "tailwater/tailwaterlaw12.FoldsFields", spec := "foldsFields", unfollowed := true, recurses := true, apart := false }
def FoldsFieldsSaid : Prop := foldsFieldsRow.holds Try.pinned (OpenSpec.ofChange foldsFieldsSpec)

/-- ITS FALSE NEIGHBOUR: 'it returns false'. Refute it at one input. -/
def foldsFieldsWrong : ChangeSpec := { name := "foldsFields", fn := fun _ => fun
  | [d1, d2] => { results := [.lit (.bool false)], args := [d1, d2] }
  | _ => none }
def FoldsFieldsWrongFalsely : Prop := foldsFieldsRow.holds Try.pinned (OpenSpec.ofChange foldsFieldsWrong)

/-- 'tailwaterlaw12.FoldsAgain': WHATEVER THE INPUT: true; the input reads as it did. -/
def foldsAgainSpec : ChangeSpec := { name := "foldsAgain", fn := fun _ => fun
  | [d] => { results := [.lit (.bool true)], args := [d] }
  | _ => none }
def foldsAgainRow : OpenClaim := { program := "yteohklfoggiojaa", sum := "3149e874a2c47b8b6cf6f36c7b18c898dd1ca8c5f3dc0fe3f833f6584a8ab21a", func := "tailwater/tailwaterlaw12.FoldsAgain", spec := "foldsAgain", unfollowed := true, recurses := true, apart := false }
def FoldsAgainSaid : Prop := foldsAgainRow.holds Try.pinned (OpenSpec.ofChange foldsAgainSpec)

/-- ITS FALSE NEIGHBOUR: 'it returns false'. Refute it at one input. -/
def foldsAgainWrong : ChangeSpec := { name := "foldsAgain", fn := fun _ => fun
  | [d] => { results := [.lit (.bool false)], args := [d] }
  | _ => none }
def FoldsAgainWrongFalsely : Prop := foldsAgainRow.holds Try.pinned (OpenSpec.ofChange foldsAgainWrong)

/-- 'tailwaterlaw12.FoldsNames': WHATEVER THE INPUT: true; the input reads as it did. -/
def foldsNamesSpec : ChangeSpec := { name := "foldsNames", fn := fun _ => fun
  | [] => { results := [.lit (.bool true)], args := [] }
  | _ => none }
def foldsNamesRow : OpenClaim := { program := "yteohklfoggiojaa", sum := "3149e874a2c47b8b6cf6f36c7b18c898dd1ca8c5f3dc0fe3f833f6584a8ab21a", func := "tailwater/tailwaterlaw12.FoldsNames", spec := "foldsNames", unfollowed := true, recurses := true, apart := false }
def FoldsNamesSaid : Prop := foldsNamesRow.holds Try.pinned (OpenSpec.ofChange foldsNamesSpec)

/-- ITS FALSE NEIGHBOUR: 'it returns false'. Refute it at one input. -/
def foldsNamesWrong : ChangeSpec := { name := "foldsNames", fn := fun _ => fun
  | [] => { results := [.lit (.bool false)], args := [] }
  | _ => none }
def FoldsNamesWrongFalsely : Prop := foldsNamesRow.holds Try.pinned (OpenSpec.ofChange foldsNamesWrong)

/-- 'tailwaterlaw12.FoldsQueries': WHATEVER THE INPUT: true; the input reads as it did. -/
def foldsQueriesSpec : ChangeSpec := { name := "foldsQueries", fn := fun _ => fun
  | [d] => { results := [.lit (.bool true)], args := [d] }
  | _ => none }
def foldsQueriesRow : OpenClaim := { program := "yteohklfoggiojaa", sum := "3149e874a2c47b8b6cf6f36c7b18c898dd1ca8c5f3dc0fe3f833f6584a8ab21a", func := "tailwater/tailwaterlaw12.FoldsQueries", spec := "foldsQueries", unfollowed := true, recurses := true, apart := false }
def FoldsQueriesSaid : Prop := foldsQueriesRow.holds Try.pinned (OpenSpec.ofChange foldsQueriesSpec)

/-- ITS FALSE NEIGHBOUR: 'it returns false'. Refute it at one input. -/
def foldsQueriesWrong : ChangeSpec := { name := "foldsQueries", fn := fun _ => fun
  | [d] => { results := [.lit (.bool false)], args := [d] }
  | _ => none }
def FoldsQueriesWrongFalsely : Prop := foldsQueriesRow.holds Try.pinned (OpenSpec.ofChange foldsQueriesWrong)

/-- 'tailwaterlaw12.FoldsRight': WHATEVER THE INPUT: true; the input reads as it did. -/
def foldsRightSpec : ChangeSpec := { name := "foldsRight", fn := fun _ => fun
  | [d1, d2] => { results := [.lit (.bool true)], args := [d1, d2] }
  | _ => none }
def foldsRightRow : OpenClaim := { program := "yteohklfoggiojaa", sum := "3149e874a2c47b8b6cf6f36c7b18c898dd1ca8c5f3dc0fe3f833f6584a8ab21a", func := "tailwater/tailwaterlaw12.FoldsRight", spec := "foldsRight", unfollowed := true, recurses := true, apart := false }
def FoldsRightSaid : Prop := foldsRightRow.holds Try.pinned (OpenSpec.ofChange foldsRightSpec)

/-- ITS FALSE NEIGHBOUR: 'it returns false'. Refute it at one input. -/
def foldsRightWrong : ChangeSpec := { name := "foldsRight", fn := fun _ => fun
  | [d1, d2] => { results := [.lit (.bool false)], args := [d1, d2] }
  | _ => none }
def FoldsRightWrongFalsely : Prop := foldsRightRow.holds Try.pinned (OpenSpec.ofChange foldsRightWrong)

/- THE SECOND FORM. 'bulk': how many values and letters a reading holds, each counted each time it is reached (what is shared counts as often as it is met; a slice's spare places count too). A statement '..UptoSaid' is the law's where the arguments, and the package variables that the reading takes, are together of bulk at most 1048576: NARROWER than '..Said'. Prove '..Said' where nothing that the law and all that it calls make is longer than what came in: it says more and counts as full. Else prove '..UptoSaid'. A law counts once. -/
mutual
def uptoBulk {H : Type} : DataW H → Nat
  | .lit (.string bytes) => bytes.length + 1
  | .lit _ => 1
  | .nil => 1
  | .ptr d => uptoBulk d + 1
  | .slice elems spare => uptoBulkAll elems + uptoBulkAll spare + 1
  | .agg parts => uptoBulkAll parts + 1
  | .iface _ d => uptoBulk d + 1
  | .map entries => uptoBulkEntries entries + 1
  | .held _ => 1
def uptoBulkAll {H : Type} : List (DataW H) → Nat
  | [] => 0
  | d :: r => uptoBulk d + uptoBulkAll r
def uptoBulkEntries {H : Type} : List (Lit × DataW H) → Nat
  | [] => 0
  | x :: r => uptoBulkEntry x + uptoBulkEntries r
def uptoBulkEntry {H : Type} : Lit × DataW H → Nat
  | (.string bytes, d) => bytes.length + uptoBulk d + 1
  | (_, d) => uptoBulk d + 1
 end
def uptoSmall : (H : Type) → List (DataW H) → Bool := fun _ ds => decide (uptoBulkAll ds ≤ 1048576)
def OpenSpec.upto (s : _root_.Go.ChangeSpec) : _root_.Go.OpenSpec := { _root_.Go.OpenSpec.ofChange s with cond := some uptoSmall }

/-- 'tailwaterlaw12.FoldsTells', WHERE WHAT IT READS IS OF BULK AT MOST 1048576: true; the input reads as it did. -/
def foldsTellsUptoRow : OpenClaim := { program := "yteohklfoggiojaa", sum := "3149e874a2c47b8b6cf6f36c7b18c898dd1ca8c5f3dc0fe3f833f6584a8ab21a", func := "tailwater/tailwaterlaw12.FoldsTells", spec := "foldsTells", unfollowed := true, recurses := true, apart := false, narrowed := true }
def FoldsTellsUptoSaid : Prop := foldsTellsUptoRow.holds Try.pinned (OpenSpec.upto foldsTellsSpec)

/-- 'tailwaterlaw12.FoldsValues', WHERE WHAT IT READS IS OF BULK AT MOST 1048576: true; the input reads as it did. -/
def foldsValuesUptoRow : OpenClaim := { program := "yteohklfoggiojaa", sum := "3149e874a2c47b8b6cf6f36c7b18c898dd1ca8c5f3dc0fe3f833f6584a8ab21a", func := "tailwater/tailwaterlaw12.FoldsValues", spec := "foldsValues", unfollowed := true, recurses := true, apart := false, narrowed := true }
def FoldsValuesUptoSaid : Prop := foldsValuesUptoRow.holds Try.pinned (OpenSpec.upto foldsValuesSpec)

/-- 'tailwaterlaw12.FoldsForms', WHERE WHAT IT READS IS OF BULK AT MOST 1048576: true; the input reads as it did. -/
def foldsFormsUptoRow : OpenClaim := { program := "yteohklfoggiojaa", sum := "3149e874a2c47b8b6cf6f36c7b18c898dd1ca8c5f3dc0fe3f833f6584a8ab21a", func := "tailwater/tailwaterlaw12.FoldsForms", spec := "foldsForms", unfollowed := true, recurses := true, apart := false, narrowed := true }
def FoldsFormsUptoSaid : Prop := foldsFormsUptoRow.holds Try.pinned (OpenSpec.upto foldsFormsSpec)

/-- 'tailwaterlaw12.FoldsFields', WHERE WHAT IT READS IS OF BULK AT MOST 1048576: true; the input reads as it did. -/
def foldsFieldsUptoRow : OpenClaim := { program := "yteohklfoggiojaa", sum := "3149e874a2c47b8b6cf6f36c7b18c898dd1ca8c5f3dc0fe3f833f6584a8ab21a", func := "tailwater/tailwaterlaw12.FoldsFields", spec := "foldsFields", unfollowed := true, recurses := true, apart := false, narrowed := true }
def FoldsFieldsUptoSaid : Prop := foldsFieldsUptoRow.holds Try.pinned (OpenSpec.upto foldsFieldsSpec)

/-- 'tailwaterlaw12.FoldsAgain', WHERE WHAT IT READS IS OF BULK AT MOST 1048576: true; the input reads as it did. -/
def foldsAgainUptoRow : OpenClaim := { program := "yteohklfoggiojaa", sum := "3149e874a2c47b8b6cf6f36c7b18c898dd1ca8c5f3dc0fe3f833f6584a8ab21a", func := "tailwater/tailwaterlaw12.FoldsAgain", spec := "foldsAgain", unfollowed := true, recurses := true, apart := false, narrowed := true }
def FoldsAgainUptoSaid : Prop := foldsAgainUptoRow.holds Try.pinned (OpenSpec.upto foldsAgainSpec)

/-- 'tailwaterlaw12.FoldsNames', WHERE WHAT IT READS IS OF BULK AT MOST 1048576: true; the input reads as it did. -/
def foldsNamesUptoRow : OpenClaim := { program := "yteohklfoggiojaa", sum := "3149e874a2c47b8b6cf6f36c7b18c898dd1ca8c5f3dc0fe3f833f6584a8ab21a", func := "tailwater/tailwaterlaw12.FoldsNames", spec := "foldsNames", unfollowed := true, recurses := true, apart := false, narrowed := true }
def FoldsNamesUptoSaid : Prop := foldsNamesUptoRow.holds Try.pinned (OpenSpec.upto foldsNamesSpec)

/-- 'tailwaterlaw12.FoldsQueries', WHERE WHAT IT READS IS OF BULK AT MOST 1048576: true; the input reads as it did. -/
def foldsQueriesUptoRow : OpenClaim := { program := "yteohklfoggiojaa", sum := "3149e874a2c47b8b6cf6f36c7b18c898dd1ca8c5f3dc0fe3f833f6584a8ab21a", func := "tailwater/tailwaterlaw12.FoldsQueries", spec := "foldsQueries", unfollowed := true, recurses := true, apart := false, narrowed := true }
def FoldsQueriesUptoSaid : Prop := foldsQueriesUptoRow.holds Try.pinned (OpenSpec.upto foldsQueriesSpec)

/-- 'tailwaterlaw12.FoldsRight', WHERE WHAT IT READS IS OF BULK AT MOST 1048576: true; the input reads as it did. -/
def foldsRightUptoRow : OpenClaim := { program := "yteohklfoggiojaa", sum := "3149e874a2c47b8b6cf6f36c7b18c898dd1ca8c5f3dc0fe3f833f6584a8ab21a", func := "tailwater/tailwaterlaw12.FoldsRight", spec := "foldsRight", unfollowed := true, recurses := true, apart := false, narrowed := true }
def FoldsRightUptoSaid : Prop := foldsRightUptoRow.holds Try.pinned (OpenSpec.upto foldsRightSpec)

end Rows
end Go.Proofs.Yteohklfoggiojaa
