/-
  No cell of these rows narrows 'for every input' (looked for: loops, veiled, ifaces, maps, wideKeys, modest, calm, conditions, laid).
  DERIVED. THE GIVEN ROWS OF THIS SEAT. 7 by the template 'for every input the law returns true; each argument reads behind the call as it read before'; 0 by the template 'total and deterministic' (their statements: YtihlofhnhkhnaaaTotals.lean).
  GIVEN WITH THE SEED: the statements are not yours to turn. If you find one false, say at which input.
  Laid BY PROGRAM, IN A SANDBOX (cutbox-rows.mjs): the forced cells as the released guide's own fill.sh prints them over the translation e4a4a6dc06c6023b… (all of the seat's roots in one cut). By AI agents, Wed Nov 11 2026. No macro, syntax, notation, axiom, sorry.
-/
import Derived.Test.YtihlofhnhkhnaaaChecked
import GoSem.Claim
import GoSem.ClaimJoined
import GoSem.ClaimMapViews
import Derived.JoinedTies
import Derived.KernelRfl
namespace Go.Proofs.Ytihlofhnhkhnaaa
/- THE CELL 'sum', in the pinned program and in every row, IS THE sha256 OF THE DUMP (.gsa) THAT YtihlofhnhkhnaaaProg.lean LOADS. Nothing in Lean hashes anything: it is a label: what it is worth is what the hold of that sum in a sandbox is worth. -/
noncomputable def Try.pinned : Pinned := { name := "ytihlofhnhkhnaaa", sum := "e4a4a6dc06c6023beccb488519b2c6105580db3b8c09af04f351e2e63118658d", checked := Try.checked }
namespace Rows
def none {H : Type} : Left H := { results := [], args := [] }

/-- 'tailwaterlaw08.ClausesParts': WHATEVER THE INPUT: true; the input reads as it did. -/
def clausesPartsSpec : ChangeSpec := { name := "clausesParts", fn := fun _ => fun
  | [d1, d2, d3, d4, d5] => { results := [.lit (.bool true)], args := [d1, d2, d3, d4, d5] }
  | _ => none }
def clausesPartsRow : OpenClaim := { program := "ytihlofhnhkhnaaa", sum := "e4a4a6dc06c6023beccb488519b2c6105580db3b8c09af04f351e2e63118658d", func := "tailwater/tailwaterlaw08.ClausesParts", spec := "clausesParts", unfollowed := true, recurses := true, apart := false }
def ClausesPartsSaid : Prop := clausesPartsRow.holds Try.pinned (OpenSpec.ofChange clausesPartsSpec)

/-- ITS FALSE NEIGHBOUR: 'it returns false'. Refute it at one input. -/
def clausesPartsWrong : ChangeSpec := { name := "clausesParts", fn := fun _ => fun
  | [d1, d2, d3, d4, d5] => { results := [.lit (.bool false)], args := [d1, d2, d3, d4, d5] }
  | _ => none }
def ClausesPartsWrongFalsely : Prop := clausesPartsRow.holds Try.pinned (OpenSpec.ofChange clausesPartsWrong)

/-- 'tailwaterlaw08.ClausesOrder': WHATEVER THE INPUT: true; the input reads as it did. -/
def clausesOrderSpec : ChangeSpec := { name := "clausesOrder", fn := fun _ => fun
  | [d1, d2, d3] => { results := [.lit (.bool true)], args := [d1, d2, d3] }
  | _ => none }
def clausesOrderRow : OpenClaim := { program := "ytihlofhnhkhnaaa", sum := "e4a4a6dc06c6023beccb488519b2c6105580db3b8c09af04f351e2e63118658d", func := "tailwater/tailwaterlaw08.ClausesOrder", spec := "clausesOrder", unfollowed := true, recurses := true, apart := false }
def ClausesOrderSaid : Prop := clausesOrderRow.holds Try.pinned (OpenSpec.ofChange clausesOrderSpec)

/-- ITS FALSE NEIGHBOUR: 'it returns false'. Refute it at one input. -/
def clausesOrderWrong : ChangeSpec := { name := "clausesOrder", fn := fun _ => fun
  | [d1, d2, d3] => { results := [.lit (.bool false)], args := [d1, d2, d3] }
  | _ => none }
def ClausesOrderWrongFalsely : Prop := clausesOrderRow.holds Try.pinned (OpenSpec.ofChange clausesOrderWrong)

/-- 'tailwaterlaw08.ClausesReplace': WHATEVER THE INPUT: true; the input reads as it did. -/
def clausesReplaceSpec : ChangeSpec := { name := "clausesReplace", fn := fun _ => fun
  | [d1, d2, d3, d4] => { results := [.lit (.bool true)], args := [d1, d2, d3, d4] }
  | _ => none }
def clausesReplaceRow : OpenClaim := { program := "ytihlofhnhkhnaaa", sum := "e4a4a6dc06c6023beccb488519b2c6105580db3b8c09af04f351e2e63118658d", func := "tailwater/tailwaterlaw08.ClausesReplace", spec := "clausesReplace", unfollowed := true, recurses := true, apart := false }
def ClausesReplaceSaid : Prop := clausesReplaceRow.holds Try.pinned (OpenSpec.ofChange clausesReplaceSpec)

/-- ITS FALSE NEIGHBOUR: 'it returns false'. Refute it at one input. -/
def clausesReplaceWrong : ChangeSpec := { name := "clausesReplace", fn := fun _ => fun
  | [d1, d2, d3, d4] => { results := [.lit (.bool false)], args := [d1, d2, d3, d4] }
  | _ => none }
def ClausesReplaceWrongFalsely : Prop := clausesReplaceRow.holds Try.pinned (OpenSpec.ofChange clausesReplaceWrong)

/-- 'tailwaterlaw08.ClausesJoin': WHATEVER THE INPUT: true; the input reads as it did. -/
def clausesJoinSpec : ChangeSpec := { name := "clausesJoin", fn := fun _ => fun
  | [d] => { results := [.lit (.bool true)], args := [d] }
  | _ => none }
def clausesJoinRow : OpenClaim := { program := "ytihlofhnhkhnaaa", sum := "e4a4a6dc06c6023beccb488519b2c6105580db3b8c09af04f351e2e63118658d", func := "tailwater/tailwaterlaw08.ClausesJoin", spec := "clausesJoin", unfollowed := true, recurses := true, apart := false }
def ClausesJoinSaid : Prop := clausesJoinRow.holds Try.pinned (OpenSpec.ofChange clausesJoinSpec)

/-- ITS FALSE NEIGHBOUR: 'it returns false'. Refute it at one input. -/
def clausesJoinWrong : ChangeSpec := { name := "clausesJoin", fn := fun _ => fun
  | [d] => { results := [.lit (.bool false)], args := [d] }
  | _ => none }
def ClausesJoinWrongFalsely : Prop := clausesJoinRow.holds Try.pinned (OpenSpec.ofChange clausesJoinWrong)

/-- 'tailwaterlaw08.ClausesQueries': WHATEVER THE INPUT: true; the input reads as it did. -/
def clausesQueriesSpec : ChangeSpec := { name := "clausesQueries", fn := fun _ => fun
  | [d1, d2] => { results := [.lit (.bool true)], args := [d1, d2] }
  | _ => none }
def clausesQueriesRow : OpenClaim := { program := "ytihlofhnhkhnaaa", sum := "e4a4a6dc06c6023beccb488519b2c6105580db3b8c09af04f351e2e63118658d", func := "tailwater/tailwaterlaw08.ClausesQueries", spec := "clausesQueries", unfollowed := true, recurses := true, apart := false }
def ClausesQueriesSaid : Prop := clausesQueriesRow.holds Try.pinned (OpenSpec.ofChange clausesQueriesSpec)

/-- ITS FALSE NEIGHBOUR: 'it returns false'. Refute it at one input. -/
def clausesQueriesWrong : ChangeSpec := { name := "clausesQueries", fn := fun _ => fun
  | [d1, d2] => { results := [.lit (.bool false)], args := [d1, d2] }
  | _ => none }
def ClausesQueriesWrongFalsely : Prop := clausesQueriesRow.holds Try.pinned (OpenSpec.ofChange clausesQueriesWrong)

/-- 'tailwaterlaw08.ClausesSame': WHATEVER THE INPUT: true; the input reads as it did. -/
def clausesSameSpec : ChangeSpec := { name := "clausesSame", fn := fun _ => fun
  | [d1, d2, d3] => { results := [.lit (.bool true)], args := [d1, d2, d3] }
  | _ => none }
def clausesSameRow : OpenClaim := { program := "ytihlofhnhkhnaaa", sum := "e4a4a6dc06c6023beccb488519b2c6105580db3b8c09af04f351e2e63118658d", func := "tailwater/tailwaterlaw08.ClausesSame", spec := "clausesSame", unfollowed := true, recurses := true, apart := false }
def ClausesSameSaid : Prop := clausesSameRow.holds Try.pinned (OpenSpec.ofChange clausesSameSpec)

/-- ITS FALSE NEIGHBOUR: 'it returns false'. Refute it at one input. -/
def clausesSameWrong : ChangeSpec := { name := "clausesSame", fn := fun _ => fun
  | [d1, d2, d3] => { results := [.lit (.bool false)], args := [d1, d2, d3] }
  | _ => none }
def ClausesSameWrongFalsely : Prop := clausesSameRow.holds Try.pinned (OpenSpec.ofChange clausesSameWrong)

/-- 'tailwaterlaw08.ClausesNames': WHATEVER THE INPUT: true; the input reads as it did. -/
def clausesNamesSpec : ChangeSpec := { name := "clausesNames", fn := fun _ => fun
  | [] => { results := [.lit (.bool true)], args := [] }
  | _ => none }
def clausesNamesRow : OpenClaim := { program := "ytihlofhnhkhnaaa", sum := "e4a4a6dc06c6023beccb488519b2c6105580db3b8c09af04f351e2e63118658d", func := "tailwater/tailwaterlaw08.ClausesNames", spec := "clausesNames", unfollowed := true, recurses := true, apart := false }
def ClausesNamesSaid : Prop := clausesNamesRow.holds Try.pinned (OpenSpec.ofChange clausesNamesSpec)

/-- ITS FALSE NEIGHBOUR: 'it returns false'. Refute it at one input. -/
def clausesNamesWrong : ChangeSpec := { name := "clausesNames", fn := fun _ => fun
  | [] => { results := [.lit (.bool false)], args := [] }
  | _ => none }
def ClausesNamesWrongFalsely : Prop := clausesNamesRow.holds Try.pinned (OpenSpec.ofChange clausesNamesWrong)

/- THE SECOND FORM. 'bulk': how many values and letters a reading holds, each counted each time it is reached (what is shared counts as often as it is met; a slice's spare places count too). A statement '..UptoSaid' is the law's where the arguments, and the package variables that the reading takes, are together of bulk at most 1048576: NARROWER than '..Said'. Prove '..Said' where nothing that the law and all that it calls make is longer than what came in: it says more and counts as full. Else prove '..UptoSaid'. A law counts once. -/
mutual
def uptoBulk {H : Type} : DataW H → Nat
  | .lit (.string bytes) => bytes.length + 1
  | .lit _ => 1
  | .nil => 1
  | .ptr d => uptoBulk d + 1
  | .slice elems spare => uptoBulkAll elems + uptoBulkAll spare + 1
  | .agg parts => uptoBulkAll parts + 1
  | .iface _ d => uptoBulk d + 1
  | .map entries => uptoBulkEntries entries + 1
  | .held _ => 1
def uptoBulkAll {H : Type} : List (DataW H) → Nat
  | [] => 0
  | d :: r => uptoBulk d + uptoBulkAll r
def uptoBulkEntries {H : Type} : List (Lit × DataW H) → Nat
  | [] => 0
  | x :: r => uptoBulkEntry x + uptoBulkEntries r
def uptoBulkEntry {H : Type} : Lit × DataW H → Nat
  | (.string bytes, d) => bytes.length + uptoBulk d + 1
  | (_, d) => uptoBulk d + 1
 end
def uptoSmall : (H : Type) → List (DataW H) → Bool := fun _ ds => decide (uptoBulkAll ds ≤ 1048576)
def OpenSpec.upto (s : _root_.Go.ChangeSpec) : _root_.Go.OpenSpec := { _root_.Go.OpenSpec.ofChange s with cond := some uptoSmall }

/-- 'tailwaterlaw08.ClausesParts', WHERE WHAT IT READS IS OF BULK AT MOST 1048576: true; the input reads as it did. -/
def clausesPartsUptoRow : OpenClaim := { program := "ytihlofhnhkhnaaa", sum := "e4a4a6dc06c6023beccb488519b2c6105580db3b8c09af04f351e2e63118658d", func := "tailwater/tailwaterlaw08.ClausesParts", spec := "clausesParts", unfollowed := true, recurses := true, apart := false, narrowed := true }
def ClausesPartsUptoSaid : Prop := clausesPartsUptoRow.holds Try.pinned (OpenSpec.upto clausesPartsSpec)

/-- 'tailwaterlaw08.ClausesOrder', WHERE WHAT IT READS IS OF BULK AT MOST 1048576: true; the input reads as it did. -/
def clausesOrderUptoRow : OpenClaim := { program := "ytihlofhnhkhnaaa", sum := "e4a4a6dc06c6023beccb488519b2c6105580db3b8c09af04f351e2e63118658d", func := "tailwater/tailwaterlaw08.ClausesOrder", spec := "clausesOrder", unfollowed := true, recurses := true, apart := false, narrowed := true }
def ClausesOrderUptoSaid : Prop := clausesOrderUptoRow.holds Try.pinned (OpenSpec.upto clausesOrderSpec)

/-- 'tailwaterlaw08.ClausesReplace', WHERE WHAT IT READS IS OF BULK AT MOST 1048576: true; the input reads as it did. -/
def clausesReplaceUptoRow : OpenClaim := { program := "ytihlofhnhkhnaaa", sum := "e4a4a6dc06c6023beccb488519b2c6105580db3b8c09af04f351e2e63118658d", func := "tailwater/tailwaterlaw08.ClausesReplace", spec := "clausesReplace", unfollowed := true, recurses := true, apart := false, narrowed := true }
def ClausesReplaceUptoSaid : Prop := clausesReplaceUptoRow.holds Try.pinned (OpenSpec.upto clausesReplaceSpec)

/-- 'tailwaterlaw08.ClausesJoin', WHERE WHAT IT READS IS OF BULK AT MOST 1048576: true; the input reads as it did. -/
def clausesJoinUptoRow : OpenClaim := { program := "ytihlofhnhkhnaaa", sum := "e4a4a6dc06c6023beccb488519b2c6105580db3b8c09af04f351e2e63118658d", func := "tailwater/tailwaterlaw08.ClausesJoin", spec := "clausesJoin", unfollowed := true, recurses := true, apart := false, narrowed := true }
def ClausesJoinUptoSaid : Prop := clausesJoinUptoRow.holds Try.pinned (OpenSpec.upto clausesJoinSpec)

/-- 'tailwaterlaw08.ClausesQueries', WHERE WHAT IT READS IS OF BULK AT MOST 1048576: true; the input reads as it did. -/
def clausesQueriesUptoRow : OpenClaim := { program := "ytihlofhnhkhnaaa", sum := "e4a4a6dc06c6023beccb488519b2c6105580db3b8c09af04f351e2e63118658d", func := "tailwater/tailwaterlaw08.ClausesQueries", spec := "clausesQueries", unfollowed := true, recurses := true, apart := false, narrowed := true }
def ClausesQueriesUptoSaid : Prop := clausesQueriesUptoRow.holds Try.pinned (OpenSpec.upto clausesQueriesSpec)

/-- 'tailwaterlaw08.ClausesSame', WHERE WHAT IT READS IS OF BULK AT MOST 1048576: true; the input reads as it did. -/
def clausesSameUptoRow : OpenClaim := { program := "ytihlofhnhkhnaaa", sum := "e4a4a6dc06c6023beccb488519b2c6105580db3b8c09af04f351e2e63118658d", func := "tailwater/tailwaterlaw08.ClausesSame", spec := "clausesSame", unfollowed := true, recurses := true, apart := false, narrowed := true }
def ClausesSameUptoSaid : Prop := clausesSameUptoRow.holds Try.pinned (OpenSpec.upto clausesSameSpec)

/-- 'tailwaterlaw08.ClausesNames', WHERE WHAT IT READS IS OF BULK AT MOST 1048576: true; the input reads as it did. -/
def clausesNamesUptoRow : OpenClaim := { program := "ytihlofhnhkhnaaa", sum := "e4a4a6dc06c6023beccb488519b2c6105580db3b8c09af04f351e2e63118658d", func := "tailwater/tailwaterlaw08.ClausesNames", spec := "clausesNames", unfollowed := true, recurses := true, apart := false, narrowed := true }
def ClausesNamesUptoSaid : Prop := clausesNamesUptoRow.holds Try.pinned (OpenSpec.upto clausesNamesSpec)

end Rows
end Go.Proofs.Ytihlofhnhkhnaaa
