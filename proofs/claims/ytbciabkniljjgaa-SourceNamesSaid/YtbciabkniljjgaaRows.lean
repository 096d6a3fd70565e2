/-
  No cell of these rows narrows 'for every input' (looked for: loops, veiled, ifaces, maps, wideKeys, modest, calm, conditions, laid).
  DERIVED. THE GIVEN ROWS OF THIS SEAT. 11 by the template 'for every input the law returns true; each argument reads behind the call as it read before'; 0 by the template 'total and deterministic' (their statements: YtbciabkniljjgaaTotals.lean).
  GIVEN WITH THE SEED: the statements are not yours to turn. If you find one false, say at which input.
  Laid BY PROGRAM, IN A SANDBOX (cutbox-rows.mjs): the forced cells as the released guide's own fill.sh prints them over the translation 42d50221c50f93e1… (all of the seat's roots in one cut). By AI agents, Wed Nov 11 2026. No macro, syntax, notation, axiom, sorry.
-/
import Derived.Test.YtbciabkniljjgaaChecked
import GoSem.Claim
import GoSem.ClaimJoined
import GoSem.ClaimMapViews
import Derived.JoinedTies
import Derived.KernelRfl
namespace Go.Proofs.Ytbciabkniljjgaa
/- THE CELL 'sum', in the pinned program and in every row, IS THE sha256 OF THE DUMP (.gsa) THAT YtbciabkniljjgaaProg.lean LOADS. Nothing in Lean hashes anything: it is a label: what it is worth is what the hold of that sum in a sandbox is worth. -/
noncomputable def Try.pinned : Pinned := { name := "ytbciabkniljjgaa", sum := "42d50221c50f93e10ce129516f2bfb594d0090ef7ffede58f824aba99a223cc4", checked := Try.checked }
namespace Rows
def none {H : Type} : Left H := { results := [], args := [] }

/-- 'tailwaterlaw28.SourceNews': WHATEVER THE INPUT: true; the input reads as it did. -/
def sourceNewsSpec : ChangeSpec := { name := "sourceNews", fn := fun _ => fun
  | [d1, d2] => { results := [.lit (.bool true)], args := [d1, d2] }
  | _ => none }
def sourceNewsRow : OpenClaim := { program := "ytbciabkniljjgaa", sum := "42d50221c50f93e10ce129516f2bfb594d0090ef7ffede58f824aba99a223cc4", func := "tailwater/tailwaterlaw28.SourceNews", spec := "sourceNews", unfollowed := true, recurses := true, apart := false }
def SourceNewsSaid : Prop := sourceNewsRow.holds Try.pinned (OpenSpec.ofChange sourceNewsSpec)

/-- ITS FALSE NEIGHBOUR: 'it returns false'. Refute it at one input. -/
def sourceNewsWrong : ChangeSpec := { name := "sourceNews", fn := fun _ => fun
  | [d1, d2] => { results := [.lit (.bool false)], args := [d1, d2] }
  | _ => none }
def SourceNewsWrongFalsely : Prop := sourceNewsRow.holds Try.pinned (OpenSpec.ofChange sourceNewsWrong)

/-- 'tailwaterlaw28.SourceEvents': WHATEVER THE INPUT: true; the input reads as it did. -/
def sourceEventsSpec : ChangeSpec := { name := "sourceEvents", fn := fun _ => fun
  | [d1, d2, d3] => { results := [.lit (.bool true)], args := [d1, d2, d3] }
  | _ => none }
def sourceEventsRow : OpenClaim := { program := "ytbciabkniljjgaa", sum := "42d50221c50f93e10ce129516f2bfb594d0090ef7ffede58f824aba99a223cc4", func := "tailwater/tailwaterlaw28.SourceEvents", spec := "sourceEvents", unfollowed := true, recurses := true, apart := false }
def SourceEventsSaid : Prop := sourceEventsRow.holds Try.pinned (OpenSpec.ofChange sourceEventsSpec)

/-- ITS FALSE NEIGHBOUR: 'it returns false'. Refute it at one input. -/
def sourceEventsWrong : ChangeSpec := { name := "sourceEvents", fn := fun _ => fun
  | [d1, d2, d3] => { results := [.lit (.bool false)], args := [d1, d2, d3] }
  | _ => none }
def SourceEventsWrongFalsely : Prop := sourceEventsRow.holds Try.pinned (OpenSpec.ofChange sourceEventsWrong)

/-- 'tailwaterlaw30.PartKeys': WHATEVER THE INPUT: true; the input reads as it did. -/
def partKeysSpec : ChangeSpec := { name := "partKeys", fn := fun _ => fun
  | [d1, d2, d3] => { results := [.lit (.bool true)], args := [d1, d2, d3] }
  | _ => none }
def partKeysRow : OpenClaim := { program := "ytbciabkniljjgaa", sum := "42d50221c50f93e10ce129516f2bfb594d0090ef7ffede58f824aba99a223cc4", func := "tailwater/tailwaterlaw30.PartKeys", spec := "partKeys", apart := false }
def PartKeysSaid : Prop := partKeysRow.holds Try.pinned (OpenSpec.ofChange partKeysSpec)

/-- ITS FALSE NEIGHBOUR: 'it returns false'. Refute it at one input. -/
def partKeysWrong : ChangeSpec := { name := "partKeys", fn := fun _ => fun
  | [d1, d2, d3] => { results := [.lit (.bool false)], args := [d1, d2, d3] }
  | _ => none }
def PartKeysWrongFalsely : Prop := partKeysRow.holds Try.pinned (OpenSpec.ofChange partKeysWrong)

/-- 'tailwaterlaw30.PartNext': WHATEVER THE INPUT: true; the input reads as it did. -/
def partNextSpec : ChangeSpec := { name := "partNext", fn := fun _ => fun
  | [d1, d2] => { results := [.lit (.bool true)], args := [d1, d2] }
  | _ => none }
def partNextRow : OpenClaim := { program := "ytbciabkniljjgaa", sum := "42d50221c50f93e10ce129516f2bfb594d0090ef7ffede58f824aba99a223cc4", func := "tailwater/tailwaterlaw30.PartNext", spec := "partNext", apart := false }
def PartNextSaid : Prop := partNextRow.holds Try.pinned (OpenSpec.ofChange partNextSpec)

/-- ITS FALSE NEIGHBOUR: 'it returns false'. Refute it at one input. -/
def partNextWrong : ChangeSpec := { name := "partNext", fn := fun _ => fun
  | [d1, d2] => { results := [.lit (.bool false)], args := [d1, d2] }
  | _ => none }
def PartNextWrongFalsely : Prop := partNextRow.holds Try.pinned (OpenSpec.ofChange partNextWrong)

/-- 'tailwaterlaw30.PartTakes': WHATEVER THE INPUT: true; the input reads as it did. -/
def partTakesSpec : ChangeSpec := { name := "partTakes", fn := fun _ => fun
  | [d1, d2, d3, d4, d5] => { results := [.lit (.bool true)], args := [d1, d2, d3, d4, d5] }
  | _ => none }
def partTakesRow : OpenClaim := { program := "ytbciabkniljjgaa", sum := "42d50221c50f93e10ce129516f2bfb594d0090ef7ffede58f824aba99a223cc4", func := "tailwater/tailwaterlaw30.PartTakes", spec := "partTakes", apart := false }
def PartTakesSaid : Prop := partTakesRow.holds Try.pinned (OpenSpec.ofChange partTakesSpec)

/-- ITS FALSE NEIGHBOUR: 'it returns false'. Refute it at one input. -/
def partTakesWrong : ChangeSpec := { name := "partTakes", fn := fun _ => fun
  | [d1, d2, d3, d4, d5] => { results := [.lit (.bool false)], args := [d1, d2, d3, d4, d5] }
  | _ => none }
def PartTakesWrongFalsely : Prop := partTakesRow.holds Try.pinned (OpenSpec.ofChange partTakesWrong)

/-- 'tailwaterlaw30.PartNames': WHATEVER THE INPUT: true; the input reads as it did. -/
def partNamesSpec : ChangeSpec := { name := "partNames", fn := fun _ => fun
  | [] => { results := [.lit (.bool true)], args := [] }
  | _ => none }
def partNamesRow : OpenClaim := { program := "ytbciabkniljjgaa", sum := "42d50221c50f93e10ce129516f2bfb594d0090ef7ffede58f824aba99a223cc4", func := "tailwater/tailwaterlaw30.PartNames", spec := "partNames", apart := false }
def PartNamesSaid : Prop := partNamesRow.holds Try.pinned (OpenSpec.ofChange partNamesSpec)

/-- ITS FALSE NEIGHBOUR: 'it returns false'. Refute it at one input. -/
def partNamesWrong : ChangeSpec := { name := "partNames", fn := fun _ => fun
  | [] => { results := [.lit (.bool false)], args := [] }
  | _ => none }
def PartNamesWrongFalsely : Prop := partNamesRow.holds Try.pinned (OpenSpec.ofChange partNamesWrong)

/-- 'tailwaterlaw30.PartOneWay': WHATEVER THE INPUT: true; the input reads as it did. -/
def partOneWaySpec : ChangeSpec := { name := "partOneWay", fn := fun _ => fun
  | [d1, d2] => { results := [.lit (.bool true)], args := [d1, d2] }
  | _ => none }
def partOneWayRow : OpenClaim := { program := "ytbciabkniljjgaa", sum := "42d50221c50f93e10ce129516f2bfb594d0090ef7ffede58f824aba99a223cc4", func := "tailwater/tailwaterlaw30.PartOneWay", spec := "partOneWay", apart := false }
def PartOneWaySaid : Prop := partOneWayRow.holds Try.pinned (OpenSpec.ofChange partOneWaySpec)

/-- ITS FALSE NEIGHBOUR: 'it returns false'. Refute it at one input. -/
def partOneWayWrong : ChangeSpec := { name := "partOneWay", fn := fun _ => fun
  | [d1, d2] => { results := [.lit (.bool false)], args := [d1, d2] }
  | _ => none }
def PartOneWayWrongFalsely : Prop := partOneWayRow.holds Try.pinned (OpenSpec.ofChange partOneWayWrong)

/-- 'tailwaterlaw28.SourceSteps': WHATEVER THE INPUT: true; the input reads as it did. -/
def sourceStepsSpec : ChangeSpec := { name := "sourceSteps", fn := fun _ => fun
  | [d] => { results := [.lit (.bool true)], args := [d] }
  | _ => none }
def sourceStepsRow : OpenClaim := { program := "ytbciabkniljjgaa", sum := "42d50221c50f93e10ce129516f2bfb594d0090ef7ffede58f824aba99a223cc4", func := "tailwater/tailwaterlaw28.SourceSteps", spec := "sourceSteps", unfollowed := true, recurses := true, apart := false }
def SourceStepsSaid : Prop := sourceStepsRow.holds Try.pinned (OpenSpec.ofChange sourceStepsSpec)

/-- ITS FALSE NEIGHBOUR: 'it returns false'. Refute it at one input. -/
def sourceStepsWrong : ChangeSpec := { name := "sourceSteps", fn := fun _ => fun
  | [d] => { results := [.lit (.bool false)], args := [d] }
  | _ => none }
def SourceStepsWrongFalsely : Prop := sourceStepsRow.holds Try.pinned (OpenSpec.ofChange sourceStepsWrong)

/-- 'tailwaterlaw28.SourceNames': WHATEVER THE INPUT: true; the input reads as it did. -/
def sourceNamesSpec : ChangeSpec := { name := "sourceNames", fn := fun _ => fun
  | [] => { results := [.lit (.bool true)], args := [] }
  | _ => none }
def sourceNamesRow : OpenClaim := { program := "ytbciabkniljjgaa", sum := "42d50221c50f93e10ce129516f2bfb594d0090ef7ffede58f824aba99a223cc4", func := "tailwater/tailwaterlaw28.SourceNames", spec := "sourceNames", unfollowed := true, recurses := true, apart := false }
def SourceNamesSaid : Prop := sourceNamesRow.holds Try.pinned (OpenSpec.ofChange sourceNamesSpec)

/-- ITS FALSE NEIGHBOUR: 'it returns false'. Refute it at one input. -/
def sourceNamesWrong : ChangeSpec := { name := "sourceNames", fn := fun _ => fun
  | [] => { results := [.lit (.bool false)], args := [] }
  | _ => none }
def SourceNamesWrongFalsely : Prop := sourceNamesRow.holds Try.pinned (OpenSpec.ofChange sourceNamesWrong)

/-- 'tailwaterlaw28.SourceOrder': WHATEVER THE INPUT: true; the input reads as it did. -/
def sourceOrderSpec : ChangeSpec := { name := "sourceOrder", fn := fun _ => fun
  | [d1, d2] => { results := [.lit (.bool true)], args := [d1, d2] }
  | _ => none }
def sourceOrderRow : OpenClaim := { program := "ytbciabkniljjgaa", sum := "42d50221c50f93e10ce129516f2bfb594d0090ef7ffede58f824aba99a223cc4", func := "tailwater/tailwaterlaw28.SourceOrder", spec := "sourceOrder", unfollowed := true, recurses := true, apart := false }
def SourceOrderSaid : Prop := sourceOrderRow.holds Try.pinned (OpenSpec.ofChange sourceOrderSpec)

/-- ITS FALSE NEIGHBOUR: 'it returns false'. Refute it at one input. -/
def sourceOrderWrong : ChangeSpec := { name := "sourceOrder", fn := fun _ => fun
  | [d1, d2] => { results := [.lit (.bool false)], args := [d1, d2] }
  | _ => none }
def SourceOrderWrongFalsely : Prop := sourceOrderRow.holds Try.pinned (OpenSpec.ofChange sourceOrderWrong)

/-- 'tailwaterlaw28.SourceSame': WHATEVER THE INPUT: true; the input reads as it did. -/
def sourceSameSpec : ChangeSpec := { name := "sourceSame", fn := fun _ => fun
  | [d] => { results := [.lit (.bool true)], args := [d] }
  | _ => none }
def sourceSameRow : OpenClaim := { program := "ytbciabkniljjgaa", sum := "42d50221c50f93e10ce129516f2bfb594d0090ef7ffede58f824aba99a223cc4", func := "tailwater/tailwaterlaw28.SourceSame", spec := "sourceSame", unfollowed := true, recurses := true, apart := false }
def SourceSameSaid : Prop := sourceSameRow.holds Try.pinned (OpenSpec.ofChange sourceSameSpec)

/-- ITS FALSE NEIGHBOUR: 'it returns false'. Refute it at one input. -/
def sourceSameWrong : ChangeSpec := { name := "sourceSame", fn := fun _ => fun
  | [d] => { results := [.lit (.bool false)], args := [d] }
  | _ => none }
def SourceSameWrongFalsely : Prop := sourceSameRow.holds Try.pinned (OpenSpec.ofChange sourceSameWrong)

/- THE SECOND FORM. 'bulk': how many values and letters a reading holds, each counted each time it is reached (what is shared counts as often as it is met; a slice's spare places count too). A statement '..UptoSaid' is the law's where the arguments, and the package variables that the reading takes, are together of bulk at most 1048576: NARROWER than '..Said'. Prove '..Said' where nothing that the law and all that it calls make is longer than what came in: it says more and counts as full. Else prove '..UptoSaid'. A law counts once. -/
mutual
def uptoBulk {H : Type} : DataW H → Nat
  | .lit (.string bytes) => bytes.length + 1
  | .lit _ => 1
  | .nil => 1
  | .ptr d => uptoBulk d + 1
  | .slice elems spare => uptoBulkAll elems + uptoBulkAll spare + 1
  | .agg parts => uptoBulkAll parts + 1
  | .iface _ d => uptoBulk d + 1
  | .map entries => uptoBulkEntries entries + 1
  | .held _ => 1
def uptoBulkAll {H : Type} : List (DataW H) → Nat
  | [] => 0
  | d :: r => uptoBulk d + uptoBulkAll r
def uptoBulkEntries {H : Type} : List (Lit × DataW H) → Nat
  | [] => 0
  | x :: r => uptoBulkEntry x + uptoBulkEntries r
def uptoBulkEntry {H : Type} : Lit × DataW H → Nat
  | (.string bytes, d) => bytes.length + uptoBulk d + 1
  | (_, d) => uptoBulk d + 1
 end
def uptoSmall : (H : Type) → List (DataW H) → Bool := fun _ ds => decide (uptoBulkAll ds ≤ 1048576)
def OpenSpec.upto (s : _root_.Go.ChangeSpec) : _root_.Go.OpenSpec := { _root_.Go.OpenSpec.ofChange s with cond := some uptoSmall }

/-- 'tailwaterlaw28.SourceNews', WHERE WHAT IT READS IS OF BULK AT MOST 1048576: true; the input reads as it did. -/
def sourceNewsUptoRow : OpenClaim := { program := "ytbciabkniljjgaa", sum := "42d50221c50f93e10ce129516f2bfb594d0090ef7ffede58f824aba99a223cc4", func := "tailwater/tailwaterlaw28.SourceNews", spec := "sourceNews", unfollowed := true, recurses := true, apart := false, narrowed := true }
def SourceNewsUptoSaid : Prop := sourceNewsUptoRow.holds Try.pinned (OpenSpec.upto sourceNewsSpec)

/-- 'tailwaterlaw28.SourceEvents', WHERE WHAT IT READS IS OF BULK AT MOST 1048576: true; the input reads as it did. -/
def sourceEventsUptoRow : OpenClaim := { program := "ytbciabkniljjgaa", sum := "42d50221c50f93e10ce129516f2bfb594d0090ef7ffede58f824aba99a223cc4", func := "tailwater/tailwaterlaw28.SourceEvents", spec := "sourceEvents", unfollowed := true, recurses := true, apart := false, narrowed := true }
def SourceEventsUptoSaid : Prop := sourceEventsUptoRow.holds Try.pinned (OpenSpec.upto sourceEventsSpec)

/-- 'tailwaterlaw30.PartKeys', WHERE WHAT IT READS IS OF BULK AT MOST 1048576: true; the input reads as it did. -/
def partKeysUptoRow : OpenClaim := { program := "ytbciabkniljjgaa", sum := "42d50221c50f93e10ce129516f2bfb594d0090ef7ffede58f824aba99a223cc4", func := "tailwater/tailwaterlaw30.PartKeys", spec := "partKeys", apart := false, narrowed := true }
def PartKeysUptoSaid : Prop := partKeysUptoRow.holds Try.pinned (OpenSpec.upto partKeysSpec)

/-- 'tailwaterlaw30.PartNext', WHERE WHAT IT READS IS OF BULK AT MOST 1048576: true; the input reads as it did. -/
def partNextUptoRow : OpenClaim := { program := "ytbciabkniljjgaa", sum := "42d50221c50f93e10ce129516f2bfb594d0090ef7ffede58f824aba99a223cc4", func := "tailwater/tailwaterlaw30.PartNext", spec := "partNext", apart := false, narrowed := true }
def PartNextUptoSaid : Prop := partNextUptoRow.holds Try.pinned (OpenSpec.upto partNextSpec)

/-- 'tailwaterlaw30.PartTakes', WHERE WHAT IT READS IS OF BULK AT MOST 1048576: true; the input reads as it did. -/
def partTakesUptoRow : OpenClaim := { program := "ytbciabkniljjgaa", sum := "42d50221c50f93e10ce129516f2bfb594d0090ef7ffede58f824aba99a223cc4", func := "tailwater/tailwaterlaw30.PartTakes", spec := "partTakes", apart := false, narrowed := true }
def PartTakesUptoSaid : Prop := partTakesUptoRow.holds Try.pinned (OpenSpec.upto partTakesSpec)

/-- 'tailwaterlaw30.PartNames', WHERE WHAT IT READS IS OF BULK AT MOST 1048576: true; the input reads as it did. -/
def partNamesUptoRow : OpenClaim := { program := "ytbciabkniljjgaa", sum := "42d50221c50f93e10ce129516f2bfb594d0090ef7ffede58f824aba99a223cc4", func := "tailwater/tailwaterlaw30.PartNames", spec := "partNames", apart := false, narrowed := true }
def PartNamesUptoSaid : Prop := partNamesUptoRow.holds Try.pinned (OpenSpec.upto partNamesSpec)

/-- 'tailwaterlaw30.PartOneWay', WHERE WHAT IT READS IS OF BULK AT MOST 1048576: true; the input reads as it did. -/
def partOneWayUptoRow : OpenClaim := { program := "ytbciabkniljjgaa", sum := "42d50221c50f93e10ce129516f2bfb594d0090ef7ffede58f824aba99a223cc4", func := "tailwater/tailwaterlaw30.PartOneWay", spec := "partOneWay", apart := false, narrowed := true }
def PartOneWayUptoSaid : Prop := partOneWayUptoRow.holds Try.pinned (OpenSpec.upto partOneWaySpec)

/-- 'tailwaterlaw28.SourceSteps', WHERE WHAT IT READS IS OF BULK AT MOST 1048576: true; the input reads as it did. -/
def sourceStepsUptoRow : OpenClaim := { program := "ytbciabkniljjgaa", sum := "42d50221c50f93e10ce129516f2bfb594d0090ef7ffede58f824aba99a223cc4", func := "tailwater/tailwaterlaw28.SourceSteps", spec := "sourceSteps", unfollowed := true, recurses := true, apart := false, narrowed := true }
def SourceStepsUptoSaid : Prop := sourceStepsUptoRow.holds Try.pinned (OpenSpec.upto sourceStepsSpec)

/-- 'tailwaterlaw28.SourceNames', WHERE WHAT IT READS IS OF BULK AT MOST 1048576: true; the input reads as it did. -/
def sourceNamesUptoRow : OpenClaim := { program := "ytbciabkniljjgaa", sum := "42d50221c50f93e10ce129516f2bfb594d0090ef7ffede58f824aba99a223cc4", func := "tailwater/tailwaterlaw28.SourceNames", spec := "sourceNames", unfollowed := true, recurses := true, apart := false, narrowed := true }
def SourceNamesUptoSaid : Prop := sourceNamesUptoRow.holds Try.pinned (OpenSpec.upto sourceNamesSpec)

/-- 'tailwaterlaw28.SourceOrder', WHERE WHAT IT READS IS OF BULK AT MOST 1048576: true; the input reads as it did. -/
def sourceOrderUptoRow : OpenClaim := { program := "ytbciabkniljjgaa", sum := "42d50221c50f93e10ce129516f2bfb594d0090ef7ffede58f824aba99a223cc4", func := "tailwater/tailwaterlaw28.SourceOrder", spec := "sourceOrder", unfollowed := true, recurses := true, apart := false, narrowed := true }
def SourceOrderUptoSaid : Prop := sourceOrderUptoRow.holds Try.pinned (OpenSpec.upto sourceOrderSpec)

/-- 'tailwaterlaw28.SourceSame', WHERE WHAT IT READS IS OF BULK AT MOST 1048576: true; the input reads as it did. -/
def sourceSameUptoRow : OpenClaim := { program := "ytbciabkniljjgaa", sum := "42d50221c50f93e10ce129516f2bfb594d0090ef7ffede58f824aba99a223cc4", func := "tailwater/tailwaterlaw28.SourceSame", spec := "sourceSame", unfollowed := true, recurses := true, apart := false, narrowed := true }
def SourceSameUptoSaid : Prop := sourceSameUptoRow.holds Try.pinned (OpenSpec.upto sourceSameSpec)

end Rows
end Go.Proofs.Ytbciabkniljjgaa
