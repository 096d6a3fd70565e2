/-
  No cell of these rows narrows 'for every input' (looked for: loops, veiled, ifaces, maps, wideKeys, modest, calm, conditions, laid).
  DERIVED. THE GIVEN ROWS OF THIS SEAT. 12 by the template 'for every input the law returns true; each argument reads behind the call as it read before'; 0 by the template 'total and deterministic' (their statements: YtgcnlellpgkbeaaTotals.lean).
  GIVEN WITH THE SEED: the statements are not yours to turn. If you find one false, say at which input.
  Laid BY PROGRAM, IN A SANDBOX (cutbox-rows.mjs): the forced cells as the released guide's own fill.sh prints them over the translation 6f147503f41d1845… (all of the seat's roots in one cut). By AI agents, Wed Nov 11 2026. No macro, syntax, notation, axiom, sorry.
-/
import Derived.Test.YtgcnlellpgkbeaaChecked
import GoSem.Claim
import GoSem.ClaimJoined
import GoSem.ClaimMapViews
import Derived.JoinedTies
import Derived.KernelRfl
namespace Go.Proofs.Ytgcnlellpgkbeaa
/- THE CELL 'sum', in the pinned program and in every row, IS THE sha256 OF THE DUMP (.gsa) THAT YtgcnlellpgkbeaaProg.lean LOADS. Nothing in Lean hashes anything: it is a label: what it is worth is what the hold of that sum in a sandbox is worth. -/
noncomputable def Try.pinned : Pinned := { name := "ytgcnlellpgkbeaa", sum := "6f147503f41d18455dd6c707f474b78647b4d65e476d87d9b822575d279222d9", checked := Try.checked }
namespace Rows
def none {H : Type} : Left H := { results := [], args := [] }

/-- 'tailwaterlaw04.NodesSizes': WHATEVER THE INPUT: true; the input reads as it did. -/
def nodesSizesSpec : ChangeSpec := { name := "nodesSizes", fn := fun _ => fun
  | [d1, d2] => { results := [.lit (.bool true)], args := [d1, d2] }
  | _ => none }
def nodesSizesRow : OpenClaim := { program := "ytgcnlellpgkbeaa", sum := "6f147503f41d18455dd6c707f474b78647b4d65e476d87d9b822575d279222d9", func := "tailwater/tailwaterlaw04.NodesSizes", spec := "nodesSizes", apart := false }
def NodesSizesSaid : Prop := nodesSizesRow.holds Try.pinned (OpenSpec.ofChange nodesSizesSpec)

/-- ITS FALSE NEIGHBOUR: 'it returns false'. Refute it at one input. -/
def nodesSizesWrong : ChangeSpec := { name := "nodesSizes", fn := fun _ => fun
  | [d1, d2] => { results := [.lit (.bool false)], args := [d1, d2] }
  | _ => none }
def NodesSizesWrongFalsely : Prop := nodesSizesRow.holds Try.pinned (OpenSpec.ofChange nodesSizesWrong)

/-- 'tailwaterlaw04.NodesTells': WHATEVER THE INPUT: true; the input reads as it did. -/
def nodesTellsSpec : ChangeSpec := { name := "nodesTells", fn := fun _ => fun
  | [d1, d2, d3] => { results := [.lit (.bool true)], args := [d1, d2, d3] }
  | _ => none }
def nodesTellsRow : OpenClaim := { program := "ytgcnlellpgkbeaa", sum := "6f147503f41d18455dd6c707f474b78647b4d65e476d87d9b822575d279222d9", func := "tailwater/tailwaterlaw04.NodesTells", spec := "nodesTells", apart := false }
def NodesTellsSaid : Prop := nodesTellsRow.holds Try.pinned (OpenSpec.ofChange nodesTellsSpec)

/-- ITS FALSE NEIGHBOUR: 'it returns false'. Refute it at one input. -/
def nodesTellsWrong : ChangeSpec := { name := "nodesTells", fn := fun _ => fun
  | [d1, d2, d3] => { results := [.lit (.bool false)], args := [d1, d2, d3] }
  | _ => none }
def NodesTellsWrongFalsely : Prop := nodesTellsRow.holds Try.pinned (OpenSpec.ofChange nodesTellsWrong)

/-- 'tailwaterlaw06.KindsPlaces': WHATEVER THE INPUT: true; the input reads as it did. -/
def kindsPlacesSpec : ChangeSpec := { name := "kindsPlaces", fn := fun _ => fun
  | [d1, d2, d3] => { results := [.lit (.bool true)], args := [d1, d2, d3] }
  | _ => none }
def kindsPlacesRow : OpenClaim := { program := "ytgcnlellpgkbeaa", sum := "6f147503f41d18455dd6c707f474b78647b4d65e476d87d9b822575d279222d9", func := "tailwater/tailwaterlaw06.KindsPlaces", spec := "kindsPlaces", unfollowed := true, recurses := true, apart := false }
def KindsPlacesSaid : Prop := kindsPlacesRow.holds Try.pinned (OpenSpec.ofChange kindsPlacesSpec)

/-- ITS FALSE NEIGHBOUR: 'it returns false'. Refute it at one input. -/
def kindsPlacesWrong : ChangeSpec := { name := "kindsPlaces", fn := fun _ => fun
  | [d1, d2, d3] => { results := [.lit (.bool false)], args := [d1, d2, d3] }
  | _ => none }
def KindsPlacesWrongFalsely : Prop := kindsPlacesRow.holds Try.pinned (OpenSpec.ofChange kindsPlacesWrong)

/-- 'tailwaterlaw06.KindsNames': WHATEVER THE INPUT: true; the input reads as it did. -/
def kindsNamesSpec : ChangeSpec := { name := "kindsNames", fn := fun _ => fun
  | [] => { results := [.lit (.bool true)], args := [] }
  | _ => none }
def kindsNamesRow : OpenClaim := { program := "ytgcnlellpgkbeaa", sum := "6f147503f41d18455dd6c707f474b78647b4d65e476d87d9b822575d279222d9", func := "tailwater/tailwaterlaw06.KindsNames", spec := "kindsNames", unfollowed := true, recurses := true, apart := false }
def KindsNamesSaid : Prop := kindsNamesRow.holds Try.pinned (OpenSpec.ofChange kindsNamesSpec)

/-- ITS FALSE NEIGHBOUR: 'it returns false'. Refute it at one input. -/
def kindsNamesWrong : ChangeSpec := { name := "kindsNames", fn := fun _ => fun
  | [] => { results := [.lit (.bool false)], args := [] }
  | _ => none }
def KindsNamesWrongFalsely : Prop := kindsNamesRow.holds Try.pinned (OpenSpec.ofChange kindsNamesWrong)

/-- 'tailwaterlaw06.KindsTells': WHATEVER THE INPUT: true; the input reads as it did. -/
def kindsTellsSpec : ChangeSpec := { name := "kindsTells", fn := fun _ => fun
  | [d] => { results := [.lit (.bool true)], args := [d] }
  | _ => none }
def kindsTellsRow : OpenClaim := { program := "ytgcnlellpgkbeaa", sum := "6f147503f41d18455dd6c707f474b78647b4d65e476d87d9b822575d279222d9", func := "tailwater/tailwaterlaw06.KindsTells", spec := "kindsTells", unfollowed := true, recurses := true, apart := false }
def KindsTellsSaid : Prop := kindsTellsRow.holds Try.pinned (OpenSpec.ofChange kindsTellsSpec)

/-- ITS FALSE NEIGHBOUR: 'it returns false'. Refute it at one input. -/
def kindsTellsWrong : ChangeSpec := { name := "kindsTells", fn := fun _ => fun
  | [d] => { results := [.lit (.bool false)], args := [d] }
  | _ => none }
def KindsTellsWrongFalsely : Prop := kindsTellsRow.holds Try.pinned (OpenSpec.ofChange kindsTellsWrong)

/-- 'tailwaterlaw04.NodesMade': WHATEVER THE INPUT: true; the input reads as it did. -/
def nodesMadeSpec : ChangeSpec := { name := "nodesMade", fn := fun _ => fun
  | [d1, d2] => { results := [.lit (.bool true)], args := [d1, d2] }
  | _ => none }
def nodesMadeRow : OpenClaim := { program := "ytgcnlellpgkbeaa", sum := "6f147503f41d18455dd6c707f474b78647b4d65e476d87d9b822575d279222d9", func := "tailwater/tailwaterlaw04.NodesMade", spec := "nodesMade", apart := false }
def NodesMadeSaid : Prop := nodesMadeRow.holds Try.pinned (OpenSpec.ofChange nodesMadeSpec)

/-- ITS FALSE NEIGHBOUR: 'it returns false'. Refute it at one input. -/
def nodesMadeWrong : ChangeSpec := { name := "nodesMade", fn := fun _ => fun
  | [d1, d2] => { results := [.lit (.bool false)], args := [d1, d2] }
  | _ => none }
def NodesMadeWrongFalsely : Prop := nodesMadeRow.holds Try.pinned (OpenSpec.ofChange nodesMadeWrong)

/-- 'tailwaterlaw04.NodesSame': WHATEVER THE INPUT: true; the input reads as it did. -/
def nodesSameSpec : ChangeSpec := { name := "nodesSame", fn := fun _ => fun
  | [d1, d2, d3] => { results := [.lit (.bool true)], args := [d1, d2, d3] }
  | _ => none }
def nodesSameRow : OpenClaim := { program := "ytgcnlellpgkbeaa", sum := "6f147503f41d18455dd6c707f474b78647b4d65e476d87d9b822575d279222d9", func := "tailwater/tailwaterlaw04.NodesSame", spec := "nodesSame", unfollowed := true, recurses := true, apart := false }
def NodesSameSaid : Prop := nodesSameRow.holds Try.pinned (OpenSpec.ofChange nodesSameSpec)

/-- ITS FALSE NEIGHBOUR: 'it returns false'. Refute it at one input. -/
def nodesSameWrong : ChangeSpec := { name := "nodesSame", fn := fun _ => fun
  | [d1, d2, d3] => { results := [.lit (.bool false)], args := [d1, d2, d3] }
  | _ => none }
def NodesSameWrongFalsely : Prop := nodesSameRow.holds Try.pinned (OpenSpec.ofChange nodesSameWrong)

/-- 'tailwaterlaw04.NodesOther': WHATEVER THE INPUT: true; the input reads as it did. -/
def nodesOtherSpec : ChangeSpec := { name := "nodesOther", fn := fun _ => fun
  | [d1, d2, d3, d4] => { results := [.lit (.bool true)], args := [d1, d2, d3, d4] }
  | _ => none }
def nodesOtherRow : OpenClaim := { program := "ytgcnlellpgkbeaa", sum := "6f147503f41d18455dd6c707f474b78647b4d65e476d87d9b822575d279222d9", func := "tailwater/tailwaterlaw04.NodesOther", spec := "nodesOther", unfollowed := true, recurses := true, apart := false }
def NodesOtherSaid : Prop := nodesOtherRow.holds Try.pinned (OpenSpec.ofChange nodesOtherSpec)

/-- ITS FALSE NEIGHBOUR: 'it returns false'. Refute it at one input. -/
def nodesOtherWrong : ChangeSpec := { name := "nodesOther", fn := fun _ => fun
  | [d1, d2, d3, d4] => { results := [.lit (.bool false)], args := [d1, d2, d3, d4] }
  | _ => none }
def NodesOtherWrongFalsely : Prop := nodesOtherRow.holds Try.pinned (OpenSpec.ofChange nodesOtherWrong)

/-- 'tailwaterlaw06.KindsFirst': WHATEVER THE INPUT: true; the input reads as it did. -/
def kindsFirstSpec : ChangeSpec := { name := "kindsFirst", fn := fun _ => fun
  | [d] => { results := [.lit (.bool true)], args := [d] }
  | _ => none }
def kindsFirstRow : OpenClaim := { program := "ytgcnlellpgkbeaa", sum := "6f147503f41d18455dd6c707f474b78647b4d65e476d87d9b822575d279222d9", func := "tailwater/tailwaterlaw06.KindsFirst", spec := "kindsFirst", unfollowed := true, recurses := true, apart := false }
def KindsFirstSaid : Prop := kindsFirstRow.holds Try.pinned (OpenSpec.ofChange kindsFirstSpec)

/-- ITS FALSE NEIGHBOUR: 'it returns false'. Refute it at one input. -/
def kindsFirstWrong : ChangeSpec := { name := "kindsFirst", fn := fun _ => fun
  | [d] => { results := [.lit (.bool false)], args := [d] }
  | _ => none }
def KindsFirstWrongFalsely : Prop := kindsFirstRow.holds Try.pinned (OpenSpec.ofChange kindsFirstWrong)

/-- 'tailwaterlaw04.NodesNames': WHATEVER THE INPUT: true; the input reads as it did. -/
def nodesNamesSpec : ChangeSpec := { name := "nodesNames", fn := fun _ => fun
  | [] => { results := [.lit (.bool true)], args := [] }
  | _ => none }
def nodesNamesRow : OpenClaim := { program := "ytgcnlellpgkbeaa", sum := "6f147503f41d18455dd6c707f474b78647b4d65e476d87d9b822575d279222d9", func := "tailwater/tailwaterlaw04.NodesNames", spec := "nodesNames", unfollowed := true, recurses := true, apart := false }
def NodesNamesSaid : Prop := nodesNamesRow.holds Try.pinned (OpenSpec.ofChange nodesNamesSpec)

/-- ITS FALSE NEIGHBOUR: 'it returns false'. Refute it at one input. -/
def nodesNamesWrong : ChangeSpec := { name := "nodesNames", fn := fun _ => fun
  | [] => { results := [.lit (.bool false)], args := [] }
  | _ => none }
def NodesNamesWrongFalsely : Prop := nodesNamesRow.holds Try.pinned (OpenSpec.ofChange nodesNamesWrong)

/-- 'tailwaterlaw06.KindsMade': WHATEVER THE INPUT: true; the input reads as it did. -/
def kindsMadeSpec : ChangeSpec := { name := "kindsMade", fn := fun _ => fun
  | [d1, d2, d3] => { results := [.lit (.bool true)], args := [d1, d2, d3] }
  | _ => none }
def kindsMadeRow : OpenClaim := { program := "ytgcnlellpgkbeaa", sum := "6f147503f41d18455dd6c707f474b78647b4d65e476d87d9b822575d279222d9", func := "tailwater/tailwaterlaw06.KindsMade", spec := "kindsMade", unfollowed := true, recurses := true, apart := false }
def KindsMadeSaid : Prop := kindsMadeRow.holds Try.pinned (OpenSpec.ofChange kindsMadeSpec)

/-- ITS FALSE NEIGHBOUR: 'it returns false'. Refute it at one input. -/
def kindsMadeWrong : ChangeSpec := { name := "kindsMade", fn := fun _ => fun
  | [d1, d2, d3] => { results := [.lit (.bool false)], args := [d1, d2, d3] }
  | _ => none }
def KindsMadeWrongFalsely : Prop := kindsMadeRow.holds Try.pinned (OpenSpec.ofChange kindsMadeWrong)

/-- 'tailwaterlaw06.KindsOne': WHATEVER THE INPUT: true; the input reads as it did. -/
def kindsOneSpec : ChangeSpec := { name := "kindsOne", fn := fun _ => fun
  | [d1, d2] => { results := [.lit (.bool true)], args := [d1, d2] }
  | _ => none }
def kindsOneRow : OpenClaim := { program := "ytgcnlellpgkbeaa", sum := "6f147503f41d18455dd6c707f474b78647b4d65e476d87d9b822575d279222d9", func := "tailwater/tailwaterlaw06.KindsOne", spec := "kindsOne", unfollowed := true, recurses := true, apart := false }
def KindsOneSaid : Prop := kindsOneRow.holds Try.pinned (OpenSpec.ofChange kindsOneSpec)

/-- ITS FALSE NEIGHBOUR: 'it returns false'. Refute it at one input. -/
def kindsOneWrong : ChangeSpec := { name := "kindsOne", fn := fun _ => fun
  | [d1, d2] => { results := [.lit (.bool false)], args := [d1, d2] }
  | _ => none }
def KindsOneWrongFalsely : Prop := kindsOneRow.holds Try.pinned (OpenSpec.ofChange kindsOneWrong)

/- THE SECOND FORM. 'bulk': how many values and letters a reading holds, each counted each time it is reached (what is shared counts as often as it is met; a slice's spare places count too). A statement '..UptoSaid' is the law's where the arguments, and the package variables that the reading takes, are together of bulk at most 1048576: NARROWER than '..Said'. Prove '..Said' where nothing that the law and all that it calls make is longer than what came in: it says more and counts as full. Else prove '..UptoSaid'. A law counts once. -/
mutual
def uptoBulk {H : Type} : DataW H → Nat
  | .lit (.string bytes) => bytes.length + 1
  | .lit _ => 1
  | .nil => 1
  | .ptr d => uptoBulk d + 1
  | .slice elems spare => uptoBulkAll elems + uptoBulkAll spare + 1
  | .agg parts => uptoBulkAll parts + 1
  | .iface _ d => uptoBulk d + 1
  | .map entries => uptoBulkEntries entries + 1
  | .held _ => 1
def uptoBulkAll {H : Type} : List (DataW H) → Nat
  | [] => 0
  | d :: r => uptoBulk d + uptoBulkAll r
def uptoBulkEntries {H : Type} : List (Lit × DataW H) → Nat
  | [] => 0
  | x :: r => uptoBulkEntry x + uptoBulkEntries r
def uptoBulkEntry {H : Type} : Lit × DataW H → Nat
  | (.string bytes, d) => bytes.length + uptoBulk d + 1
  | (_, d) => uptoBulk d + 1
 end
def uptoSmall : (H : Type) → List (DataW H) → Bool := fun _ ds => decide (uptoBulkAll ds ≤ 1048576)
def OpenSpec.upto (s : _root_.Go.ChangeSpec) : _root_.Go.OpenSpec := { _root_.Go.OpenSpec.ofChange s with cond := some uptoSmall }

/-- 'tailwaterlaw04.NodesSizes', WHERE WHAT IT READS IS OF BULK AT MOST 1048576: true; the input reads as it did. -/
def nodesSizesUptoRow : OpenClaim := { program := "ytgcnlellpgkbeaa", sum := "6f147503f41d18455dd6c707f474b78647b4d65e476d87d9b822575d279222d9", func := "tailwater/tailwaterlaw04.NodesSizes", spec := "nodesSizes", apart := false, narrowed := true }
def NodesSizesUptoSaid : Prop := nodesSizesUptoRow.holds Try.pinned (OpenSpec.upto nodesSizesSpec)

/-- 'tailwaterlaw04.NodesTells', WHERE WHAT IT READS IS OF BULK AT MOST 1048576: true; the input reads as it did. -/
def nodesTellsUptoRow : OpenClaim := { program := "ytgcnlellpgkbeaa", sum := "6f147503f41d18455dd6c707f474b78647b4d65e476d87d9b822575d279222d9", func := "tailwater/tailwaterlaw04.NodesTells", spec := "nodesTells", apart := false, narrowed := true }
def NodesTellsUptoSaid : Prop := nodesTellsUptoRow.holds Try.pinned (OpenSpec.upto nodesTellsSpec)

/-- 'tailwaterlaw06.KindsPlaces', WHERE WHAT IT READS IS OF BULK AT MOST 1048576: true; the input reads as it did. -/
def kindsPlacesUptoRow : OpenClaim := { program := "ytgcnlellpgkbeaa", sum := "6f147503f41d18455dd6c707f474b78647b4d65e476d87d9b822575d279222d9", func := "tailwater/tailwaterlaw06.KindsPlaces", spec := "kindsPlaces", unfollowed := true, recurses := true, apart := false, narrowed := true }
def KindsPlacesUptoSaid : Prop := kindsPlacesUptoRow.holds Try.pinned (OpenSpec.upto kindsPlacesSpec)

/-- 'tailwaterlaw06.KindsNames', WHERE WHAT IT READS IS OF BULK AT MOST 1048576: true; the input reads as it did. -/
def kindsNamesUptoRow : OpenClaim := { program := "ytgcnlellpgkbeaa", sum := "6f147503f41d18455dd6c707f474b78647b4d65e476d87d9b822575d279222d9", func := "tailwater/tailwaterlaw06.KindsNames", spec := "kindsNames", unfollowed := true, recurses := true, apart := false, narrowed := true }
def KindsNamesUptoSaid : Prop := kindsNamesUptoRow.holds Try.pinned (OpenSpec.upto kindsNamesSpec)

/-- 'tailwaterlaw06.KindsTells', WHERE WHAT IT READS IS OF BULK AT MOST 1048576: true; the input reads as it did. -/
def kindsTellsUptoRow : OpenClaim := { program := "ytgcnlellpgkbeaa", sum := "6f147503f41d18455dd6c707f474b78647b4d65e476d87d9b822575d279222d9", func := "tailwater/tailwaterlaw06.KindsTells", spec := "kindsTells", unfollowed := true, recurses := true, apart := false, narrowed := true }
def KindsTellsUptoSaid : Prop := kindsTellsUptoRow.holds Try.pinned (OpenSpec.upto kindsTellsSpec)

/-- 'tailwaterlaw04.NodesMade', WHERE WHAT IT READS IS OF BULK AT MOST 1048576: true; the input reads as it did. -/
def nodesMadeUptoRow : OpenClaim := { program := "ytgcnlellpgkbeaa", sum := "6f147503f41d18455dd6c707f474b78647b4d65e476d87d9b822575d279222d9", func := "tailwater/tailwaterlaw04.NodesMade", spec := "nodesMade", apart := false, narrowed := true }
def NodesMadeUptoSaid : Prop := nodesMadeUptoRow.holds Try.pinned (OpenSpec.upto nodesMadeSpec)

/-- 'tailwaterlaw04.NodesSame', WHERE WHAT IT READS IS OF BULK AT MOST 1048576: true; the input reads as it did. -/
def nodesSameUptoRow : OpenClaim := { program := "ytgcnlellpgkbeaa", sum := "6f147503f41d18455dd6c707f474b78647b4d65e476d87d9b822575d279222d9", func := "tailwater/tailwaterlaw04.NodesSame", spec := "nodesSame", unfollowed := true, recurses := true, apart := false, narrowed := true }
def NodesSameUptoSaid : Prop := nodesSameUptoRow.holds Try.pinned (OpenSpec.upto nodesSameSpec)

/-- 'tailwaterlaw04.NodesOther', WHERE WHAT IT READS IS OF BULK AT MOST 1048576: true; the input reads as it did. -/
def nodesOtherUptoRow : OpenClaim := { program := "ytgcnlellpgkbeaa", sum := "6f147503f41d18455dd6c707f474b78647b4d65e476d87d9b822575d279222d9", func := "tailwater/tailwaterlaw04.NodesOther", spec := "nodesOther", unfollowed := true, recurses := true, apart := false, narrowed := true }
def NodesOtherUptoSaid : Prop := nodesOtherUptoRow.holds Try.pinned (OpenSpec.upto nodesOtherSpec)

/-- 'tailwaterlaw06.KindsFirst', WHERE WHAT IT READS IS OF BULK AT MOST 1048576: true; the input reads as it did. -/
def kindsFirstUptoRow : OpenClaim := { program := "ytgcnlellpgkbeaa", sum := "6f147503f41d18455dd6c707f474b78647b4d65e476d87d9b822575d279222d9", func := "tailwater/tailwaterlaw06.KindsFirst", spec := "kindsFirst", unfollowed := true, recurses := true, apart := false, narrowed := true }
def KindsFirstUptoSaid : Prop := kindsFirstUptoRow.holds Try.pinned (OpenSpec.upto kindsFirstSpec)

/-- 'tailwaterlaw04.NodesNames', WHERE WHAT IT READS IS OF BULK AT MOST 1048576: true; the input reads as it did. -/
def nodesNamesUptoRow : OpenClaim := { program := "ytgcnlellpgkbeaa", sum := "6f147503f41d18455dd6c707f474b78647b4d65e476d87d9b822575d279222d9", func := "tailwater/tailwaterlaw04.NodesNames", spec := "nodesNames", unfollowed := true, recurses := true, apart := false, narrowed := true }
def NodesNamesUptoSaid : Prop := nodesNamesUptoRow.holds Try.pinned (OpenSpec.upto nodesNamesSpec)

/-- 'tailwaterlaw06.KindsMade', WHERE WHAT IT READS IS OF BULK AT MOST 1048576: true; the input reads as it did. -/
def kindsMadeUptoRow : OpenClaim := { program := "ytgcnlellpgkbeaa", sum := "6f147503f41d18455dd6c707f474b78647b4d65e476d87d9b822575d279222d9", func := "tailwater/tailwaterlaw06.KindsMade", spec := "kindsMade", unfollowed := true, recurses := true, apart := false, narrowed := true }
def KindsMadeUptoSaid : Prop := kindsMadeUptoRow.holds Try.pinned (OpenSpec.upto kindsMadeSpec)

/-- 'tailwaterlaw06.KindsOne', WHERE WHAT IT READS IS OF BULK AT MOST 1048576: true; the input reads as it did. -/
def kindsOneUptoRow : OpenClaim := { program := "ytgcnlellpgkbeaa", sum := "6f147503f41d18455dd6c707f474b78647b4d65e476d87d9b822575d279222d9", func := "tailwater/tailwaterlaw06.KindsOne", spec := "kindsOne", unfollowed := true, recurses := true, apart := false, narrowed := true }
def KindsOneUptoSaid : Prop := kindsOneUptoRow.holds Try.pinned (OpenSpec.upto kindsOneSpec)

end Rows
end Go.Proofs.Ytgcnlellpgkbeaa
