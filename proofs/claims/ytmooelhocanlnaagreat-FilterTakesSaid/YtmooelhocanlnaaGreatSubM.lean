/-
  The subtree at an index. Plain Lean: no program in sight.
-/
import Derived.Test.YtmooelhocanlnaaGreatPartM
namespace Go.Proofs.YtmooelhocanlnaaGreat
open Go.AL
set_option linter.unusedSimpArgs false
set_option linter.unusedVariables false
structure Sub (e : Ex) (o j : Nat) (f : Ex) (pre post : List Node) (sp st : List Nat) : Prop where
  fl : e.fl o = pre ++ f.fl (o + pre.length) ++ post
  szs : e.szs = sp ++ f.szs ++ st
  len : sp.length = pre.length
  pos : pre.length + f.sz = j + 1
  wf : f.wf
  dp : f.dp ≤ e.dp
end Go.Proofs.YtmooelhocanlnaaGreat
