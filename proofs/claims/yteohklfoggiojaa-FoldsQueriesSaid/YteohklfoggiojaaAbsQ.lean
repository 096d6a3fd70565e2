/-
  The abstract layer, contracts that say less or ask more. Over whatever program; no program in sight.
-/
import Derived.Test.YteohklfoggiojaaAbsP
set_option linter.unusedSimpArgs false
set_option linter.unusedVariables false
set_option linter.constructorNameAsVariable false
namespace Go.AL
open Go.RowKit
set_option linter.unusedSimpArgs false
set_option linter.unusedVariables false
/-! ### contracts: saying less, asking more -/
theorem ACall.mono {P : Program} {f : FuncId} {args args' : List AV} {r r' : AV} (h : ACall P f args r) (ha : AVleL args' args) (hr : AVle r r') : ACall P f args' r' := by
  obtain ⟨hl, hle⟩ := AVleL_spec ha
  refine ⟨h.1, fun w S us h1 h2 h3 => (h.2 w S us h1 (by omega) fun i a u e1 e2 => ?_).mono fun e w' ⟨u, f1, f2, f3⟩ => ⟨u, f1, f2, hr _ _ _ _ _ _ f3⟩⟩
  have hi : i < args'.length := by rw [hl]; exact (List.getElem?_eq_some_iff.1 e1).1
  exact hle i _ a (List.getElem?_eq_getElem hi) e1 _ _ _ _ _ _ (h3 i _ u (List.getElem?_eq_getElem hi) e2)
theorem ACallN.mono {P : Program} {f : FuncId} {args args' : List AV} {r r' : AV} {news : List (Option Row)} (h : ACallN P f args r news) (ha : AVleL args' args) (hr : AVle r r') : ACallN P f args' r' news := by
  obtain ⟨hl, hle⟩ := AVleL_spec ha
  refine ⟨h.1, fun w S us h1 h2 h3 => (h.2 w S us h1 (by omega) fun i a u e1 e2 => ?_).mono fun e w' ⟨u, S', ρ', f1, f2, f3, f4, f5, f6⟩ => ⟨u, S', ρ', f1, f2, f3, f4, f5, hr _ _ _ _ _ _ f6⟩⟩
  have hi : i < args'.length := by rw [hl]; exact (List.getElem?_eq_some_iff.1 e1).1
  exact hle i _ a (List.getElem?_eq_getElem hi) e1 _ _ _ _ _ _ (h3 i _ u (List.getElem?_eq_getElem hi) e2)
theorem AVleL.cons {a b : AV} {as bs : List AV} (h : AVle a b) (k : AVleL as bs) : AVleL (a :: as) (b :: bs) := ⟨h, k⟩
theorem AVleL.nil : AVleL [] [] := trivial
theorem AVleL.refl : ∀ (as : List AV), AVleL as as
  | [] => trivial
  | a :: as => ⟨AVle.refl a, AVleL.refl as⟩
end Go.AL
namespace Go.AL
open Go.RowKit
set_option linter.unusedSimpArgs false
set_option linter.unusedVariables false
variable {P : Program} {n : Nat}
/-! ### drawn regions with calls whose results are the caller's own -/
def isCN (nf : List Nat) : Op → Bool
  | .call ⟨.value (.func g), _, _⟩ => keepR nf g
  | _ => false
def notRp : AV → Prop
  | .rp _ _ _ _ => False
  | _ => True
def rowlow (ev : Operand → AV) : Op → Prop
  | .load _ a => notRp (un (ev a))
  | .call ⟨.value f, args, _⟩ => lowEv 0 0 ev (Op.call ⟨.value f, args, #[]⟩).operands.toList
  | _ => True
def cN (P : Program) (B : List (List AV)) (R : List (Option Row)) (ev : Operand → AV) (op : Op) (K : AV → List (Option Row) → Prop) : Prop :=
  match op with
  | .call ⟨.value f, args, _⟩ =>
    match fnOf (un (ev f)) with
    | some g => uok true (ev f) ∧ uoks true ev args.toList ∧ ∃ r news, ACallN P g.1 ((args.toList.map fun x => (un (ev x)).lend B R) ++ g.2.map (AV.lend B R)) r news ∧
        (noOwnL (args.toList.map fun x => un (ev x)) && noOwnL g.2) = true ∧ lowEv 0 0 ev args.toList ∧ g.2 = [] ∧ K (r.shift R.length) news
    | none => False
  | _ => False
def aopR (P : Program) (n : Nat) (gs : Nat → Option Nat) (nf : List Nat) (o : Oper) (st : ASt) (K : ASt → Prop) : Prop :=
  match isCN nf o.op with
  | true => o.guard = none ∧ dok n o.dst ∧ cN P st.boxes st.rows (evA st.env) o.op fun v news => K ⟨(st.put o.dst v).env, st.boxes, st.rows ++ news⟩
  | false => rowlow (evA st.env) o.op ∧ aopM P n gs (false, false) o st K
end Go.AL
open Go Go.AL in
attribute [go_sem] aopR cN isCN rowlow notRp
