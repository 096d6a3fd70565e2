/-
  The abstract layer, calls of closures that write what is their caller's own. Over whatever program; no program in sight.
-/
import Derived.Test.YteohklfoggiojaaAbsQ
set_option linter.unusedSimpArgs false
set_option linter.unusedVariables false
set_option linter.constructorNameAsVariable false
/-! Calls of closures that write what is their caller's own: the body, stepped in place. -/
namespace Go.AL
open Go.RowKit
set_option linter.unusedSimpArgs false
set_option linter.unusedVariables false
variable {P : Program} {n : Nat}
def Act.jn (a : Act) (G : Array Value) : Act := { a with tmps := a.tmps ++ G }
def smallB (m : Nat) (o : Oper) : Bool :=
  o.guard.isNone && (match o.op with | .select _ _ => false | _ => true) && (o.op.operands.toList.all fun x => match x with | .tmp t => Nat.blt t m | _ => true) &&
    (match o.dst with | some d => Nat.blt d m | none => true)
theorem jn_eval {a : Act} {G : Array Value} {m : Nat} (hm : a.tmps.size = m) {x : Operand} (hx : ∀ t, x = .tmp t → t < m) : (Act.jn a G).eval x = a.eval x := by
  cases x with
  | tmp t =>
    have h0 : t < m := hx t rfl
    show (a.tmps ++ G).getD t undef = a.tmps.getD t undef
    have h1 : t < a.tmps.size := by rw [hm]; exact h0
    rw [Array.getD_eq_getD_getElem?, Array.getD_eq_getD_getElem?, Array.getElem?_append_left h1]
  | const v => rfl
  | global g => rfl
  | func f => rfl
theorem jn_put {a : Act} {G : Array Value} {m : Nat} (hm : a.tmps.size = m) {dst : Option Nat} (hd : ∀ d, dst = some d → d < m) (v : Value) : (Act.jn a G).put dst v = Act.jn (a.put dst v) G := by
  cases dst with
  | none => rfl
  | some d =>
    have := hd d rfl
    simp only [Act.jn, Act.put]
    congr 1
    exact Array.setIfInBounds_append_left (by omega)
theorem put_size {a : Act} {dst : Option Nat} {v : Value} : (a.put dst v).tmps.size = a.tmps.size := by
  cases dst <;> simp [Act.put]
theorem smallB_spec {m : Nat} {o : Oper} (h : smallB m o = true) : o.guard = none ∧ (∀ cs b, o.op ≠ .select cs b) ∧ (∀ x ∈ o.op.operands, ∀ t, x = .tmp t → t < m) ∧ (∀ d, o.dst = some d → d < m) := by
  unfold smallB at h
  simp only [Bool.and_eq_true] at h
  obtain ⟨⟨⟨h1, h2⟩, h3⟩, h4⟩ := h
  refine ⟨by simpa using h1, ?_, fun x hx t e => ?_, fun d e => ?_⟩
  · intro cs b e
    rw [e] at h2
    cases h2
  · subst e
    have := List.all_eq_true.1 h3 (.tmp t) (by simpa using hx)
    simpa [Nat.blt_eq] using this
  · rw [e] at h4
    simpa [Nat.blt_eq] using h4
/-! ### straight code -/
def AFl (P : Program) (n : Nat) : List (Nat × List Oper) → (ASt → Prop) → ASt → Prop
  | [], K, st => K st
  | (_, l) :: ls, K, st => ∀ (gs : Nat → Option Nat) (K' : ASt → Prop), (∀ j, gs j = gslot l j) → (∀ s, AFl P n ls K s → K' s) → aops P n gs l (l.map fun _ => []) st K'
theorem AFl.cons {id : Nat} {l : List Oper} {ls : List (Nat × List Oper)} {K : ASt → Prop} {st : ASt}
    (h : ∀ (gs : Nat → Option Nat) (K' : ASt → Prop), (∀ j, gs j = gslot l j) → (∀ s, AFl P n ls K s → K' s) → aops P n gs l (l.map fun _ => []) st K') : AFl P n ((id, l) :: ls) K st := h
theorem AFl.nil {K : ASt → Prop} {st : ASt} (h : K st) : AFl P n [] K st := h
/-! ### the joined slots -/
def shE (m : Nat) : List (Nat × AV) → List (Nat × AV)
  | [] => []
  | (k, v) :: t => (k + m, v) :: shE m t
def backE (m : Nat) : List (Nat × AV) → List (Nat × AV)
  | [] => []
  | (k, v) :: t => if m ≤ k then (k - m, v) :: backE m t else backE m t
def ASt.back (m : Nat) (st : ASt) : ASt := ⟨backE m st.env, st.boxes, st.rows⟩
def appE : List (Nat × AV) → List (Nat × AV) → List (Nat × AV)
  | [], y => y
  | p :: t, y => p :: appE t y
theorem eget_shE (m : Nat) : ∀ (env : List (Nat × AV)) (s : Nat), eget (shE m env) s = if m ≤ s then eget env (s - m) else .any
  | [], s => by simp [shE, eget]
  | (k, v) :: t, s => by
    simp only [shE, eget, eget_shE m t s]
    by_cases h : m ≤ s
    · rw [if_pos h, if_pos h]
      by_cases h2 : k = s - m
      · rw [if_pos h2, if_pos (by omega)]
      · rw [if_neg h2, if_neg (by omega)]
    · rw [if_neg h, if_neg h, if_neg (by omega)]
theorem eget_backE (m : Nat) : ∀ (env : List (Nat × AV)) (s : Nat), eget (backE m env) s = eget env (s + m)
  | [], s => by simp [backE, eget]
  | (k, v) :: t, s => by
    simp only [backE]
    by_cases h : m ≤ k
    · rw [if_pos h]
      simp only [eget, eget_backE m t s]
      by_cases h2 : k - m = s
      · rw [if_pos h2, if_pos (by omega)]
      · rw [if_neg h2, if_neg (by omega)]
    · rw [if_neg h]
      simp only [eget, eget_backE m t s]
      rw [if_neg (by omega)]
theorem eget_args : ∀ (k : Nat) (as : List AV) (ys : List (Nat × AV)) (s : Nat), eget (appE (argsE k as) ys) s = if k ≤ s ∧ s < k + as.length then as.getD (s - k) .any else eget ys s
  | k, [], ys, s => by
    simp only [argsE, appE]
    rw [if_neg]
    simp only [List.length_nil]
    omega
  | k, a :: as, ys, s => by
    simp only [argsE, appE, eget]
    by_cases h : k = s
    · subst h; simp
    · rw [if_neg h, eget_args (k + 1) as ys s]
      by_cases h2 : k + 1 ≤ s ∧ s < k + 1 + as.length
      · rw [if_pos h2, if_pos ⟨by omega, by simp; omega⟩, show s - k = (s - (k + 1)) + 1 by omega]; simp
      · rw [if_neg h2, if_neg (by simp; omega)]
theorem inline_env {w0 : World} {S0 : Stab} {st : ASt} {a : Act} {w : World} {S : Nat → Prop} {γ : List Nat} {ρ : List Value} (hr : RelAt w0 S0 n st a w S γ ρ) {us : List Value} {xs : List AV} (hl : us.length = xs.length)
    (hv : ∀ (i : Nat) (x : AV) (u : Value), xs[i]? = some x → us[i]? = some u → V w S γ ρ false x u) {k m : Nat} (hsz : (us.toArray ++ Array.replicate k undef).size = m) (hle : xs.length ≤ m) (s : Nat) :
    V w S γ ρ false (eget (appE (argsE 0 xs) (shE m st.env)) s) ((us.toArray ++ Array.replicate k undef ++ a.tmps).getD s undef) := by
  rw [eget_args, eget_shE, Array.getD_eq_getD_getElem?]
  split
  · rename_i hs
    have hs2 : s < xs.length := by omega
    rw [Array.getElem?_append_left (by omega), Array.getElem?_append_left (by simp; omega)]
    have h1 : xs[s]? = some (xs.getD (s - 0) .any) := by simp [List.getD_eq_getElem?_getD, hs2]
    have h2 : us[s]? = some (us[s]'(by omega)) := List.getElem?_eq_getElem _
    have := hv s _ _ h1 h2
    simpa [h2] using this
  · split
    · rename_i h1 h2
      rw [Array.getElem?_append_right (by omega), hsz]
      have := hr.env (s - m)
      rw [Array.getD_eq_getD_getElem?] at this
      exact this
    · exact .any
end Go.AL
open Go Go.AL in
attribute [go_sem] ASt.back backE shE appE argsE
