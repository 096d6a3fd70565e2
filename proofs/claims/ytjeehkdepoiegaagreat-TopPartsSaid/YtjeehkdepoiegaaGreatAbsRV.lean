/-
  The abstract layer: calls of closures, drawn regions with what is made read only, code in a frame of whatever make. Over whatever program.
-/
import Derived.Test.YtjeehkdepoiegaaGreatAbsPQ
import Derived.RangeFuncNested
import Derived.OrdersIn
import Derived.Sort.LoopGhostIn
set_option linter.unusedSimpArgs false
set_option linter.unusedVariables false
set_option linter.constructorNameAsVariable false
/-! Calls of closures that write what is their caller's own: the body, stepped in place. -/
namespace Go.AL
open Go.RowKit
set_option linter.unusedSimpArgs false
set_option linter.unusedVariables false
variable {P : Program} {n : Nat}
def Act.jn (a : Act) (G : Array Value) : Act := { a with tmps := a.tmps ++ G }
def smallB (m : Nat) (o : Oper) : Bool :=
  o.guard.isNone && (match o.op with | .select _ _ => false | _ => true) && (o.op.operands.toList.all fun x => match x with | .tmp t => Nat.blt t m | _ => true) &&
    (match o.dst with | some d => Nat.blt d m | none => true)
theorem jn_eval {a : Act} {G : Array Value} {m : Nat} (hm : a.tmps.size = m) {x : Operand} (hx : ∀ t, x = .tmp t → t < m) : (Act.jn a G).eval x = a.eval x := by
  cases x with
  | tmp t =>
    have h0 : t < m := hx t rfl
    show (a.tmps ++ G).getD t undef = a.tmps.getD t undef
    have h1 : t < a.tmps.size := by rw [hm]; exact h0
    rw [Array.getD_eq_getD_getElem?, Array.getD_eq_getD_getElem?, Array.getElem?_append_left h1]
  | const v => rfl
  | global g => rfl
  | func f => rfl
theorem jn_put {a : Act} {G : Array Value} {m : Nat} (hm : a.tmps.size = m) {dst : Option Nat} (hd : ∀ d, dst = some d → d < m) (v : Value) : (Act.jn a G).put dst v = Act.jn (a.put dst v) G := by
  cases dst with
  | none => rfl
  | some d =>
    have := hd d rfl
    simp only [Act.jn, Act.put]
    congr 1
    exact Array.setIfInBounds_append_left (by omega)
theorem put_size {a : Act} {dst : Option Nat} {v : Value} : (a.put dst v).tmps.size = a.tmps.size := by
  cases dst <;> simp [Act.put]
theorem smallB_spec {m : Nat} {o : Oper} (h : smallB m o = true) : o.guard = none ∧ (∀ cs b, o.op ≠ .select cs b) ∧ (∀ x ∈ o.op.operands, ∀ t, x = .tmp t → t < m) ∧ (∀ d, o.dst = some d → d < m) := by
  unfold smallB at h
  simp only [Bool.and_eq_true] at h
  obtain ⟨⟨⟨h1, h2⟩, h3⟩, h4⟩ := h
  refine ⟨by simpa using h1, ?_, fun x hx t e => ?_, fun d e => ?_⟩
  · intro cs b e
    rw [e] at h2
    cases h2
  · subst e
    have := List.all_eq_true.1 h3 (.tmp t) (by simpa using hx)
    simpa [Nat.blt_eq] using this
  · rw [e] at h4
    simpa [Nat.blt_eq] using h4
/-! ### straight code -/
def AFl (P : Program) (n : Nat) : List (Nat × List Oper) → (ASt → Prop) → ASt → Prop
  | [], K, st => K st
  | (_, l) :: ls, K, st => ∀ (gs : Nat → Option Nat) (K' : ASt → Prop), (∀ j, gs j = gslot l j) → (∀ s, AFl P n ls K s → K' s) → aops P n gs l (l.map fun _ => []) st K'
theorem AFl.cons {id : Nat} {l : List Oper} {ls : List (Nat × List Oper)} {K : ASt → Prop} {st : ASt}
    (h : ∀ (gs : Nat → Option Nat) (K' : ASt → Prop), (∀ j, gs j = gslot l j) → (∀ s, AFl P n ls K s → K' s) → aops P n gs l (l.map fun _ => []) st K') : AFl P n ((id, l) :: ls) K st := h
theorem AFl.nil {K : ASt → Prop} {st : ASt} (h : K st) : AFl P n [] K st := h
/-! ### the joined slots -/
def shE (m : Nat) : List (Nat × AV) → List (Nat × AV)
  | [] => []
  | (k, v) :: t => (k + m, v) :: shE m t
def backE (m : Nat) : List (Nat × AV) → List (Nat × AV)
  | [] => []
  | (k, v) :: t => if m ≤ k then (k - m, v) :: backE m t else backE m t
def ASt.back (m : Nat) (st : ASt) : ASt := ⟨backE m st.env, st.boxes, st.rows⟩
def appE : List (Nat × AV) → List (Nat × AV) → List (Nat × AV)
  | [], y => y
  | p :: t, y => p :: appE t y
theorem eget_shE (m : Nat) : ∀ (env : List (Nat × AV)) (s : Nat), eget (shE m env) s = if m ≤ s then eget env (s - m) else .any
  | [], s => by simp [shE, eget]
  | (k, v) :: t, s => by
    simp only [shE, eget, eget_shE m t s]
    by_cases h : m ≤ s
    · rw [if_pos h, if_pos h]
      by_cases h2 : k = s - m
      · rw [if_pos h2, if_pos (by omega)]
      · rw [if_neg h2, if_neg (by omega)]
    · rw [if_neg h, if_neg h, if_neg (by omega)]
theorem eget_backE (m : Nat) : ∀ (env : List (Nat × AV)) (s : Nat), eget (backE m env) s = eget env (s + m)
  | [], s => by simp [backE, eget]
  | (k, v) :: t, s => by
    simp only [backE]
    by_cases h : m ≤ k
    · rw [if_pos h]
      simp only [eget, eget_backE m t s]
      by_cases h2 : k - m = s
      · rw [if_pos h2, if_pos (by omega)]
      · rw [if_neg h2, if_neg (by omega)]
    · rw [if_neg h]
      simp only [eget, eget_backE m t s]
      rw [if_neg (by omega)]
theorem eget_args : ∀ (k : Nat) (as : List AV) (ys : List (Nat × AV)) (s : Nat), eget (appE (argsE k as) ys) s = if k ≤ s ∧ s < k + as.length then as.getD (s - k) .any else eget ys s
  | k, [], ys, s => by
    simp only [argsE, appE]
    rw [if_neg]
    simp only [List.length_nil]
    omega
  | k, a :: as, ys, s => by
    simp only [argsE, appE, eget]
    by_cases h : k = s
    · subst h; simp
    · rw [if_neg h, eget_args (k + 1) as ys s]
      by_cases h2 : k + 1 ≤ s ∧ s < k + 1 + as.length
      · rw [if_pos h2, if_pos ⟨by omega, by simp; omega⟩, show s - k = (s - (k + 1)) + 1 by omega]; simp
      · rw [if_neg h2, if_neg (by simp; omega)]
theorem inline_env {w0 : World} {S0 : Stab} {st : ASt} {a : Act} {w : World} {S : Nat → Prop} {γ : List Nat} {ρ : List Value} (hr : RelAt w0 S0 n st a w S γ ρ) {us : List Value} {xs : List AV} (hl : us.length = xs.length)
    (hv : ∀ (i : Nat) (x : AV) (u : Value), xs[i]? = some x → us[i]? = some u → V w S γ ρ false x u) {k m : Nat} (hsz : (us.toArray ++ Array.replicate k undef).size = m) (hle : xs.length ≤ m) (s : Nat) :
    V w S γ ρ false (eget (appE (argsE 0 xs) (shE m st.env)) s) ((us.toArray ++ Array.replicate k undef ++ a.tmps).getD s undef) := by
  rw [eget_args, eget_shE, Array.getD_eq_getD_getElem?]
  split
  · rename_i hs
    have hs2 : s < xs.length := by omega
    rw [Array.getElem?_append_left (by omega), Array.getElem?_append_left (by simp; omega)]
    have h1 : xs[s]? = some (xs.getD (s - 0) .any) := by simp [List.getD_eq_getElem?_getD, hs2]
    have h2 : us[s]? = some (us[s]'(by omega)) := List.getElem?_eq_getElem _
    have := hv s _ _ h1 h2
    simpa [h2] using this
  · split
    · rename_i h1 h2
      rw [Array.getElem?_append_right (by omega), hsz]
      have := hr.env (s - m)
      rw [Array.getD_eq_getD_getElem?] at this
      exact this
    · exact .any
end Go.AL
open Go Go.AL in
attribute [go_sem] ASt.back backE shE appE argsE
set_option linter.unusedSimpArgs false
set_option linter.unusedVariables false
set_option linter.constructorNameAsVariable false
/-! Drawn regions that append, where what is made is read only: as A22, of which this is a variant (gen: see NOTES.md). -/
namespace Go.AL.P2
open Go.AL Go.RowKit
set_option linter.unusedSimpArgs false
set_option linter.unusedVariables false
def isW (op : Op) : Bool := isAp op
def memQ (op : Op) : Bool := memN op && !isW op && !isBx op
def pres (P : Program) (R : List (Option Row)) (ev : Operand → AV) : Op → (AV × Option Nat × List (Option Row)) × Prop
  | .call ⟨.builtin .append, args, ts⟩ => match args.toList, ts.toList with
    | [s, x], [t, t'] => match apT P t, elemsOf R (un (ev x)) with
      | some q, some y => match un (ev s) with
        | .own r sz off len => match getRow R r sz with
          | some rw_ => ((.own r sz 0 (len + y.2.length), some r, R.set r (some { rw_ with elems := rw_.elems.take len ++ y.2 })),
              t = t' ∧ uok true (ev s) ∧ uok true (ev x) ∧ (y.1 = q.2.1 ∨ y.2 = []) ∧ off = 0 ∧ sz = q.2.1 ∧ rw_.ty = q.1 ∧ (len + y.2.length) * q.2.2 ≤ 140737488355328)
          | none => ((.any, none, R), False)
        | _ => ((.any, none, R), False)
      | _, _ => ((.any, none, R), False)
    | _, _ => ((.any, none, R), False)
  | _ => ((.any, none, R), False)
variable {P : Program} {n : Nat}
def norEv (ev : Operand → AV) : List Operand → Prop
  | [] => True
  | x :: xs => (ev x).nor = true ∧ norEv ev xs
/-! ### what it says of memory -/
def killSt (r : Option Nat) (env : List (Nat × AV)) : List (Nat × AV) := match r with
  | none => env
  | some r => killE r env
def apureB (P : Program) (st : ASt) (op : Op) (K : AV → Prop) : Prop :=
  match op with
  | .buildSlice t len parts => amem P (evA st.env) (.buildSlice t len parts) K
  | op => apure P st true op K
def aopP (P : Program) (n : Nat) (gs : Nat → Option Nat) (al : Bool × Bool) (o : Oper) (st : ASt) (K : ASt → Prop) : Prop :=
  match isW o.op with
  | true => o.guard = none ∧ dok n o.dst ∧ (pres P st.rows (evA st.env) o.op).2 ∧
      K ⟨((⟨killSt (pres P st.rows (evA st.env) o.op).1.2.1 st.env, [], []⟩ : ASt).put o.dst (pres P st.rows (evA st.env) o.op).1.1).env, st.boxes.map (List.map (killO (pres P st.rows (evA st.env) o.op).1.2.1)), (pres P st.rows (evA st.env) o.op).1.2.2⟩
  | false => match memQ o.op with
    | true => o.guard = none ∧ dok n o.dst ∧ norEv (evA st.env) o.op.operands.toList ∧ apureB P st o.op fun v => v.nor = true ∧ K (st.put o.dst v)
    | false => aopM P n gs al o st K
end Go.AL.P2
open Go Go.AL in
attribute [go_sem] P2.aopP P2.pres P2.isW P2.memQ P2.apureB P2.norEv P2.killSt
set_option linter.unusedSimpArgs false
set_option linter.unusedVariables false
set_option linter.constructorNameAsVariable false
/-! Code in a frame of whatever make (an activation's own, or a round's of a range over a function), its slots joined with those of another frame that stands still. -/
namespace Go.AL
open Go.RowKit
set_option linter.unusedSimpArgs false
set_option linter.unusedVariables false
variable {P : Program} {m n : Nat} {ro : Option Nat}
def jF (ro : Option Nat) : Fence := { Fence.wide with round := ro }
def smallJ (m : Nat) (o : Oper) : Bool := smallB m o && (match o.op with | .defer _ => false | _ => true)
def smallL (m : Nat) (l : List Oper) : Bool := l.all (smallJ m)
theorem jF_calls {k : Nat} {f : FuncId} {args : Array Value} {w : World} {R : Ending → World → Prop} (h : Calls P f args w R) : CallsIn (jF ro) k P f args w R := callsIn_wide.2 h
theorem jF_rows {k : Nat} {row : String} {args : Array Value} {w : World} {R : Value → World → Prop} (h : Rows P row args w R) : RowsIn (jF ro) k P row args w R := fun c cs _ => by
  obtain ⟨v, w', r, s⟩ := h c cs
  exact ⟨v, w', r, stepsIn_wide.2 s⟩
theorem wp_jn {o : Oper} {G : Array Value} {K K' : Act → World → Prop} {Q Q' : Exit → Act → World → Prop} {k : Nat} (hs : smallJ m o = true) (hQ : ¬ LetsOut Q)
    (hK : ∀ a w, a.tmps.size = m → K (Act.jn a G) w → K' a w) (hq : ∀ c a w, a.tmps.size = m → Q (.panic c) (Act.jn a G) w → Q' (.panic c) a w) {a : Act} {w : World} (hm : a.tmps.size = m)
    (h : o.wp P (Act.jn a G) w K Q) : o.wpIn (jF ro) k P a w K' Q' := by
  simp only [smallJ, Bool.and_eq_true] at hs
  obtain ⟨s1, s2, s3, s4⟩ := smallB_spec hs.1
  have hd : ∀ c, o.op ≠ .defer c := fun c e => by have := hs.2; rw [e] at this; cases this
  refine ⟨fun _ _ => trivial, ?_⟩
  have hr : (jF ro).round = ro := rfl
  rw [hr, Oper.semAt_eq ro _ o hd]
  unfold Oper.wp at h
  rw [execOp_congr o s2 (fun x hx => jn_eval hm (s3 x hx))] at h
  have nx : ∀ v w', K ((Act.jn a G).put o.dst v) w' → K' (a.put o.dst v) w' := fun v w' h => by
    rw [jn_put hm s4] at h
    exact hK _ _ (by rw [put_size, hm]) h
  generalize (execOp a.eval o).run P w = r at h ⊢
  unfold Oper.upon at h
  split at h
  · exact nx _ _ h
  · exact nx _ _ h
  · rename_i d w'
    have e : ({ Act.jn a G with defers := d :: (Act.jn a G).defers } : Act).put o.dst undef = Act.jn (({ a with defers := d :: a.defers } : Act).put o.dst undef) G := jn_put (a := { a with defers := d :: a.defers }) hm s4 undef
    rw [e] at h
    exact hK _ _ (by rw [put_size]; exact hm) h
  · refine ⟨(fun hh => by simp [jF, Fence.wide] at hh), jF_calls (h.mono fun e w' h => ?_)⟩
    split at h
    · exact nx _ _ h
    · exact hq _ _ _ hm h
    · exact absurd h hQ
  · exact ⟨(fun hh => by simp [jF, Fence.wide] at hh), jF_rows (h.mono fun v w' h => nx _ _ h)⟩
  · exact hq _ _ _ hm h
  · exact h.elim
theorem wpList_jnIn {all : Array Oper} {G : Array Value} {Q Q' : Exit → Act → World → Prop} {k : Nat} (hQ : ¬ LetsOut Q) (hq : ∀ e a w, a.tmps.size = m → Q e (Act.jn a G) w → Q' e a w) :
    ∀ (l : List Oper) (a : Act) (w : World), a.tmps.size = m → smallL m l = true → wpList P all Q l (Act.jn a G) w → wpListIn (jF ro) k P all Q' l a w
  | [], a, w, hm, _, h => hq _ _ _ hm h
  | o :: l, a, w, hm, hs, h => by
    simp only [smallL, List.all_cons, Bool.and_eq_true] at hs
    have hg := (smallB_spec (by have := hs.1; simp only [smallJ, Bool.and_eq_true] at this; exact this.1)).1
    have hw : ∀ a : Act, Region.wanted o (yielded all a.tmps) = true := fun a => by simp [Region.wanted, hg]
    unfold wpList at h
    unfold wpListIn
    rw [if_pos (hw _)] at h ⊢
    rcases h with h | ⟨_, h⟩
    · exact wp_jn hs.1 hQ (fun a w hm h => wpList_jnIn hQ hq l a w hm hs.2 h) (fun c => hq (.panic c)) hm h
    · exact absurd h hQ
theorem wpAny_jnIn {all : Array Oper} {md : Region.Mode} {G : Array Value} {Q Q' : Exit → Act → World → Prop} {k : Nat} (hQ : ¬ LetsOut Q) (hq : ∀ e a w, a.tmps.size = m → Q e (Act.jn a G) w → Q' e a w)
    (hs : smallL m all.toList = true) :
    ∀ (fuel : Nat) (listed : Array Bool) (a : Act) (w : World), a.tmps.size = m → wpAny P md all Q fuel listed (Act.jn a G) w → wpAnyIn (jF ro) k P md all Q' fuel listed a w
  | 0, listed, a, w, hm, h => ⟨h.1, hq _ _ _ hm h.2⟩
  | fuel + 1, listed, a, w, hm, h => by
    refine ⟨fun h0 => hq _ _ _ hm (h.1 h0), fun i hi => ?_⟩
    have h1 := h.2 i hi
    have ih := fun (a : Act) (w : World) (hm : a.tmps.size = m) => wpAny_jnIn (k := k) (md := md) hQ hq hs fuel (listed.setIfInBounds i true) a w hm
    unfold wpOp at h1
    unfold wpOpIn
    cases ho : all[i]? with
    | none => rw [ho] at h1; exact ih _ _ hm h1
    | some o =>
      rw [ho] at h1
      have hso : smallJ m o = true := List.all_eq_true.1 hs o (by have := Array.mem_of_getElem? ho; simpa using this)
      have hg := (smallB_spec (by have := hso; simp only [smallJ, Bool.and_eq_true] at this; exact this.1)).1
      have hw : ∀ a : Act, Region.wanted o (yielded all a.tmps) = true := fun a => by simp [Region.wanted, hg]
      simp only [hw, if_true] at h1 ⊢
      rcases h1 with h1 | ⟨_, h1⟩
      · exact wp_jn hso hQ (fun a w hm h => ih a w hm h) (fun c => hq (.panic c)) hm h1
      · exact absurd h1 hQ
def smallJG (m : Nat) (o : Oper) : Bool := smallB m { o with guard := none } && (match o.op with | .defer _ => false | _ => true)
def smallLG (m : Nat) (l : List Oper) : Bool := l.all (smallJG m)
theorem wp_jnG {o : Oper} {G : Array Value} {K K' : Act → World → Prop} {Q Q' : Exit → Act → World → Prop} {k : Nat} (hs : smallJG m o = true) (hQ : ¬ LetsOut Q)
    (hK : ∀ a w, a.tmps.size = m → K (Act.jn a G) w → K' a w) (hq : ∀ c a w, a.tmps.size = m → Q (.panic c) (Act.jn a G) w → Q' (.panic c) a w) {a : Act} {w : World} (hm : a.tmps.size = m)
    (h : o.wp P (Act.jn a G) w K Q) : o.wpIn (jF ro) k P a w K' Q' := wp_jn (o := { o with guard := none }) hs hQ hK hq hm h
theorem yielded_jn {all : Array Oper} {a : Act} {G : Array Value} (hm : a.tmps.size = m) (hs : ∀ o ∈ all.toList, smallJG m o = true) : yielded all (Act.jn a G).tmps = yielded all a.tmps := by
  funext j
  unfold yielded
  cases ho : all[j]? with
  | none => rfl
  | some o =>
    have h1 := hs o (by have := Array.mem_of_getElem? ho; simpa using this)
    simp only [smallJG, Bool.and_eq_true] at h1
    obtain ⟨-, -, -, s4⟩ := smallB_spec h1.1
    simp only [Option.bind_some]
    cases hd : o.dst with
    | none => rfl
    | some d =>
      have hdm : d < a.tmps.size := by rw [hm]; exact s4 d hd
      simp only [Option.bind_some]
      have e : (Act.jn a G).tmps[d]? = a.tmps[d]? := by
        show (a.tmps ++ G)[d]? = _
        rw [Array.getElem?_append_left hdm]
      rw [e]
theorem wpList_jnInG {all : Array Oper} {G : Array Value} {Q Q' : Exit → Act → World → Prop} {k : Nat} (hQ : ¬ LetsOut Q) (hq : ∀ e a w, a.tmps.size = m → Q e (Act.jn a G) w → Q' e a w) (ha : ∀ o ∈ all.toList, smallJG m o = true) :
    ∀ (l : List Oper) (a : Act) (w : World), a.tmps.size = m → smallLG m l = true → wpList P all Q l (Act.jn a G) w → wpListIn (jF ro) k P all Q' l a w
  | [], a, w, hm, _, h => hq _ _ _ hm h
  | o :: l, a, w, hm, hs, h => by
    simp only [smallLG, List.all_cons, Bool.and_eq_true] at hs
    have h1 := hs.1
    simp only [smallJG, Bool.and_eq_true] at h1
    obtain ⟨-, -, -, s4⟩ := smallB_spec h1.1
    unfold wpList at h
    unfold wpListIn
    rw [yielded_jn hm ha] at h
    by_cases hw : Region.wanted o (yielded all a.tmps) = true
    · rw [if_pos hw] at h ⊢
      rcases h with h | ⟨_, h⟩
      · exact wp_jnG hs.1 hQ (fun a w hm h => wpList_jnInG hQ hq ha l a w hm hs.2 h) (fun c => hq (.panic c)) hm h
      · exact absurd h hQ
    · rw [if_neg hw] at h ⊢
      rw [jn_put hm s4] at h
      exact ⟨fun _ _ => trivial, wpList_jnInG hQ hq ha l _ w (by rw [put_size, hm]) hs.2 h⟩
namespace J
variable {w0 : World} {S0 : Stab} {G : Array Value} {st : ASt} {Q : Exit → ASt → Prop}
def AWp (P : Program) (m n : Nat) (ro : Option Nat) (w0 : World) (S0 : Stab) (G : Array Value) (c : Code) (Q : Exit → ASt → Prop) (st : ASt) : Prop :=
  ∀ a w, a.tmps.size = m → Rel w0 S0 n st (Act.jn a G) w → c.wpIn (jF ro) 0 P (fun e a' w' => a'.tmps.size = m ∧ ∃ st', Q e st' ∧ Rel w0 S0 n st' (Act.jn a' G) w') a w
theorem AWp.weaken {c : Code} {st' : ASt} (h : Wk st st') (hw : AWp P m n ro w0 S0 G c Q st') : AWp P m n ro w0 S0 G c Q st := fun a w hm hr => hw a w hm (h w0 S0 n _ w hr)
theorem AWp.mono {c : Code} {Q' : Exit → ASt → Prop} (h : AWp P m n ro w0 S0 G c Q st) (hq : ∀ e s, Q e s → Q' e s) : AWp P m n ro w0 S0 G c Q' st := fun a w hm hr =>
  wpIn_mono (h a w hm hr) fun e a' w' ⟨h0, st', h1, h2⟩ => ⟨h0, st', hq _ _ h1, h2⟩
theorem AWp.seq {x y : Code} (h : AWp P m n ro w0 S0 G x (aThen (fun s => AWp P m n ro w0 S0 G y Q s) Q) st) : AWp P m n ro w0 S0 G (.seq x y) Q st := fun a w hm hr =>
  wpIn_seq (wpIn_mono (h a w hm hr) fun e a' w' ⟨h0, st', h1, h2⟩ => by cases e <;> first | exact h1 a' w' h0 h2 | exact ⟨h0, st', h1, h2⟩)
theorem AWp.skip (h : Q .normal st) : AWp P m n ro w0 S0 G .skip Q st := fun a w hm hr => wpIn_skip ⟨hm, st, h, hr⟩
theorem AWp.exit {id : Nat} (h : Q (.exit id) st) : AWp P m n ro w0 S0 G (.exit id) Q st := fun a w hm hr => wpIn_exit ⟨hm, st, h, hr⟩
theorem AWp.ret (h : Q .ret st) : AWp P m n ro w0 S0 G .ret Q st := fun a w hm hr => wpIn_ret ⟨hm, st, h, hr⟩
theorem AWp.label {l : Nat} (h : Q .normal st) : AWp P m n ro w0 S0 G (.label l) Q st := fun a w hm hr => wpIn_label ⟨hm, st, h, hr⟩
theorem AWp.block {id : Nat} {c : Code} (h : AWp P m n ro w0 S0 G c (aBlock id Q) st) : AWp P m n ro w0 S0 G (.block id c) Q st := fun a w hm hr =>
  wpIn_block (wpIn_mono (h a w hm hr) fun e a' w' ⟨h0, st', h1, h2⟩ => by
    cases e <;> try exact ⟨h0, st', h1, h2⟩
    rename_i i
    simp only [Exit.inBlock, aBlock] at h1 ⊢
    split
    · rename_i hi; rw [if_pos hi] at h1; exact ⟨h0, st', h1, h2⟩
    · rename_i hi; rw [if_neg hi] at h1; exact ⟨h0, st', h1, h2⟩)
theorem AWp.cond {c : Operand} {x y : Code} {b : Bool} (hc : evA st.env c = .lit (.bool b)) (ht : b = true → AWp P m n ro w0 S0 G x Q st) (hf : b = false → AWp P m n ro w0 S0 G y Q st)
    (hs : (match c with | .tmp t => Nat.blt t m | _ => true) = true := by rfl) : AWp P m n ro w0 S0 G (.cond c x y) Q st := fun a w hm hr => by
  have hv : a.eval c = .bool b := by
    obtain ⟨S, γ, ρ, h⟩ := hr
    have := h.ev c
    rw [hc] at this
    rw [← this.lit_eq]
    exact (jn_eval hm (fun t e => by subst e; simpa [Nat.blt_eq] using hs)).symm
  refine wpIn_cond hv ?_
  cases b
  · exact hf rfl a w hm hr
  · exact ht rfl a w hm hr
theorem AWp.region {id : Nat} {l : List Oper} (d : List Nat) (dd : List (List Nat)) (h : aops P n (gslot l) l dd (st.drop d) (Q .normal)) (hs : smallLG m l = true := by rfl) : AWp P m n ro w0 S0 G (.region id l.toArray false) Q st := fun a w hm hr =>
  wpIn_region_lit (wpList_jnInG (Q := fun e a' w' => e = .normal ∧ ∃ st', Q .normal st' ∧ Rel w0 S0 n st' a' w') (fun ⟨_, _, h, _⟩ => by cases h) (fun e a' w' hm' h' => ⟨hm', by rw [h'.1]; exact h'.2⟩) (fun o ho => List.all_eq_true.1 hs o (by simpa using ho)) l a w hm hs
    (aops_sound (fun st' a' w' h1 h2 => ⟨rfl, _, h1, h2⟩) l _ _ _ w (hr.drop _) h))
theorem AWp.sreg {id : Nat} {l : List Oper} {y : Code} (D : Nat → List (List Nat)) {d : List Nat} {dd : List (List Nat)} (hd : D id = d :: dd)
    (h : ∀ (gs : Nat → Option Nat) (K : ASt → Prop), (∀ j, gs j = gslot l j) → (∀ s, AWp P m n ro w0 S0 G y Q s → K s) → aops P n gs l dd (st.drop d) K) (hs : smallLG m l = true := by rfl) :
    AWp P m n ro w0 S0 G (.seq (.region id l.toArray false) y) Q st := AWp.seq (AWp.region d dd (h (gslot l) (fun s => AWp P m n ro w0 S0 G y Q s) (fun _ => rfl) fun s h => h) hs)
theorem AWp.reg {id : Nat} {l : List Oper} (D : Nat → List (List Nat)) {d : List Nat} {dd : List (List Nat)} (hd : D id = d :: dd)
    (h : ∀ (gs : Nat → Option Nat) (K : ASt → Prop), (∀ j, gs j = gslot l j) → (∀ s, Q .normal s → K s) → aops P n gs l dd (st.drop d) K) (hs : smallLG m l = true := by rfl) :
    AWp P m n ro w0 S0 G (.region id l.toArray false) Q st := AWp.region d dd (h (gslot l) (fun s => Q .normal s) (fun _ => rfl) fun s h => h) hs
theorem AWp.loop {c : Code} {α : Type} (I : α → Prop) (inv : α → ASt) (μ : α → Nat) (a0 : α) (hI : I a0) (h0 : Wk st (inv a0))
    (round : ∀ x, I x → AWp P m n ro w0 S0 G c (aThen (fun s => ∃ y, I y ∧ Wk s (inv y) ∧ μ y < μ x) Q) (inv x)) : AWp P m n ro w0 S0 G (.loop c) Q st := fun a w hm hr => by
  refine wpIn_loop_ghost (fun k a w => ∃ x, μ x = k ∧ I x ∧ a.tmps.size = m ∧ Rel w0 S0 n (inv x) (Act.jn a G) w) (μ a0) ⟨a0, rfl, hI, hm, h0 w0 S0 n _ w hr⟩ ?_
  rintro k a w ⟨x, rfl, hx, hm, hr⟩
  refine wpIn_mono (round x hx a w hm hr) ?_
  rintro e a' w' ⟨h0, st', h1, h2⟩
  cases e with
  | normal =>
    obtain ⟨y, hy, hwk, hlt⟩ := h1
    exact ⟨μ y, hlt, y, rfl, hy, h0, hwk w0 S0 n _ w' h2⟩
  | _ => exact ⟨h0, st', h1, h2⟩
end J
end Go.AL
/-! A range over a function: the statement, and the iterator's call of yield. -/
namespace Go.AL
open Go.RowKit
set_option linter.unusedSimpArgs false
set_option linter.unusedVariables false
variable {P : Program} {m n : Nat} {ro : Option Nat}
theorem KeepL.cons {x : Nat × Obj} {k : List (Nat × Obj)} {w : World} {S : Nat → Prop} (h1 : KeepL [x] w S) (h2 : KeepL k w S) : KeepL (x :: k) w S := fun y hy => by
  rcases List.mem_cons.1 hy with rfl | hy
  · exact h1 _ (List.mem_singleton.2 rfl)
  · exact h2 y hy
theorem KeepL.tail {x : Nat × Obj} {k : List (Nat × Obj)} {w : World} {S : Nat → Prop} (h : KeepL (x :: k) w S) : KeepL k w S := fun y hy => h y (List.mem_cons_of_mem _ hy)
def roundE (mI n t : Nat) (x : Value) (ks : List Nat) (env : List (Nat × AV)) : List (Nat × AV) := (t, .lit x) :: appE (ks.map fun s => (s, eget env (s + mI))) (shE n env)
theorem eget_app {w : World} {S : Nat → Prop} {γ : List Nat} {ρ : List Value} {val : Nat → Value} (B : List (Nat × AV)) (hB : ∀ s, V w S γ ρ false (eget B s) (val s)) : ∀ (F : List (Nat × AV)), (∀ p ∈ F, V w S γ ρ false p.2 (val p.1)) → ∀ s, V w S γ ρ false (eget (appE F B) s) (val s)
  | [], _, s => hB s
  | (k, v) :: F, h, s => by
    simp only [appE, eget]
    by_cases hk : k = s
    · subst hk; rw [if_pos rfl]; exact h (k, v) (List.mem_cons_self ..)
    · rw [if_neg hk]; exact eget_app B hB F (fun p hp => h p (List.mem_cons_of_mem _ hp)) s
theorem RelAt.round {w0 : World} {S0 : Stab} {st : ASt} {a : Act} {G : Array Value} {w : World} {S : Nat → Prop} {γ : List Nat} {ρ : List Value} {mI : Nat} (h : RelAt w0 S0 (mI + n) st (Act.jn a G) w S γ ρ) (hm : a.tmps.size = mI) (hn : G.size = n)
    {t : Nat} (ht : t < n) (x : Value) {ks : List Nat} (hks : ks.all (fun s => Nat.blt s n && !(s == t)) = true) :
    RelAt w0 S0 (n + (mI + n)) ⟨roundE mI n t x ks st.env, st.boxes, st.rows⟩ (Act.jn { tmps := G.setIfInBounds t x, defers := [] } (Act.jn a G).tmps) w S γ ρ := by
  refine ⟨h.below, h.s0, h.sw, h.heap, ?_, .nil rfl, fun s => ?_⟩
  · simp only [Act.jn, Array.size_append, Array.size_setIfInBounds]; omega
  · have hsz : (G.setIfInBounds t x).size = n := by rw [Array.size_setIfInBounds, hn]
    show V w S γ ρ false (eget (roundE mI n t x ks st.env) s) ((G.setIfInBounds t x ++ (a.tmps ++ G)).getD s undef)
    simp only [roundE, eget]
    by_cases hs : t = s
    · subst hs
      rw [if_pos rfl, Array.getD_eq_getD_getElem?, Array.getElem?_append_left (by omega), Array.getElem?_setIfInBounds_self_of_lt (by omega)]
      exact .lit
    · rw [if_neg hs]
      -- slots but t
      have key : ∀ s, V w S γ ρ false (if s = t then AV.any else eget (appE (ks.map fun s => (s, eget st.env (s + mI))) (shE n st.env)) s) ((G.setIfInBounds t x ++ (a.tmps ++ G)).getD s undef) := fun s => by
        split
        · exact .any
        · rename_i hst
          refine eget_app (val := fun s => (G.setIfInBounds t x ++ (a.tmps ++ G)).getD s undef) (shE n st.env) (fun s => ?_) _ (fun p hp => ?_) s
          · rw [eget_shE]
            split
            · rename_i hns
              have := h.env (s - n)
              show V w S γ ρ false _ ((G.setIfInBounds t x ++ (a.tmps ++ G)).getD s undef)
              rw [Array.getD_eq_getD_getElem?, Array.getElem?_append_right (by omega), hsz, ← Array.getD_eq_getD_getElem?]
              exact this
            · exact .any
          · obtain ⟨s', hs', rfl⟩ := List.mem_map.1 hp
            have h1 := List.all_eq_true.1 hks s' hs'
            simp only [Bool.and_eq_true, Nat.blt_eq, Bool.not_eq_true', beq_eq_false_iff_ne] at h1
            have := h.env (s' + mI)
            show V w S γ ρ false (eget st.env (s' + mI)) ((G.setIfInBounds t x ++ (a.tmps ++ G)).getD s' undef)
            have e1 : (G.setIfInBounds t x ++ (a.tmps ++ G)).getD s' undef = (Act.jn a G).tmps.getD (s' + mI) undef := by
              show _ = (a.tmps ++ G).getD (s' + mI) undef
              rw [Array.getD_eq_getD_getElem?, Array.getD_eq_getD_getElem?, Array.getElem?_append_left (by omega), Array.getElem?_append_right (by omega), Array.getElem?_setIfInBounds_ne (by omega)]
              congr 2; omega
            rw [e1]; exact this
      have := key s
      rw [if_neg (fun e => hs e.symm)] at this
      exact this
theorem RelAt.back {w0 : World} {S0 : Stab} {st : ASt} {a b : Act} {w : World} {S : Nat → Prop} {γ : List Nat} {ρ : List Value} {N : Nat} (h : RelAt w0 S0 N st (Act.jn a b.tmps) w S γ ρ) (hm : a.tmps.size = m) (hb : b.defers = []) : RelAt w0 S0 b.tmps.size (st.back m) b w S γ ρ := by
  refine ⟨h.below, h.s0, h.sw, h.heap, rfl, .nil hb, fun s => ?_⟩
  have := h.env (s + m)
  simp only [ASt.back, eget_backE]
  have e : (Act.jn a b.tmps).tmps.getD (s + m) undef = b.tmps.getD s undef := by
    show (a.tmps ++ b.tmps).getD (s + m) undef = _
    rw [Array.getD_eq_getD_getElem?, Array.getD_eq_getD_getElem?, Array.getElem?_append_right (by omega)]
    congr 2; omega
  rw [e] at this; exact this
theorem wpList_jnR {all : Array Oper} {G : Array Value} {Q Q' : Exit → Act → World → Prop} {k : Nat} {rest : List Oper} (hQ : ¬ LetsOut Q) (hn : ∀ a w, a.tmps.size = m → Q .normal (Act.jn a G) w → wpListIn (jF ro) k P all Q' rest a w)
    (hq : ∀ c a w, a.tmps.size = m → Q (.panic c) (Act.jn a G) w → Q' (.panic c) a w) :
    ∀ (l : List Oper) (a : Act) (w : World), a.tmps.size = m → smallL m l = true → wpList P all Q l (Act.jn a G) w → wpListIn (jF ro) k P all Q' (l ++ rest) a w
  | [], a, w, hm, _, h => hn _ _ hm h
  | o :: l, a, w, hm, hs, h => by
    simp only [smallL, List.all_cons, Bool.and_eq_true] at hs
    have hg := (smallB_spec (by have := hs.1; simp only [smallJ, Bool.and_eq_true] at this; exact this.1)).1
    have hw : ∀ a : Act, Region.wanted o (yielded all a.tmps) = true := fun a => by simp [Region.wanted, hg]
    unfold wpList at h
    rw [List.cons_append]
    unfold wpListIn
    rw [if_pos (hw _)] at h ⊢
    rcases h with h | ⟨_, h⟩
    · exact wp_jn hs.1 hQ (fun a w hm h => wpList_jnR hQ hn hq l a w hm hs.2 h) hq hm h
    · exact absurd h hQ
end Go.AL
/-! Drawn regions in a frame of whatever make. -/
namespace Go.AL.J
open Go.RowKit
set_option linter.unusedSimpArgs false
set_option linter.unusedVariables false
variable {P : Program} {m n : Nat} {ro : Option Nat}
theorem AWp.regionD {w0 : World} {S0 : Stab} {G : Array Value} {id : Nat} {l : List Oper} {Q : Exit → ASt → Prop} {st : ASt} (F : List Nat) (hm : P.follows .mixedOrders = true) (hB : Region.lexB .any l.toArray = true) (h : aopsD P n (gslot l) l st fun s => Q .normal (s.prune F)) (hs : smallL m l = true := by rfl) : AWp P m n ro w0 S0 G (.region id l.toArray true) Q st := fun a w hsz ⟨S, γ, ρ, hr⟩ => by
  simp only [Region.lexB, Bool.and_eq_true] at hB
  refine wpIn_region_any hm ?_
  have hb : Below w.heap.size w { w with drawn := w.drawn + 1 } := ⟨rfl, rfl, rfl, Nat.le_refl _, fun _ _ => rfl⟩
  have hr2 : RelF w0 S0 n (eget st.env) st.boxes st.rows (Act.jn a G) { w with drawn := w.drawn + 1 } S γ ρ := by
    have := hr.later hb (fun _ h => h) (fun _ h => .inl h)
    exact ⟨⟨this.below, this.s0, this.sw, this.heap, this.size, this.defs, fun s => .any⟩, this.env⟩
  have ht := wpAnyF_lex (md := .any) l 0 (Array.replicate l.toArray.size false) (eget st.env) (by simp) (by simpa using hB.2) (aopsD_text l st h)
  have hQ : ∀ f a' w' S' γ' ρ', RelF w0 S0 n f st.boxes st.rows a' w' S' γ' ρ' → (∃ st' : ASt, Q .normal (st'.prune F) ∧ f = eget st'.env ∧ st'.boxes = st.boxes ∧ st'.rows = st.rows) →
      ∃ st' : ASt, Q .normal st' ∧ Rel w0 S0 n st' a' w' := fun f a' w' S' γ' ρ' hf ⟨st', hK, e1, e2, e3⟩ => by
    have hrel : RelAt w0 S0 n st' a' w' S' γ' ρ' := by
      refine ⟨hf.rel.below, hf.rel.s0, hf.rel.sw, ?_, hf.rel.size, hf.rel.defs, fun s => ?_⟩
      · rw [e2, e3]; exact hf.rel.heap
      · have := hf.env s; rw [e1] at this; exact this
    exact ⟨_, hK, Rel.prune ⟨S', γ', ρ', hrel⟩ F⟩
  have := wpAny_of_F (P := P) (md := .any) (Q' := fun e a' w' => e = .normal ∧ ∃ st', Q .normal st' ∧ Rel w0 S0 n st' a' w') (fun s a w S γ ρ h1 h2 => ⟨rfl, hQ s a w S γ ρ h1 h2⟩) l.length _ _ (Act.jn a G) _ S γ ρ hr2 ht
  have h3 := wpAny_jnIn (ro := ro) (k := 0) (Q := fun e a' w' => e = .normal ∧ ∃ st', Q .normal st' ∧ Rel w0 S0 n st' a' w') (Q' := fun e a' w' => a'.tmps.size = m ∧ ∃ st', Q e st' ∧ Rel w0 S0 n st' (Act.jn a' G) w') (fun ⟨_, _, h, _⟩ => by cases h) (fun e a' w' hm' h' => ⟨hm', by rw [h'.1]; exact h'.2⟩) (by simpa using hs) l.length _ a _ hsz this
  simpa using h3
theorem AWp.sregD {w0 : World} {S0 : Stab} {G : Array Value} {id : Nat} {l : List Oper} {y : Code} {Q : Exit → ASt → Prop} {st : ASt} (F : Nat → List Nat) (hm : P.follows .mixedOrders = true) (hB : Region.lexB .any l.toArray = true)
    (h : ∀ (gs : Nat → Option Nat) (K : ASt → Prop), (∀ j, gs j = gslot l j) → (∀ s, AWp P m n ro w0 S0 G y Q (s.prune (F id)) → K s) → aopsD P n gs l st K) (hs : smallL m l = true := by rfl) : AWp P m n ro w0 S0 G (.seq (.region id l.toArray true) y) Q st :=
  AWp.seq (AWp.regionD (F id) hm hB (h (gslot l) (fun s => AWp P m n ro w0 S0 G y Q (s.prune (F id))) (fun _ => rfl) fun s h => h) hs)
theorem AWp.regD {w0 : World} {S0 : Stab} {G : Array Value} {id : Nat} {l : List Oper} {Q : Exit → ASt → Prop} {st : ASt} (F : Nat → List Nat) (hm : P.follows .mixedOrders = true) (hB : Region.lexB .any l.toArray = true)
    (h : ∀ (gs : Nat → Option Nat) (K : ASt → Prop), (∀ j, gs j = gslot l j) → (∀ s, Q .normal (s.prune (F id)) → K s) → aopsD P n gs l st K) (hs : smallL m l = true := by rfl) : AWp P m n ro w0 S0 G (.region id l.toArray true) Q st :=
  AWp.regionD (F id) hm hB (h (gslot l) (fun s => Q .normal (s.prune (F id))) (fun _ => rfl) fun s h => h) hs
theorem AWp.regionM {w0 : World} {S0 : Stab} {G : Array Value} {id : Nat} {l : List Oper} {Q : Exit → ASt → Prop} {st : ASt} (F : List Nat) (al : Bool × Bool) (hm : P.follows .mixedOrders = true) (hB : Region.lexB .any l.toArray = true) (hM : memB al l.toArray = true)
    (h : aopsM P n (gslot l) al l st fun s => Q .normal (s.prune F)) (hs : smallL m l = true := by rfl) : AWp P m n ro w0 S0 G (.region id l.toArray true) Q st := fun a w hsz ⟨S, γ, ρ, hr⟩ => by
  simp only [Region.lexB, Bool.and_eq_true] at hB
  refine wpIn_region_any hm ?_
  have hb : Below w.heap.size w { w with drawn := w.drawn + 1 } := ⟨rfl, rfl, rfl, Nat.le_refl _, fun _ _ => rfl⟩
  have hr2 : RelF w0 S0 n (eget st.env) st.boxes st.rows (Act.jn a G) { w with drawn := w.drawn + 1 } S γ ρ := by
    have := hr.later hb (fun _ h => h) (fun _ h => .inl h)
    exact ⟨⟨this.below, this.s0, this.sw, this.heap, this.size, this.defs, fun s => .any⟩, this.env⟩
  have ht := wpAnyG_lex hM l 0 (Array.replicate l.toArray.size false) ⟨eget st.env, st.boxes, st.rows⟩ (by simp) (fun j hj => absurd hj (Nat.not_lt_zero j)) (by simpa using hB.2) (aopsM_text l st h)
  have hQ : ∀ (s : DSt) a' w' S' γ' ρ', RelF w0 S0 n s.f s.B s.R a' w' S' γ' ρ' → (∃ st' : ASt, Q .normal (st'.prune F) ∧ s = ⟨eget st'.env, st'.boxes, st'.rows⟩) →
      ∃ st' : ASt, Q .normal st' ∧ Rel w0 S0 n st' a' w' := fun s a' w' S' γ' ρ' hf ⟨st', hK, e⟩ => by
    subst e
    have hrel : RelAt w0 S0 n st' a' w' S' γ' ρ' := ⟨hf.rel.below, hf.rel.s0, hf.rel.sw, hf.rel.heap, hf.rel.size, hf.rel.defs, hf.env⟩
    exact ⟨_, hK, Rel.prune ⟨S', γ', ρ', hrel⟩ F⟩
  have := wpAny_of_G (P := P) (md := .any) (Q' := fun e a' w' => e = .normal ∧ ∃ st', Q .normal st' ∧ Rel w0 S0 n st' a' w') (fun s a w S γ ρ h1 h2 => ⟨rfl, hQ s a w S γ ρ h1 h2⟩) l.length _ _ (Act.jn a G) _ S γ ρ hr2 ht
  have h3 := wpAny_jnIn (ro := ro) (k := 0) (Q := fun e a' w' => e = .normal ∧ ∃ st', Q .normal st' ∧ Rel w0 S0 n st' a' w') (Q' := fun e a' w' => a'.tmps.size = m ∧ ∃ st', Q e st' ∧ Rel w0 S0 n st' (Act.jn a' G) w') (fun ⟨_, _, h, _⟩ => by cases h) (fun e a' w' hm' h' => ⟨hm', by rw [h'.1]; exact h'.2⟩) (by simpa using hs) l.length _ a _ hsz this
  simpa using h3
theorem AWp.sregM {w0 : World} {S0 : Stab} {G : Array Value} {id : Nat} {l : List Oper} {y : Code} {Q : Exit → ASt → Prop} {st : ASt} (F : Nat → List Nat) (al : Bool × Bool) (hm : P.follows .mixedOrders = true) (hB : Region.lexB .any l.toArray = true) (hM : memB al l.toArray = true)
    (h : ∀ (gs : Nat → Option Nat) (K : ASt → Prop), (∀ j, gs j = gslot l j) → (∀ s, AWp P m n ro w0 S0 G y Q (s.prune (F id)) → K s) → aopsM P n gs al l st K) (hs : smallL m l = true := by rfl) : AWp P m n ro w0 S0 G (.seq (.region id l.toArray true) y) Q st :=
  AWp.seq (AWp.regionM (F id) al hm hB hM (h (gslot l) (fun s => AWp P m n ro w0 S0 G y Q (s.prune (F id))) (fun _ => rfl) fun s h => h) hs)
theorem AWp.regM {w0 : World} {S0 : Stab} {G : Array Value} {id : Nat} {l : List Oper} {Q : Exit → ASt → Prop} {st : ASt} (F : Nat → List Nat) (al : Bool × Bool) (hm : P.follows .mixedOrders = true) (hB : Region.lexB .any l.toArray = true) (hM : memB al l.toArray = true)
    (h : ∀ (gs : Nat → Option Nat) (K : ASt → Prop), (∀ j, gs j = gslot l j) → (∀ s, Q .normal (s.prune (F id)) → K s) → aopsM P n gs al l st K) (hs : smallL m l = true := by rfl) : AWp P m n ro w0 S0 G (.region id l.toArray true) Q st :=
  AWp.regionM (F id) al hm hB hM (h (gslot l) (fun s => Q .normal (s.prune (F id))) (fun _ => rfl) fun s h => h) hs
end Go.AL.J
/-! A call of a known function, whose code is walked in place: in a frame of its own, joined with its caller's. -/
namespace Go.AL
open Go.RowKit
set_option linter.unusedSimpArgs false
set_option linter.unusedVariables false
variable {P : Program} {m n : Nat}
theorem aops_sound_rest {w0 : World} {S0 : Stab} {all : List Oper} {K : ASt → Prop} {Q : Exit → Act → World → Prop} {rest : List Oper} (hn : ∀ st' a' w', K st' → Rel w0 S0 n st' a' w' → wpList P all.toArray Q rest a' w') :
    ∀ (l : List Oper) (dd : List (List Nat)) (st : ASt) (a : Act) (w : World), Rel w0 S0 n st a w → aops P n (gslot all) l dd st K → wpList P all.toArray Q (l ++ rest) a w
  | [], dd, st, a, w, h, hp => hn st a w hp h
  | _ :: _, [], _, _, _, _, hp => hp.elim
  | o :: l, d :: dd, st, a, w, h, hp => by
    obtain ⟨st1, he, hp⟩ := hp
    have h1 : Rel w0 S0 n st1 a w := by
      rcases he with rfl | ⟨keep, rfl⟩
      · exact h
      · exact h.freeze keep
    rw [List.cons_append]
    rcases hp with hp | hp | hp | hp
    · exact aop_sound h1 hp fun st' a' w' hp' h' => aops_sound_rest hn l dd (st'.drop d) a' w' (h'.drop _) hp'
    · exact aopN_sound h1 hp fun st' a' w' hp' h' => aops_sound_rest hn l dd (st'.drop d) a' w' (h'.drop _) hp'
    · exact aopX_sound h1 hp fun st' a' w' hp' h' => aops_sound_rest hn l dd (st'.drop d) a' w' (h'.drop _) hp'
    · exact aopG_sound h1 hp fun st' a' w' hp' h' => aops_sound_rest hn l dd (st'.drop d) a' w' (h'.drop _) hp'
end Go.AL
/-! The last boxes are written no more. -/
namespace Go.AL
open Go.RowKit
set_option linter.unusedSimpArgs false
set_option linter.unusedVariables false
mutual
def AV.frzK (m : Nat) (boxes : List (List AV)) : AV → AV
  | .bp b off => if b < m then .bp b off else match boxes[b]? with
    | some cs => bif cs.all AV.cl then .rop (cs.drop off) else .any
    | none => .any
  | .agg cs => .agg (frzKL m boxes cs)
  | .tup cs => .tup (frzKL m boxes cs)
  | .fn g cs => .fn g (frzKL m boxes cs)
  | .opt p v => .opt p (AV.frzK m boxes v)
  | .any => .any
  | .lit v => .lit v
  | .ro sz xs => .ro sz xs
  | .rop cs => .rop cs
  | .own r sz off len => .own r sz off len
  | .rp r sz i j => .rp r sz i j
def frzKL (m : Nat) (boxes : List (List AV)) : List AV → List AV
  | [] => []
  | c :: cs => AV.frzK m boxes c :: frzKL m boxes cs
end
theorem frzKL_eq (m : Nat) (boxes : List (List AV)) : ∀ cs, frzKL m boxes cs = cs.map (AV.frzK m boxes)
  | [] => by simp [frzKL]
  | c :: cs => by simp [frzKL, frzKL_eq m boxes cs]
def boxBlkK (m : Nat) (boxes : List (List AV)) (γ : List Nat) (g : Nat) : Prop := ∃ (k : Nat) (cs : List AV), m ≤ k ∧ boxes[k]? = some cs ∧ γ[k]? = some g
theorem V.frzK {m : Nat} {w : World} {B : Nat} {S : Nat → Prop} {γ : List Nat} {ρ : List Value} {boxes : List (List AV)} {rows : List (Option Row)} (hr : HR w B S γ ρ boxes rows) {b : Bool} {a : AV} {u : Value} (h : V w S γ ρ b a u) :
    V w (fun g => S g ∨ boxBlkK m boxes γ g) (γ.take m) ρ b (a.frzK m boxes) u := by
  have mono : ∀ {b : Bool} {a : AV} {u : Value} {γ' : List Nat} {ρ' : List Value}, V w S γ' ρ' b a u → V w (fun g => S g ∨ boxBlkK m boxes γ g) γ' ρ' b a u := fun hv => hv.mono (fun _ _ _ h => h) (fun _ h => .inl h) (fun _ _ h => h) (fun _ _ h => h)
  induction h with
  | any => simp only [AV.frzK]; exact .any
  | lit => simp only [AV.frzK]; exact .lit
  | opt _ h' ih => simp only [AV.frzK]; exact .opt ih h'
  | agg hl _ ih =>
    simp only [AV.frzK, frzKL_eq]
    refine .agg (by simpa using hl) fun i c u h1 h2 => ?_
    rw [List.getElem?_map] at h1
    obtain ⟨c0, hc, rfl⟩ := Option.map_eq_some_iff.1 h1
    exact ih i c0 u hc h2
  | tup hl _ ih =>
    simp only [AV.frzK, frzKL_eq]
    refine .tup (by simpa using hl) fun i c u h1 h2 => ?_
    rw [List.getElem?_map] at h1
    obtain ⟨c0, hc, rfl⟩ := Option.map_eq_some_iff.1 h1
    exact ih i c0 u hc h2
  | fn hl _ ih =>
    simp only [AV.frzK, frzKL_eq]
    refine .fn (by simpa using hl) fun i c u h1 h2 => ?_
    rw [List.getElem?_map] at h1
    obtain ⟨c0, hc, rfl⟩ := Option.map_eq_some_iff.1 h1
    exact ih i c0 u hc h2
  | ro U hn hc hm hz hA hv _ =>
    simp only [AV.frzK]
    exact mono (.ro U hn hc hm hz hA fun i r j x h1 h2 => (hv i r j x h1 h2).closed true)
  | rop U hs hcell hv _ =>
    simp only [AV.frzK]
    exact mono (.rop U hs hcell fun j x h1 => (hv j x h1).closed true)
  | own h h0 hlen h1 hm hA => simp only [AV.frzK]; exact .own h h0 hlen h1 hm hA
  | rp h => simp only [AV.frzK]; exact .rp h
  | @bp k off g hγ =>
    simp only [AV.frzK]
    by_cases hkm : k < m
    · rw [if_pos hkm]
      exact .bp (by rw [List.getElem?_take_of_lt hkm]; exact hγ)
    rw [if_neg hkm]
    cases hb : boxes[k]? with
    | none => exact .any
    | some cs =>
      simp only
      cases hcl : cs.all AV.cl with
      | false => exact .any
      | true =>
        simp only [cond_true]
        obtain ⟨e1, e2, us, ty, e3, e4, e5⟩ := hr.box k cs g hb hγ
        have hcell : ∀ j c, cs[j]? = some c → ∃ u, us[j]? = some u ∧ V w S [] ρ true c u := fun j c hj => by
          obtain ⟨u, u1, u2, u3⟩ := e5 j c hj
          exact ⟨u, u1, (u3.cl (List.all_eq_true.1 hcl c (List.mem_of_getElem? hj))).closed true⟩
        refine V.rop (fun j => us.getD (off + j) Go.undef) (.inr ⟨k, cs, by omega, hb, hγ⟩) (fun j x hj => ?_) fun j x hj => ?_
        · rw [List.getElem?_drop] at hj
          obtain ⟨u, u1, _⟩ := hcell _ x hj
          rw [addr_add, cell_of_row w g (off + j) us ty (0, 0) e3, u1]
          simp [Array.getD_eq_getD_getElem?, u1]
        · rw [List.getElem?_drop] at hj
          obtain ⟨u, u1, u2⟩ := hcell _ x hj
          have : us.getD (off + j) Go.undef = u := by simp [Array.getD_eq_getD_getElem?, u1]
          rw [this]
          exact mono (u2.closed true)
def frzKE (m : Nat) (boxes : List (List AV)) : List (Nat × AV) → List (Nat × AV)
  | [] => []
  | (k, v) :: t => (k, v.frzK m boxes) :: frzKE m boxes t
theorem eget_frzK (m : Nat) (boxes : List (List AV)) (s : Nat) : ∀ env, eget (frzKE m boxes env) s = (eget env s).frzK m boxes
  | [] => by simp [frzKE, eget, AV.frzK]
  | (k, v) :: t => by
    simp only [frzKE, eget]
    split
    · rfl
    · exact eget_frzK m boxes s t
def ASt.frzK (m : Nat) (st : ASt) : ASt := ⟨frzKE m st.boxes st.env, (st.boxes.take m).map (frzKL m st.boxes), st.rows⟩
theorem Rel.frzK (m : Nat) {w0 : World} {S0 : Stab} {n : Nat} {st : ASt} {a : Act} {w : World} (h : Rel w0 S0 n st a w) : Rel w0 S0 n (st.frzK m) a w := by
  obtain ⟨S, γ, ρ, h⟩ := h
  refine ⟨fun g => S g ∨ boxBlkK m st.boxes γ g, γ.take m, ρ, h.below, ⟨fun b hb => ?_, h.s0.2.less fun g hg => ?_⟩, fun b hb => ?_, ?_, h.size, h.defs.map fun k hk => hk.less fun g hg => ?_, fun s => ?_⟩
  · rcases hb with hb | ⟨k, cs, _, h1, h2⟩
    · exact h.s0.1 b hb
    · exact .inr (h.heap.box k cs b h1 h2).1
  · rcases hg with hg | ⟨k, cs, _, h1, h2⟩
    · exact .inl hg
    · obtain ⟨_, _, us, ty, e3, _⟩ := h.heap.box k cs g h1 h2
      exact .inr ⟨us, ty, _, e3⟩
  · rcases hb with hb | ⟨k, cs, _, h1, h2⟩
    · exact h.sw b hb
    · obtain ⟨_, _, us, ty, e3, _⟩ := h.heap.box k cs b h1 h2
      exact (Array.getElem?_eq_some_iff.1 e3).1
  · have hh := h.heap
    refine ⟨by simp [ASt.frzK, hh.nb], hh.nr, fun k cs g hk hg => ?_, fun r rw_ v h1 h2 => ?_, fun i j g h1 h2 => ?_, fun k r g rw_ v h1 => ?_, hh.rinj⟩
    · simp only [ASt.frzK, List.getElem?_map] at hk
      obtain ⟨cs0, hc, rfl⟩ := Option.map_eq_some_iff.1 hk
      rw [List.getElem?_take] at hc hg
      split at hc
      · rename_i hkm
        rw [if_pos hkm] at hg
        obtain ⟨e1, e2, us, ty, e3, e4, e5⟩ := hh.box k cs0 g hc hg
        refine ⟨e1, fun hs => ?_, us, ty, e3, by simpa [frzKL_eq] using e4, fun j c hj => ?_⟩
        · rcases hs with hs | ⟨k', cs', hk', h3, h4⟩
          · exact e2 hs
          · have := hh.inj k k' g hg h4; omega
        · rw [frzKL_eq, List.getElem?_map] at hj
          obtain ⟨c0, hc0, rfl⟩ := Option.map_eq_some_iff.1 hj
          obtain ⟨u, u1, u2, u3⟩ := e5 j c0 hc0
          exact ⟨u, u1, u2, V.frzK hh u3⟩
      · cases hc
    · obtain ⟨e1, e2, e3, cells, e4, e5⟩ := hh.row r rw_ v h1 h2
      refine ⟨e1, e2, fun g hg hs => ?_, cells, e4, fun i x j c hi hj => ?_⟩
      · rcases hs with hs | ⟨k, cs, _, h3, h4⟩
        · exact e3 g hg hs
        · exact hh.sep k r g rw_ v h4 h1 h2 hg
      · obtain ⟨u, u1, u2, u3⟩ := e5 i x j c hi hj
        exact ⟨u, u1, u2, (u3.mono (fun _ _ _ h => h) (fun _ h => .inl h) (fun _ _ h => h) (fun _ _ h => h)).closed true⟩
    · rw [List.getElem?_take] at h1 h2
      split at h1
      · rename_i q1
        split at h2
        · exact hh.inj i j g h1 h2
        · cases h2
      · cases h1
    · rw [List.getElem?_take] at h1
      split at h1
      · exact hh.sep k r g rw_ v h1
      · cases h1
  · rcases hg with hg | ⟨k, cs, _, h1, h2⟩
    · exact .inl hg
    · obtain ⟨_, _, us, ty, e3, _⟩ := h.heap.box k cs g h1 h2
      exact .inr ⟨us, ty, _, e3⟩
  · simp only [ASt.frzK, eget_frzK]
    exact V.frzK h.heap (h.env s)
theorem Wk.frzK (m : Nat) (st : ASt) : Wk st (st.frzK m) := fun _ _ _ _ _ hr => hr.frzK m
end Go.AL
open Go Go.AL in
attribute [go_sem] AV.frzK frzKL frzKE ASt.frzK
set_option linter.unusedSimpArgs false
set_option linter.unusedVariables false
set_option linter.constructorNameAsVariable false
/-! Drawn regions that append, where what is made is read only: as A22, of which this is a variant (gen: see NOTES.md). -/
namespace Go.AL.P3
open Go.AL Go.RowKit
set_option linter.unusedSimpArgs false
set_option linter.unusedVariables false
def isW (op : Op) : Bool := isAp op
def isMv : Op → Bool
  | .move _ => true
  | _ => false
def memQ (op : Op) : Bool := memN op && !isW op && !(isBx op || isMv op)
def pres (P : Program) (R : List (Option Row)) (ev : Operand → AV) : Op → (AV × Option Nat × List (Option Row)) × Prop
  | .call ⟨.builtin .append, args, ts⟩ => match args.toList, ts.toList with
    | [s, x], [t, t'] => match apT P t, elemsOf R (un (ev x)) with
      | some q, some y => match un (ev s) with
        | .own r sz off len => match getRow R r sz with
          | some rw_ => ((.own r sz 0 (len + y.2.length), some r, R.set r (some { rw_ with elems := rw_.elems.take len ++ y.2 })),
              t = t' ∧ uok true (ev s) ∧ uok true (ev x) ∧ (y.1 = q.2.1 ∨ y.2 = []) ∧ off = 0 ∧ sz = q.2.1 ∧ rw_.ty = q.1 ∧ (len + y.2.length) * q.2.2 ≤ 140737488355328)
          | none => ((.any, none, R), False)
        | _ => ((.any, none, R), False)
      | _, _ => ((.any, none, R), False)
    | _, _ => ((.any, none, R), False)
  | _ => ((.any, none, R), False)
variable {P : Program} {n : Nat}
def norEv (ev : Operand → AV) : List Operand → Prop
  | [] => True
  | x :: xs => (ev x).nor = true ∧ norEv ev xs
/-! ### what it says of memory -/
def killSt (r : Option Nat) (env : List (Nat × AV)) : List (Nat × AV) := match r with
  | none => env
  | some r => killE r env
def apureB (P : Program) (st : ASt) (op : Op) (K : AV → Prop) : Prop :=
  match op with
  | .buildSlice t len parts => amem P (evA st.env) (.buildSlice t len parts) K
  | op => apure P st true op K
def aopP (P : Program) (n : Nat) (gs : Nat → Option Nat) (al : Bool × Bool) (o : Oper) (st : ASt) (K : ASt → Prop) : Prop :=
  match isW o.op with
  | true => o.guard = none ∧ dok n o.dst ∧ (pres P st.rows (evA st.env) o.op).2 ∧
      K ⟨((⟨killSt (pres P st.rows (evA st.env) o.op).1.2.1 st.env, [], []⟩ : ASt).put o.dst (pres P st.rows (evA st.env) o.op).1.1).env, st.boxes.map (List.map (killO (pres P st.rows (evA st.env) o.op).1.2.1)), (pres P st.rows (evA st.env) o.op).1.2.2⟩
  | false => match memQ o.op with
    | true => o.guard = none ∧ dok n o.dst ∧ norEv (evA st.env) o.op.operands.toList ∧ apureB P st o.op fun v => v.nor = true ∧ K (st.put o.dst v)
    | false => aopM P n gs al o st K
end Go.AL.P3
/-! A frame's slots laid aside: pointers to boxes under the names of their blocks. -/
namespace Go.AL
open Go.RowKit
set_option linter.unusedSimpArgs false
set_option linter.unusedVariables false
variable {P : Program} {m n : Nat} {ro : Option Nat}
def frontE (n : Nat) : List (Nat × AV) → List (Nat × AV)
  | [] => []
  | (k, v) :: t => if k < n then (k, v) :: frontE n t else frontE n t
def ASt.front (n : Nat) (st : ASt) : ASt := ⟨frontE n st.env, st.boxes, st.rows⟩
def WkJ (m n : Nat) (w0 : World) (S0 : Stab) (G : Array Value) (s s' : ASt) : Prop := ∀ a w, a.tmps.size = m → Rel w0 S0 n s (Act.jn a G) w → Rel w0 S0 n s' (Act.jn a G) w
theorem WkJ.trans {w0 : World} {S0 : Stab} {G : Array Value} {s s' s'' : ASt} (h : WkJ m n w0 S0 G s s') (h' : WkJ m n w0 S0 G s' s'') : WkJ m n w0 S0 G s s'' := fun a w hm hr => h' a w hm (h a w hm hr)
theorem WkJ.of {w0 : World} {S0 : Stab} {G : Array Value} {s s' : ASt} (h : Wk s s') : WkJ m n w0 S0 G s s' := fun a w hm hr => h w0 S0 n _ w hr
theorem J.AWp.split {w0 : World} {S0 : Stab} {G : Array Value} {st : ASt} {Q : Exit → ASt → Prop} {id : Nat} {o1 o2 : Oper} {l2 : List Oper} (dd2 : List (List Nat)) (hs1 : smallL m [o1, o2] = true) (hs2 : smallL m l2 = true)
    (h : ∀ (gs : Nat → Option Nat) (K' : ASt → Prop), (∀ j, gs j = gslot (o1 :: o2 :: l2) j) →
      (∀ s1, (∃ s2, WkJ m n w0 S0 G s1 s2 ∧ ∀ (gs : Nat → Option Nat) (K : ASt → Prop), (∀ j, gs j = gslot (o1 :: o2 :: l2) j) → (∀ s, Q .normal s → K s) → aops P n gs l2 dd2 s2 K) → K' s1) → aops P n gs [o1, o2] [[], []] st K') :
    J.AWp P m n ro w0 S0 G (.region id (o1 :: o2 :: l2).toArray false) Q st := by
  intro a w hm hr
  refine wpIn_region_lit (id := id) ?_
  refine wpList_jnR (ro := ro) (G := G) (rest := l2) (Q := fun e a' w' => e = .normal ∧ ∃ s1, (∃ s2, WkJ m n w0 S0 G s1 s2 ∧ aops P n (gslot (o1 :: o2 :: l2)) l2 dd2 s2 (Q .normal)) ∧ Rel w0 S0 n s1 a' w') (fun ⟨_, _, h, _⟩ => by cases h) ?_ (fun c a w _ h => by cases h.1) [o1, o2] a w hm hs1
    (aops_sound (all := o1 :: o2 :: l2) (K := fun s1 => ∃ s2, WkJ m n w0 S0 G s1 s2 ∧ aops P n (gslot (o1 :: o2 :: l2)) l2 dd2 s2 (Q .normal)) (fun s1 a' w' h1 h2 => ⟨rfl, s1, h1, h2⟩) [o1, o2] [[], []] st _ w hr (h _ _ (fun _ => rfl) fun s1 ⟨s2, hw, ha⟩ => ⟨s2, hw, ha _ _ (fun _ => rfl) fun _ h => h⟩))
  rintro a1 w1 hm1 ⟨_, s1, ⟨s2, hwk, ha⟩, hr1⟩
  exact wpList_jnIn (Q := fun e a' w' => e = .normal ∧ ∃ st', Q .normal st' ∧ Rel w0 S0 n st' a' w') (fun ⟨_, _, h, _⟩ => by cases h) (fun e a' w' hm' h' => ⟨hm', by rw [h'.1]; exact h'.2⟩) l2 a1 w1 hm1 hs2
    (aops_sound (fun st' a' w' h1 h2 => ⟨rfl, _, h1, h2⟩) l2 dd2 _ _ w1 (hwk a1 w1 hm1 hr1) ha)
end Go.AL
/-! A call of a function value, whose code is walked in place; operations may stand behind it. -/
namespace Go.AL
open Go.RowKit
set_option linter.unusedSimpArgs false
set_option linter.unusedVariables false
variable {P : Program} {m n : Nat}
theorem AWp.inlineF {id : Nat} {all : List Oper} {Q : Exit → ASt → Prop} {st : ASt} (l : List Oper) (dd : List (List Nat)) (l2 : List Oper) (dd2 : List (List Nat)) {dst : Option Nat} {f : Operand} {g : FuncId} {cs : List AV} {args : Array Operand} {tys : Array TypeId} {ty : TypeId} {pos : String} {after : Array Edge}
    (hall : all = l ++ ⟨dst, .call ⟨.value f, args, tys⟩, ty, pos, after, none⟩ :: l2) {fn : Func} {code : Code} {r : Nat} (hfn : P.funcs[g]? = some fn) (hb : fn.body = some code)
    (hname : (fn.name == "runtime.NumGoroutine") = false) (hm : fn.ntmps = m) (hres : fn.results.toList = [.tmp r]) (hr0 : Nat.blt r m = true) (hd : dok n dst)
    (h : aops P n (gslot all) l dd st fun s => uok true (evA s.env f) ∧ fnOf (un (evA s.env f)) = some (g, cs) ∧ uoks true (evA s.env) args.toList ∧ Nat.ble (args.toList.length + cs.length) m = true ∧
      ∀ (w0 : World) (S0 : Stab) (G : Array Value), S0.m = false → J.AWp P m (m + n) none w0 S0 G code (fun e s' => (e = .normal ∨ e = .ret) ∧ aops P n (gslot all) l2 dd2 ((s'.back m).put dst (eget s'.env r)) fun s2 => Q .normal s2)
        ⟨appE (argsE 0 ((args.toList.map fun x => un (evA s.env x)) ++ cs)) (shE m s.env), s.boxes, s.rows⟩) :
    AWp P n (.region id all.toArray false) Q st := by
  rintro w0 ⟨⟨s, k, mb⟩, hk0, hmb⟩ a w hr
  simp only at hk0 hmb
  subst hk0; subst hmb
  subst hall
  refine wp_region_lit ?_
  refine aops_sound_rest (fun st' a' w' hk hr' => ?_) l dd st a w hr h
  obtain ⟨huf, hff, hus, hle, hA⟩ := hk
  obtain ⟨S, γ, ρ, hr'⟩ := hr'
  have hw : ∀ X : Array Oper, Region.wanted (⟨dst, .call ⟨.value f, args, tys⟩, ty, pos, after, none⟩ : Oper) (yielded X a'.tmps) = true := fun X => by simp [Region.wanted]
  unfold wpList
  rw [if_pos (hw _)]
  left
  obtain ⟨cu, e, hcl, hcv⟩ := call_run (P := P) hr' (f := f) (g := (g, cs)) huf hff ⟨fn, hfn, hname, by rw [hb]; rfl⟩ dst args tys ty pos after
  simp only at hcl hcv
  unfold Oper.wp
  rw [e]
  have hle' := Nat.le_of_ble_eq_true hle
  have hr1 : r < m := by simpa [Nat.blt_eq] using hr0
  obtain ⟨_, Ds, hdef, hnd, hge, hKD⟩ := hr'.defs
  have hargs := args_get (S' := S) (γ' := γ) (ρ' := ρ) (b := false) (args := args.toList) (cu := cu) (cs := cs) (fun x => hr'.ev x) hus hcv (fun a => a) (fun _ => True) (fun _ _ => trivial) (fun _ _ => trivial) (fun a u _ h => h)
  rw [List.map_id'] at hargs
  have hsz : ((args.toList.map a'.eval ++ cu).toArray ++ Array.replicate (fn.ntmps - (args.toList.map a'.eval ++ cu).toArray.size) undef).size = m := by simp at hle'; simp [hm, hcl]; omega
  have hC : Calls P g (args.toList.map a'.eval ++ cu).toArray w' fun e' w2 => ∃ v, e' = .returned v ∧ ∃ st2, (aops P n (gslot (l ++ ⟨dst, .call ⟨.value f, args, tys⟩, ty, pos, after, none⟩ :: l2)) l2 dd2 st2 fun s2 => Q .normal s2) ∧ Rel w0 ⟨s, [], true⟩ n st2 (a'.put dst v) w2 := by
    refine (callsIn_wide (n := 0)).1 (callsIn_of_wp hfn hb trivial (wpIn_mono (hA w0 ⟨s, Ds.map emk, false⟩ a'.tmps rfl { tmps := (args.toList.map a'.eval ++ cu).toArray ++ Array.replicate (fn.ntmps - (args.toList.map a'.eval ++ cu).toArray.size) undef, defers := [] } w' hsz ?_) ?_) rfl)
    · refine ⟨S, γ, ρ, hr'.below, ⟨hr'.s0.1, hKD⟩, hr'.sw, hr'.heap, ?_, .nil rfl, fun s' => ?_⟩
      · simp only [Act.jn, Array.size_append, hr'.size] at hsz ⊢; omega
      · exact inline_env hr' (us := args.toList.map a'.eval ++ cu) (by simp [hcl]) hargs hsz (by simpa using hle') s'
    · rintro e2 a2 w2 ⟨hsz2, st2, ⟨he, hQ⟩, S2, γ2, ρ2, h2⟩
      have hv := h2.env r
      have e1 : (Act.jn a2 a'.tmps).tmps.getD r undef = a2.tmps.getD r undef := by
        show (a2.tmps ++ a'.tmps).getD r undef = _
        simp only [Array.getD_eq_getD_getElem?]
        rw [Array.getElem?_append_left (by omega)]
      rw [e1] at hv
      have hb2 : RelAt w0 ⟨s, [], true⟩ n (st2.back m) a' w2 S2 γ2 ρ2 := by
        refine ⟨h2.below, ⟨h2.s0.1, fun x hx => by cases hx⟩, h2.sw, h2.heap, hr'.size, ⟨(fun e => by cases e), Ds, hdef, hnd, hge, h2.s0.2⟩, fun s' => ?_⟩
        have := h2.env (s' + m)
        simp only [ASt.back, eget_backE]
        have e : (Act.jn a2 a'.tmps).tmps.getD (s' + m) undef = a'.tmps.getD s' undef := by
          show (a2.tmps ++ a'.tmps).getD (s' + m) undef = _
          rw [Array.getD_eq_getD_getElem?, Array.getD_eq_getD_getElem?, Array.getElem?_append_right (by omega)]
          congr 2; omega
        rw [e] at this; exact this
      have key : a2.defers = [] ∧ ∃ v, (results fn a2.tmps).run P w2 = .ok v w2 ∧ ∃ v', Ending.returned v = .returned v' ∧ ∃ st2, (aops P n (gslot (l ++ ⟨dst, .call ⟨.value f, args, tys⟩, ty, pos, after, none⟩ :: l2)) l2 dd2 st2 fun s2 => Q .normal s2) ∧ Rel w0 ⟨s, [], true⟩ n st2 (a'.put dst v') w2 :=
        ⟨h2.defs.1 rfl, a2.tmps.getD r undef, run_results (us := [a2.tmps.getD r undef]) (by rw [hres]; simp [resV]), _, rfl, _, hQ, S2, γ2, ρ2, hb2.put (dok_spec hd) hv⟩
      rcases he with rfl | rfl <;> exact key
  refine hC.mono fun e' w2 hh => ?_
  obtain ⟨v, he, st2, hK, hR⟩ := hh
  subst he
  show wpList P _ _ l2 (a'.put dst v) w2
  have := aops_sound_rest (rest := []) (Q := fun e a' w' => ∃ st', Q e st' ∧ Rel w0 ⟨s, [], true⟩ n st' a' w') (fun st' a' w' hk hr' => by exact ⟨st', hk, hr'⟩) l2 dd2 st2 (a'.put dst v) w2 hR hK
  rwa [List.append_nil] at this
end Go.AL
/-! A call of a function value that yields nothing, whose code is walked in place; operations may stand behind it. -/
namespace Go.AL
open Go.RowKit
set_option linter.unusedSimpArgs false
set_option linter.unusedVariables false
variable {P : Program} {m n : Nat}
theorem AWp.inlineF0 {id : Nat} {all : List Oper} {Q : Exit → ASt → Prop} {st : ASt} (l : List Oper) (dd : List (List Nat)) (l2 : List Oper) (dd2 : List (List Nat)) {dst : Option Nat} {f : Operand} {g : FuncId} {cs : List AV} {args : Array Operand} {tys : Array TypeId} {ty : TypeId} {pos : String} {after : Array Edge}
    (hall : all = l ++ ⟨dst, .call ⟨.value f, args, tys⟩, ty, pos, after, none⟩ :: l2) {fn : Func} {code : Code} (hfn : P.funcs[g]? = some fn) (hb : fn.body = some code)
    (hname : (fn.name == "runtime.NumGoroutine") = false) (hm : fn.ntmps = m) (hres : fn.results.toList = []) (hd : dok n dst)
    (h : aops P n (gslot all) l dd st fun s => uok true (evA s.env f) ∧ fnOf (un (evA s.env f)) = some (g, cs) ∧ uoks true (evA s.env) args.toList ∧ Nat.ble (args.toList.length + cs.length) m = true ∧
      ∀ (w0 : World) (S0 : Stab) (G : Array Value), S0.m = false → J.AWp P m (m + n) none w0 S0 G code (fun e s' => (e = .normal ∨ e = .ret) ∧ aops P n (gslot all) l2 dd2 ((s'.back m).put dst .any) fun s2 => Q .normal s2)
        ⟨appE (argsE 0 ((args.toList.map fun x => un (evA s.env x)) ++ cs)) (shE m s.env), s.boxes, s.rows⟩) :
    AWp P n (.region id all.toArray false) Q st := by
  rintro w0 ⟨⟨s, k, mb⟩, hk0, hmb⟩ a w hr
  simp only at hk0 hmb
  subst hk0; subst hmb
  subst hall
  refine wp_region_lit ?_
  refine aops_sound_rest (fun st' a' w' hk hr' => ?_) l dd st a w hr h
  obtain ⟨huf, hff, hus, hle, hA⟩ := hk
  obtain ⟨S, γ, ρ, hr'⟩ := hr'
  have hw : ∀ X : Array Oper, Region.wanted (⟨dst, .call ⟨.value f, args, tys⟩, ty, pos, after, none⟩ : Oper) (yielded X a'.tmps) = true := fun X => by simp [Region.wanted]
  unfold wpList
  rw [if_pos (hw _)]
  left
  obtain ⟨cu, e, hcl, hcv⟩ := call_run (P := P) hr' (f := f) (g := (g, cs)) huf hff ⟨fn, hfn, hname, by rw [hb]; rfl⟩ dst args tys ty pos after
  simp only at hcl hcv
  unfold Oper.wp
  rw [e]
  have hle' := Nat.le_of_ble_eq_true hle
  obtain ⟨_, Ds, hdef, hnd, hge, hKD⟩ := hr'.defs
  have hargs := args_get (S' := S) (γ' := γ) (ρ' := ρ) (b := false) (args := args.toList) (cu := cu) (cs := cs) (fun x => hr'.ev x) hus hcv (fun a => a) (fun _ => True) (fun _ _ => trivial) (fun _ _ => trivial) (fun a u _ h => h)
  rw [List.map_id'] at hargs
  have hsz : ((args.toList.map a'.eval ++ cu).toArray ++ Array.replicate (fn.ntmps - (args.toList.map a'.eval ++ cu).toArray.size) undef).size = m := by simp at hle'; simp [hm, hcl]; omega
  have hC : Calls P g (args.toList.map a'.eval ++ cu).toArray w' fun e' w2 => ∃ v, e' = .returned v ∧ ∃ st2, (aops P n (gslot (l ++ ⟨dst, .call ⟨.value f, args, tys⟩, ty, pos, after, none⟩ :: l2)) l2 dd2 st2 fun s2 => Q .normal s2) ∧ Rel w0 ⟨s, [], true⟩ n st2 (a'.put dst v) w2 := by
    refine (callsIn_wide (n := 0)).1 (callsIn_of_wp hfn hb trivial (wpIn_mono (hA w0 ⟨s, Ds.map emk, false⟩ a'.tmps rfl { tmps := (args.toList.map a'.eval ++ cu).toArray ++ Array.replicate (fn.ntmps - (args.toList.map a'.eval ++ cu).toArray.size) undef, defers := [] } w' hsz ?_) ?_) rfl)
    · refine ⟨S, γ, ρ, hr'.below, ⟨hr'.s0.1, hKD⟩, hr'.sw, hr'.heap, ?_, .nil rfl, fun s' => ?_⟩
      · simp only [Act.jn, Array.size_append, hr'.size] at hsz ⊢; omega
      · exact inline_env hr' (us := args.toList.map a'.eval ++ cu) (by simp [hcl]) hargs hsz (by simpa using hle') s'
    · rintro e2 a2 w2 ⟨hsz2, st2, ⟨he, hQ⟩, S2, γ2, ρ2, h2⟩
      have hb2 : RelAt w0 ⟨s, [], true⟩ n (st2.back m) a' w2 S2 γ2 ρ2 := by
        refine ⟨h2.below, ⟨h2.s0.1, fun x hx => by cases hx⟩, h2.sw, h2.heap, hr'.size, ⟨(fun e => by cases e), Ds, hdef, hnd, hge, h2.s0.2⟩, fun s' => ?_⟩
        have := h2.env (s' + m)
        simp only [ASt.back, eget_backE]
        have e : (Act.jn a2 a'.tmps).tmps.getD (s' + m) undef = a'.tmps.getD s' undef := by
          show (a2.tmps ++ a'.tmps).getD (s' + m) undef = _
          rw [Array.getD_eq_getD_getElem?, Array.getD_eq_getD_getElem?, Array.getElem?_append_right (by omega)]
          congr 2; omega
        rw [e] at this; exact this
      have key : a2.defers = [] ∧ ∃ v, (results fn a2.tmps).run P w2 = .ok v w2 ∧ ∃ v', Ending.returned v = .returned v' ∧ ∃ st2, (aops P n (gslot (l ++ ⟨dst, .call ⟨.value f, args, tys⟩, ty, pos, after, none⟩ :: l2)) l2 dd2 st2 fun s2 => Q .normal s2) ∧ Rel w0 ⟨s, [], true⟩ n st2 (a'.put dst v') w2 :=
        ⟨h2.defs.1 rfl, _, run_results (us := []) (by rw [hres]; rfl), _, rfl, _, hQ, S2, γ2, ρ2, hb2.put (dok_spec hd) .any⟩
      rcases he with rfl | rfl <;> exact key
  refine hC.mono fun e' w2 hh => ?_
  obtain ⟨v, he, st2, hK, hR⟩ := hh
  subst he
  show wpList P _ _ l2 (a'.put dst v) w2
  have := aops_sound_rest (rest := []) (Q := fun e a' w' => ∃ st', Q e st' ∧ Rel w0 ⟨s, [], true⟩ n st' a' w') (fun st' a' w' hk hr' => by exact ⟨st', hk, hr'⟩) l2 dd2 st2 (a'.put dst v) w2 hR hK
  rwa [List.append_nil] at this
end Go.AL
open Go Go.AL in
attribute [go_sem] P3.aopP P3.pres P3.isW P3.isMv P3.memQ P3.apureB P3.norEv P3.killSt frontE ASt.front
