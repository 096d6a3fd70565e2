/-
  The abstract layer, calls of closures that write what is their caller's own. Over whatever program; no program in sight.
-/
import Derived.Test.YtmooelhocanlnaaAbsQ

set_option linter.unusedSimpArgs false
set_option linter.unusedVariables false
set_option linter.constructorNameAsVariable false

/-! Calls of closures that write what is their caller's own: the body, stepped in place. -/
namespace Go.AL
open Go.RowKit
set_option linter.unusedSimpArgs false
set_option linter.unusedVariables false

variable {P : Program} {n : Nat}

def Act.jn (a : Act) (G : Array Value) : Act := { a with tmps := a.tmps ++ G }
def smallB (m : Nat) (o : Oper) : Bool :=
  o.guard.isNone && (match o.op with | .select _ _ => false | _ => true) && (o.op.operands.toList.all fun x => match x with | .tmp t => Nat.blt t m | _ => true) &&
    (match o.dst with | some d => Nat.blt d m | none => true)
theorem jn_eval {a : Act} {G : Array Value} {m : Nat} (hm : a.tmps.size = m) {x : Operand} (hx : ∀ t, x = .tmp t → t < m) : (Act.jn a G).eval x = a.eval x := by
  cases x with
  | tmp t =>
    have h0 : t < m := hx t rfl
    show (a.tmps ++ G).getD t undef = a.tmps.getD t undef
    have h1 : t < a.tmps.size := by rw [hm]; exact h0
    rw [Array.getD_eq_getD_getElem?, Array.getD_eq_getD_getElem?, Array.getElem?_append_left h1]
  | const v => rfl
  | global g => rfl
  | func f => rfl
theorem jn_put {a : Act} {G : Array Value} {m : Nat} (hm : a.tmps.size = m) {dst : Option Nat} (hd : ∀ d, dst = some d → d < m) (v : Value) : (Act.jn a G).put dst v = Act.jn (a.put dst v) G := by
  cases dst with
  | none => rfl
  | some d =>
    have := hd d rfl
    simp only [Act.jn, Act.put]
    congr 1
    exact Array.setIfInBounds_append_left (by omega)
theorem put_size {a : Act} {dst : Option Nat} {v : Value} : (a.put dst v).tmps.size = a.tmps.size := by
  cases dst <;> simp [Act.put]
theorem smallB_spec {m : Nat} {o : Oper} (h : smallB m o = true) : o.guard = none ∧ (∀ cs b, o.op ≠ .select cs b) ∧ (∀ x ∈ o.op.operands, ∀ t, x = .tmp t → t < m) ∧ (∀ d, o.dst = some d → d < m) := by
  unfold smallB at h
  simp only [Bool.and_eq_true] at h
  obtain ⟨⟨⟨h1, h2⟩, h3⟩, h4⟩ := h
  refine ⟨by simpa using h1, ?_, fun x hx t e => ?_, fun d e => ?_⟩
  · intro cs b e
    rw [e] at h2
    cases h2
  · subst e
    have := List.all_eq_true.1 h3 (.tmp t) (by simpa using hx)
    simpa [Nat.blt_eq] using this
  · rw [e] at h4
    simpa [Nat.blt_eq] using h4
theorem wpList_jn {all : Array Oper} {m : Nat} {G : Array Value} {Q Q' : Exit → Act → World → Prop} (hQ : ¬ LetsOut Q) (hq : ∀ e a w, a.tmps.size = m → Q e (Act.jn a G) w → Q' e a w) :
    ∀ (l : List Oper) (a : Act) (w : World), a.tmps.size = m → (∀ o ∈ l, smallB m o = true) → wpList P all Q l (Act.jn a G) w → wpList P all Q' l a w
  | [], a, w, hm, _, h => hq _ _ _ hm h
  | o :: l, a, w, hm, hs, h => by
    obtain ⟨s1, s2, s3, s4⟩ := smallB_spec (hs o (by simp))
    have hw : ∀ a : Act, Region.wanted o (yielded all a.tmps) = true := fun a => by simp [Region.wanted, s1]
    unfold wpList at h ⊢
    rw [if_pos (hw _)] at h ⊢
    rcases h with h | ⟨_, h⟩
    · left
      unfold Oper.wp at h ⊢
      rw [execOp_congr o s2 (fun x hx => jn_eval hm (s3 x hx))] at h
      have ih := fun (a : Act) (w : World) (hm : a.tmps.size = m) => wpList_jn (all := all) hQ hq l a w hm (fun o ho => hs o (List.mem_cons_of_mem _ ho))
      have nx : ∀ v w', wpList P all Q l ((Act.jn a G).put o.dst v) w' → wpList P all Q' l (a.put o.dst v) w' := fun v w' h => by
        rw [jn_put hm s4] at h
        exact ih _ _ (by rw [put_size, hm]) h
      generalize (execOp a.eval o).run P w = r at h ⊢
      unfold Oper.upon at h ⊢
      split at h
      · exact nx _ _ h
      · exact nx _ _ h
      · rename_i d w'
        have e : ({ Act.jn a G with defers := d :: (Act.jn a G).defers } : Act).put o.dst undef = Act.jn (({ a with defers := d :: a.defers } : Act).put o.dst undef) G := jn_put (a := { a with defers := d :: a.defers }) hm s4 undef
        rw [e] at h
        exact ih _ _ (by rw [put_size]; exact hm) h
      · refine h.mono fun e w' h => ?_
        split at h
        · exact nx _ _ h
        · exact hq _ _ _ hm h
        · exact absurd h hQ
      · exact h.mono fun v w' h => nx _ _ h
      · exact hq _ _ _ hm h
      · exact h.elim
    · exact absurd h hQ

/-! ### straight code -/
def flatC : List (Nat × List Oper) → Code
  | [] => .skip
  | [(id, l)] => .region id l.toArray false
  | (id, l) :: r :: rs => .seq (.region id l.toArray false) (flatC (r :: rs))
def AFl (P : Program) (n : Nat) : List (Nat × List Oper) → (ASt → Prop) → ASt → Prop
  | [], K, st => K st
  | (_, l) :: ls, K, st => ∀ (gs : Nat → Option Nat) (K' : ASt → Prop), (∀ j, gs j = gslot l j) → (∀ s, AFl P n ls K s → K' s) → aops P n gs l (l.map fun _ => []) st K'
theorem AFl.cons {id : Nat} {l : List Oper} {ls : List (Nat × List Oper)} {K : ASt → Prop} {st : ASt}
    (h : ∀ (gs : Nat → Option Nat) (K' : ASt → Prop), (∀ j, gs j = gslot l j) → (∀ s, AFl P n ls K s → K' s) → aops P n gs l (l.map fun _ => []) st K') : AFl P n ((id, l) :: ls) K st := h
theorem AFl.nil {K : ASt → Prop} {st : ASt} (h : K st) : AFl P n [] K st := h
theorem AFl_sound {w0 : World} {S0 : Nat → Prop} {m : Nat} {G : Array Value} {K : ASt → Prop} : ∀ (regs : List (Nat × List Oper)) (st : ASt) (a : Act) (w : World), regs ≠ [] → a.tmps.size = m → (∀ r ∈ regs, ∀ o ∈ r.2, smallB m o = true) →
    Rel w0 S0 n st (Act.jn a G) w → AFl P n regs K st → (flatC regs).wp P (fun e a' w' => e = .normal ∧ a'.tmps.size = m ∧ ∃ st', K st' ∧ Rel w0 S0 n st' (Act.jn a' G) w') a w
  | [], st, a, w, hne, _, _, _, _ => absurd rfl hne
  | [(id, l)], st, a, w, _, hm, hs, hr, h => by
    refine wp_region_lit ?_
    refine wpList_jn (m := m) (G := G) (Q := fun e a' w' => e = .normal ∧ ∃ st', K st' ∧ Rel w0 S0 n st' a' w') (fun ⟨_, _, h, _⟩ => by cases h) (fun e a' w' hm' h' => ⟨h'.1, hm', h'.2⟩) l a w hm (hs (id, l) (by simp)) ?_
    exact aops_sound (fun st' a' w' h1 h2 => ⟨rfl, st', h1, h2⟩) l _ st _ w hr (h (gslot l) K (fun _ => rfl) fun s h => h)
  | (id, l) :: r :: rs, st, a, w, _, hm, hs, hr, h => by
    refine wp_seq ?_
    refine wp_region_lit ?_
    refine wpList_jn (m := m) (G := G) (Q := fun e a' w' => e = .normal ∧ ∃ st', AFl P n (r :: rs) K st' ∧ Rel w0 S0 n st' a' w') (fun ⟨_, _, h, _⟩ => by cases h) (fun e a' w' hm' h' => ?_) l a w hm (hs (id, l) (by simp)) ?_
    · obtain ⟨rfl, st', h1, h2⟩ := h'
      exact AFl_sound (r :: rs) st' a' w' (by simp) hm' (fun r' hr' => hs r' (List.mem_cons_of_mem _ hr')) h2 h1
    · exact aops_sound (fun st' a' w' h1 h2 => ⟨rfl, st', h1, h2⟩) l _ st _ w hr (h (gslot l) _ (fun _ => rfl) fun s h => h)

/-! ### the joined slots -/
def shE (m : Nat) : List (Nat × AV) → List (Nat × AV)
  | [] => []
  | (k, v) :: t => (k + m, v) :: shE m t
def backE (m : Nat) : List (Nat × AV) → List (Nat × AV)
  | [] => []
  | (k, v) :: t => if m ≤ k then (k - m, v) :: backE m t else backE m t
def ASt.back (m : Nat) (st : ASt) : ASt := ⟨backE m st.env, st.boxes, st.rows⟩
def appE : List (Nat × AV) → List (Nat × AV) → List (Nat × AV)
  | [], y => y
  | p :: t, y => p :: appE t y
theorem eget_shE (m : Nat) : ∀ (env : List (Nat × AV)) (s : Nat), eget (shE m env) s = if m ≤ s then eget env (s - m) else .any
  | [], s => by simp [shE, eget]
  | (k, v) :: t, s => by
    simp only [shE, eget, eget_shE m t s]
    by_cases h : m ≤ s
    · rw [if_pos h, if_pos h]
      by_cases h2 : k = s - m
      · rw [if_pos h2, if_pos (by omega)]
      · rw [if_neg h2, if_neg (by omega)]
    · rw [if_neg h, if_neg h, if_neg (by omega)]
theorem eget_backE (m : Nat) : ∀ (env : List (Nat × AV)) (s : Nat), eget (backE m env) s = eget env (s + m)
  | [], s => by simp [backE, eget]
  | (k, v) :: t, s => by
    simp only [backE]
    by_cases h : m ≤ k
    · rw [if_pos h]
      simp only [eget, eget_backE m t s]
      by_cases h2 : k - m = s
      · rw [if_pos h2, if_pos (by omega)]
      · rw [if_neg h2, if_neg (by omega)]
    · rw [if_neg h]
      simp only [eget, eget_backE m t s]
      rw [if_neg (by omega)]
theorem eget_args : ∀ (k : Nat) (as : List AV) (ys : List (Nat × AV)) (s : Nat), eget (appE (argsE k as) ys) s = if k ≤ s ∧ s < k + as.length then as.getD (s - k) .any else eget ys s
  | k, [], ys, s => by
    simp only [argsE, appE]
    rw [if_neg]
    simp only [List.length_nil]
    omega
  | k, a :: as, ys, s => by
    simp only [argsE, appE, eget]
    by_cases h : k = s
    · subst h; simp
    · rw [if_neg h, eget_args (k + 1) as ys s]
      by_cases h2 : k + 1 ≤ s ∧ s < k + 1 + as.length
      · rw [if_pos h2, if_pos ⟨by omega, by simp; omega⟩, show s - k = (s - (k + 1)) + 1 by omega]; simp
      · rw [if_neg h2, if_neg (by simp; omega)]

theorem inline_env {w0 : World} {S0 : Nat → Prop} {st : ASt} {a : Act} {w : World} {S : Nat → Prop} {γ : List Nat} {ρ : List Value} (hr : RelAt w0 S0 n st a w S γ ρ) {us : List Value} {xs : List AV} (hl : us.length = xs.length)
    (hv : ∀ (i : Nat) (x : AV) (u : Value), xs[i]? = some x → us[i]? = some u → V w S γ ρ false x u) {k m : Nat} (hsz : (us.toArray ++ Array.replicate k undef).size = m) (hle : xs.length ≤ m) (s : Nat) :
    V w S γ ρ false (eget (appE (argsE 0 xs) (shE m st.env)) s) ((us.toArray ++ Array.replicate k undef ++ a.tmps).getD s undef) := by
  rw [eget_args, eget_shE, Array.getD_eq_getD_getElem?]
  split
  · rename_i hs
    have hs2 : s < xs.length := by omega
    rw [Array.getElem?_append_left (by omega), Array.getElem?_append_left (by simp; omega)]
    have h1 : xs[s]? = some (xs.getD (s - 0) .any) := by simp [List.getD_eq_getElem?_getD, hs2]
    have h2 : us[s]? = some (us[s]'(by omega)) := List.getElem?_eq_getElem _
    have := hv s _ _ h1 h2
    simpa [h2] using this
  · split
    · rename_i h1 h2
      rw [Array.getElem?_append_right (by omega), hsz]
      have := hr.env (s - m)
      rw [Array.getD_eq_getD_getElem?] at this
      exact this
    · exact .any

theorem inline_calls {w0 : World} {S0 : Nat → Prop} {st : ASt} {a : Act} {w : World} {S : Nat → Prop} {γ : List Nat} {ρ : List Value} (hr : RelAt w0 S0 n st a w S γ ρ) {us : List Value} {xs : List AV} (hl : us.length = xs.length)
    (hv : ∀ (i : Nat) (x : AV) (u : Value), xs[i]? = some x → us[i]? = some u → V w S γ ρ false x u) {g : FuncId} {fn : Func} {regs : List (Nat × List Oper)} {m : Nat} (hfn : P.funcs[g]? = some fn) (hb : fn.body = some (flatC regs)) (hne : regs ≠ [])
    (hm : fn.ntmps = m) (hres : fn.results.toList = []) (hsm : ∀ r ∈ regs, ∀ o ∈ r.2, smallB m o = true) (hle : xs.length ≤ m) {K : ASt → Prop}
    (hA : AFl P (m + n) regs K ⟨appE (argsE 0 xs) (shE m st.env), st.boxes, st.rows⟩) :
    Calls P g us.toArray w fun e w' => ∃ v, e = .returned v ∧ ∃ st', K st' ∧ Rel w0 S0 n (st'.back m) a w' := by
  refine calls_of_wp hfn hb ?_
  have hsz : (us.toArray ++ Array.replicate (fn.ntmps - us.toArray.size) undef).size = m := by simp [hm, hl]; omega
  have hr0 : Rel w0 S0 (m + n) ⟨appE (argsE 0 xs) (shE m st.env), st.boxes, st.rows⟩ (Act.jn { tmps := us.toArray ++ Array.replicate (fn.ntmps - us.toArray.size) undef, defers := [] } a.tmps) w := by
    refine ⟨S, γ, ρ, hr.below, hr.s0, hr.sw, hr.heap, ?_, rfl, fun s => ?_⟩
    · show (us.toArray ++ Array.replicate (fn.ntmps - us.toArray.size) undef ++ a.tmps).size = m + n
      rw [Array.size_append, hsz, hr.size]
    · exact inline_env hr hl hv hsz hle s
  refine Code.wp_mono (fun e a' w' hh => ?_) (AFl_sound (w0 := w0) (S0 := S0) (n := m + n) (m := m) (G := a.tmps) (K := K) regs _ _ w hne hsz hsm hr0 hA)
  obtain ⟨he, hm', st', hK, S', γ', ρ', h2⟩ := hh
  subst he
  refine ⟨h2.defs, _, run_results (us := []) (by rw [hres]; rfl), _, rfl, st', hK, S', γ', ρ', h2.below, h2.s0, h2.sw, h2.heap, hr.size, hr.defs, fun s => ?_⟩
  have := h2.env (s + m)
  simp only [ASt.back, eget_backE]
  have e : (Act.jn a' a.tmps).tmps.getD (s + m) undef = a.tmps.getD s undef := by
    show (a'.tmps ++ a.tmps).getD (s + m) undef = _
    rw [Array.getD_eq_getD_getElem?, Array.getD_eq_getD_getElem?, Array.getElem?_append_right (by omega), hm', Nat.add_sub_cancel]
  rw [e] at this
  exact this

theorem aops_sound_rest {w0 : World} {S0 : Nat → Prop} {all : List Oper} {K : ASt → Prop} {Q : Exit → Act → World → Prop} {rest : List Oper} (hn : ∀ st' a' w', K st' → Rel w0 S0 n st' a' w' → wpList P all.toArray Q rest a' w') :
    ∀ (l : List Oper) (dd : List (List Nat)) (st : ASt) (a : Act) (w : World), Rel w0 S0 n st a w → aops P n (gslot all) l dd st K → wpList P all.toArray Q (l ++ rest) a w
  | [], dd, st, a, w, h, hp => hn st a w hp h
  | _ :: _, [], _, _, _, _, hp => hp.elim
  | o :: l, d :: dd, st, a, w, h, hp => by
    obtain ⟨st1, he, hp⟩ := hp
    have h1 : Rel w0 S0 n st1 a w := by
      rcases he with rfl | ⟨keep, rfl⟩
      · exact h
      · exact h.freeze keep
    rw [List.cons_append]
    rcases hp with hp | hp | hp | hp
    · exact aop_sound h1 hp fun st' a' w' hp' h' => aops_sound_rest hn l dd (st'.drop d) a' w' (h'.drop _) hp'
    · exact aopN_sound h1 hp fun st' a' w' hp' h' => aops_sound_rest hn l dd (st'.drop d) a' w' (h'.drop _) hp'
    · exact aopX_sound h1 hp fun st' a' w' hp' h' => aops_sound_rest hn l dd (st'.drop d) a' w' (h'.drop _) hp'
    · exact aopG_sound h1 hp fun st' a' w' hp' h' => aops_sound_rest hn l dd (st'.drop d) a' w' (h'.drop _) hp'

/-- a region that ends with the call of a closure, whose body is stepped in place -/
theorem AWp.inlineR {id : Nat} {all : List Oper} {Q : Exit → ASt → Prop} {st : ASt} (l : List Oper) {dst : Option Nat} {f : Operand} {args : Array Operand} {tys : Array TypeId} {ty : TypeId} {pos : String} {after : Array Edge}
    (hall : all = l ++ [⟨dst, .call ⟨.value f, args, tys⟩, ty, pos, after, none⟩]) {g : FuncId} {fn : Func} (regs : List (Nat × List Oper)) {m : Nat} (hfn : P.funcs[g]? = some fn) (hb : fn.body = some (flatC regs)) (hne : regs ≠ [])
    (hname : (fn.name == "runtime.NumGoroutine") = false) (hm : fn.ntmps = m) (hres : fn.results.toList = []) (hsm : (regs.all fun r => r.2.all (smallB m)) = true) (hd : dok n dst)
    (h : aops P n (gslot all) l (l.map fun _ => []) st fun s => ∃ cs, uok true (evA s.env f) ∧ fnOf (un (evA s.env f)) = some (g, cs) ∧ uoks true (evA s.env) args.toList ∧ Nat.ble (args.toList.length + cs.length) m = true ∧
      AFl P (m + n) regs (fun s' => Q .normal ((s'.back m).put dst .any)) ⟨appE (argsE 0 ((args.toList.map fun x => un (evA s.env x)) ++ cs)) (shE m s.env), s.boxes, s.rows⟩) :
    AWp P n (.region id all.toArray false) Q st := fun w0 S0 a w hr => by
  subst hall
  refine wp_region_lit ?_
  refine aops_sound_rest (fun st' a' w' hk hr' => ?_) l _ st a w hr h
  obtain ⟨cs, hu, hf, hus, hle, hA⟩ := hk
  obtain ⟨S, γ, ρ, hr'⟩ := hr'
  have hw : ∀ X : Array Oper, Region.wanted (⟨dst, .call ⟨.value f, args, tys⟩, ty, pos, after, none⟩ : Oper) (yielded X a'.tmps) = true := fun X => by simp [Region.wanted]
  unfold wpList
  rw [if_pos (hw _)]
  left
  obtain ⟨cu, e, hcl, hcv⟩ := call_run (P := P) hr' hu hf ⟨fn, hfn, hname, by rw [hb]; rfl⟩ dst args tys ty pos after
  unfold Oper.wp
  rw [e]
  have hle' := Nat.le_of_ble_eq_true hle
  have hsm' : ∀ r ∈ regs, ∀ o ∈ r.2, smallB m o = true := fun r hr o ho => List.all_eq_true.1 (List.all_eq_true.1 hsm r hr) o ho
  refine (inline_calls (P := P) hr' (us := args.toList.map a'.eval ++ cu) (xs := (args.toList.map fun x => un (evA st'.env x)) ++ cs) (by simp [hcl]) ?_ hfn hb hne hm hres hsm' (by simpa using hle') hA).mono fun e' w' hh => ?_
  · have := args_get (S' := S) (γ' := γ) (ρ' := ρ) (b := false) (args := args.toList) (cs := cs) (fun x => hr'.ev x) hus hcv (fun a => a) (fun _ => True) (fun _ _ => trivial) (fun _ _ => trivial) (fun a u _ h => h)
    simpa using this
  · obtain ⟨v, he, st2, hK, S2, γ2, ρ2, h2⟩ := hh
    subst he
    show wpList P _ _ [] (a'.put dst v) w'
    exact ⟨_, hK, S2, γ2, ρ2, h2.put (dok_spec hd) .any⟩
theorem AWp.inlineR2 {id : Nat} {o1 o2 : Oper} {Q : Exit → ASt → Prop} {st : ASt} {dst : Option Nat} {f : Operand} {args : Array Operand} {tys : Array TypeId} {ty : TypeId} {pos : String} {after : Array Edge}
    (g : FuncId) {fn : Func} (regs : List (Nat × List Oper)) {m : Nat} (cs : List AV) (hfn : P.funcs[g]? = some fn) (hb : fn.body = some (flatC regs)) (hne : regs ≠ [])
    (hname : (fn.name == "runtime.NumGoroutine") = false) (hm : fn.ntmps = m) (hres : fn.results.toList = []) (hsm : (regs.all fun r => r.2.all (smallB m)) = true) (hd : dok n dst)
    (h : ∀ (gs : Nat → Option Nat) (K' : ASt → Prop), (∀ j, gs j = gslot [o1, o2, ⟨dst, .call ⟨.value f, args, tys⟩, ty, pos, after, none⟩] j) →
      (∀ s, (uok true (evA s.env f) ∧ fnOf (un (evA s.env f)) = some (g, cs) ∧ uoks true (evA s.env) args.toList ∧ Nat.ble (args.toList.length + cs.length) m = true ∧
        AFl P (m + n) regs (fun s' => Q .normal ((s'.back m).put dst .any)) ⟨appE (argsE 0 ((args.toList.map fun x => un (evA s.env x)) ++ cs)) (shE m s.env), s.boxes, s.rows⟩) → K' s) →
      aops P n gs [o1, o2] [[], []] st K') :
    AWp P n (.region id [o1, o2, ⟨dst, .call ⟨.value f, args, tys⟩, ty, pos, after, none⟩].toArray false) Q st :=
  AWp.inlineR [o1, o2] rfl regs hfn hb hne hname hm hres hsm hd (h _ _ (fun _ => rfl) fun s hs => ⟨cs, hs⟩)

/-! ### drawn regions: a guarded operation that makes memory, known to come up -/
def aopDG (P : Program) (n : Nat) (gs : Nat → Option Nat) (o : Oper) (st : ASt) (K : ASt → Prop) : Prop :=
  dok n o.dst ∧
  match o.guard with
  | none => False
  | some (j, want) =>
    match gs j with
    | some g => gcond want (eget st.env g) = some true ∧ amem P (evA st.env) o.op fun v => K (st.put o.dst (.opt true v))
    | none => False
theorem aopsD_consG {gs : Nat → Option Nat} {o : Oper} {os : List Oper} {st : ASt} {K : ASt → Prop} (h : ∀ K' : ASt → Prop, (∀ s, aopsD P n gs os s K → K' s) → aopDG P n gs o st K') : aopsD P n gs (o :: os) st K := by
  obtain ⟨h1, h2⟩ := h _ fun _ h => h
  refine ⟨h1, ?_⟩
  cases hg : o.guard with
  | none => rw [hg] at h2; exact h2.elim
  | some jw =>
    obtain ⟨j, want⟩ := jw
    rw [hg] at h2
    simp only at h2 ⊢
    cases hs : gs j with
    | none => rw [hs] at h2; exact h2.elim
    | some g =>
      rw [hs] at h2
      simp only at h2 ⊢
      obtain ⟨hc, h3⟩ := h2
      rw [hc]
      exact .inr (.inr ⟨rfl, h3⟩)
/-- the same of an operation that is not guarded -/
def aopDU (P : Program) (n : Nat) (gs : Nat → Option Nat) (o : Oper) (st : ASt) (K : ASt → Prop) : Prop :=
  dok n o.dst ∧ o.guard = none ∧ amem P (evA st.env) o.op fun v => K (st.put o.dst v)
theorem aopsD_consU {gs : Nat → Option Nat} {o : Oper} {os : List Oper} {st : ASt} {K : ASt → Prop} (h : ∀ K' : ASt → Prop, (∀ s, aopsD P n gs os s K → K' s) → aopDU P n gs o st K') : aopsD P n gs (o :: os) st K := by
  obtain ⟨h1, h2, h3⟩ := h _ fun _ h => h
  refine ⟨h1, ?_⟩
  rw [h2]
  exact .inr (.inr ⟨rfl, h3⟩)
end Go.AL

open Go Go.AL in
attribute [go_sem] ASt.back backE shE appE argsE aopDG aopDU
