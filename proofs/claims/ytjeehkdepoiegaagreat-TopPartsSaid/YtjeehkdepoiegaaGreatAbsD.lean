/-
  The abstract layer, fourth part: regions, drawn regions, control flow, entering and leaving a function. Over whatever program; no program in sight.
-/
import Derived.Test.YtjeehkdepoiegaaGreatAbsC
import Derived.Scope
import Derived.RangeFuncNested
set_option linter.unusedSimpArgs false
set_option linter.unusedVariables false
set_option linter.constructorNameAsVariable false
namespace Go.AL
open Go.RowKit
set_option linter.unusedSimpArgs false
set_option linter.unusedVariables false
variable {P : Program}
def gcond (want : Bool) : AV → Option Bool
  | .lit (.bool g) => some (bif want then g else !g)
  | .opt p (.lit (.bool g)) => some (p && (bif want then g else !g))
  | _ => none
def gslot (all : List Oper) (j : Nat) : Option Nat := (all[j]?).bind (·.dst)
def dok (n : Nat) : Option Nat → Prop
  | none => True
  | some d => d < n
theorem gcond_spec {w : World} {S : Nat → Prop} {γ : List Nat} {ρ : List Value} {want c : Bool} {v : AV} {u : Value} (h : gcond want v = some c) (hv : V w S γ ρ false v u) :
    (c = true → u = .bool want) ∧ (c = false → u ≠ .bool want) := by
  unfold gcond at h
  split at h
  · rename_i g
    cases h
    have := hv.lit_eq
    subst this
    cases want <;> cases g <;> simp
  · rename_i p g
    cases h
    cases hv with
    | opt h1 h2 =>
      cases p
      · have := h2 rfl
        subst this
        simp [undef]
      · have := (h1 rfl).lit_eq
        subst this
        cases want <;> cases g <;> simp
  · cases h
theorem wanted_iff {w : World} {S : Nat → Prop} {γ : List Nat} {ρ : List Value} {all : List Oper} {tmps : Array Value} {o : Oper} {j : Nat} {want c : Bool} {g : Nat} {v : AV} (hg : o.guard = some (j, want)) (hs : gslot all j = some g)
    (hc : gcond want v = some c) (hv : V w S γ ρ false v (tmps.getD g undef)) : Region.wanted o (yielded all.toArray tmps) = c := by
  obtain ⟨h1, h2⟩ := gcond_spec hc hv
  have hy : yielded all.toArray tmps j = match tmps[g]? with | some (.bool b) => some b | _ => none := by
    unfold gslot at hs
    simp only [yielded, List.getElem?_toArray, hs, Option.bind_some]
    rfl
  simp only [Region.wanted, hg, hy]
  have hd : tmps.getD g undef = (tmps[g]?).getD undef := by simp [Array.getD_eq_getD_getElem?]
  cases c
  · have h3 := h2 rfl
    rw [hd] at h3
    cases ht : tmps[g]? with
    | none => rfl
    | some x =>
      rw [ht] at h3
      cases x <;> try rfl
      rename_i b
      simp only [Option.getD_some, ne_eq, Value.bool.injEq] at h3
      simp [h3]
  · have h3 := h1 rfl
    rw [hd] at h3
    cases ht : tmps[g]? with
    | none => rw [ht] at h3; simp [undef] at h3
    | some x =>
      rw [ht] at h3
      simp only [Option.getD_some] at h3
      subst h3; simp
def aop (P : Program) (n : Nat) (gs : Nat → Option Nat) (o : Oper) (st : ASt) (K : ASt → Prop) : Prop :=
  dok n o.dst ∧
  match o.guard with
  | none => astep P st o.op fun v st' => K (st'.put o.dst v)
  | some (j, want) =>
    match gs j with
    | some g => match gcond want (eget st.env g) with
      | some c => apure P st c o.op fun v => K (st.put o.dst (.opt c v))
      | none => False
    | none => False
def aopN (P : Program) (n : Nat) (o : Oper) (st : ASt) (K : ASt → Prop) : Prop :=
  dok n o.dst ∧ o.guard = none ∧
  match o.op with
  | .call ⟨.value f, args, _⟩ =>
    match fnOf (un (evA st.env f)) with
    | some g => uok true (evA st.env f) ∧ uoks true (evA st.env) args.toList ∧ ∃ r news, ACallN P g.1 ((args.toList.map fun x => (un (evA st.env x)).lend st.boxes st.rows) ++ g.2.map (AV.lend st.boxes st.rows)) r news ∧
        (noOwnL (args.toList.map fun x => un (evA st.env x)) && noOwnL g.2) = true ∧ K (ASt.put { st with rows := st.rows ++ news } o.dst (r.shift st.rows.length))
    | none => False
  | _ => False
def aopX (P : Program) (n : Nat) (o : Oper) (st : ASt) (K : ASt → Prop) : Prop :=
  dok n o.dst ∧ o.guard = none ∧
  match o.op with
  | .call ⟨.value f, args, _⟩ =>
    match fnOf (un (evA st.env f)) with
    | some g => uok true (evA st.env f) ∧ uoks true (evA st.env) args.toList ∧ ∃ r, ACallX P g.1 ((args.toList.map fun x => un (evA st.env x)) ++ g.2) r ∧ K (st.put o.dst r)
    | none => False
  | _ => False
def aopG (P : Program) (n : Nat) (gs : Nat → Option Nat) (o : Oper) (st : ASt) (K : ASt → Prop) : Prop :=
  dok n o.dst ∧
  match o.guard with
  | none => False
  | some (j, want) =>
    match gs j with
    | some g => (gcond want (eget st.env g) = some false ∧ K (st.put o.dst (.opt false (.lit (.bool false))))) ∨
        (gcond want (eget st.env g) = some true ∧ astep P st o.op fun v st' => K (st'.put o.dst (.opt true v)))
    | none => False
def dropE (d : List Nat) : List (Nat × AV) → List (Nat × AV)
  | [] => []
  | (k, v) :: t => if keepR d k = true then dropE d t else (k, v) :: dropE d t
def ASt.drop (st : ASt) : List Nat → ASt
  | [] => st
  | d :: ds => { st with env := dropE (d :: ds) st.env }
def aops (P : Program) (n : Nat) (gs : Nat → Option Nat) : List Oper → List (List Nat) → ASt → (ASt → Prop) → Prop
  | [], _, st, K => K st
  | o :: os, d :: dd, st, K => ∃ st1, (st1 = st ∨ ∃ keep, st1 = st.freeze keep) ∧
      ((aop P n gs o st1 fun st' => aops P n gs os dd (st'.drop d) K) ∨ (aopN P n o st1 fun st' => aops P n gs os dd (st'.drop d) K) ∨ (aopX P n o st1 fun st' => aops P n gs os dd (st'.drop d) K) ∨ (aopG P n gs o st1 fun st' => aops P n gs os dd (st'.drop d) K))
  | _ :: _, [], _, _ => False
theorem dok_spec {n : Nat} {dst : Option Nat} (h : dok n dst) : ∀ d, dst = some d → d < n := by
  intro d e; subst e; exact h
theorem aop_sound {w0 : World} {S0 : Stab} {n : Nat} {all : List Oper} {o : Oper} {rest : List Oper} {st : ASt} {a : Act} {w : World} {K : ASt → Prop} {Q : Exit → Act → World → Prop} (h : Rel w0 S0 n st a w)
    (hp : aop P n (gslot all) o st K) (hn : ∀ st' a' w', K st' → Rel w0 S0 n st' a' w' → wpList P all.toArray Q rest a' w') : wpList P all.toArray Q (o :: rest) a w := by
  obtain ⟨S, γ, ρ, h⟩ := h
  obtain ⟨hd, hp⟩ := hp
  have hd := dok_spec hd
  cases hg : o.guard with
  | none =>
    rw [hg] at hp
    obtain ⟨v, st', hK, hs⟩ := astep_sound h hp
    have hw : Region.wanted o (yielded all.toArray a.tmps) = true := by simp [Region.wanted, hg]
    unfold wpList
    rw [if_pos hw]
    exact .inl (hs _ _ fun u w' S' γ' ρ' hr hv => hn _ _ _ hK ⟨S', γ', ρ', hr.put hd hv⟩)
  | some jw =>
    obtain ⟨j, want⟩ := jw
    rw [hg] at hp
    simp only at hp
    cases hs : gslot all j with
    | none => rw [hs] at hp; exact hp.elim
    | some g =>
      rw [hs] at hp
      simp only at hp
      cases hc : gcond want (eget st.env g) with
      | none => rw [hc] at hp; exact hp.elim
      | some c =>
        rw [hc] at hp
        simp only at hp
        have hw := wanted_iff hg hs hc (h.env g)
        unfold wpList
        cases c
        · rw [if_neg (by rw [hw]; simp)]
          have : ∃ v, K (st.put o.dst (.opt false v)) := by
            unfold apure apureE at hp
            split at hp
            · split at hp
              · exact ⟨_, hp.2.2.2.2.2⟩
              · cases hp
            · split at hp
              · obtain ⟨_, _, r, _, _, hK⟩ := hp; exact ⟨r, hK⟩
              · cases hp
            · exact ⟨_, hp.2.2⟩
          obtain ⟨v, hK⟩ := this
          exact hn _ _ _ hK ⟨S, γ, ρ, h.put hd (.opt (fun h => by cases h) (fun _ => rfl))⟩
        · rw [if_pos hw]
          obtain ⟨v, hK, hs⟩ := apure_sound h rfl hp
          exact .inl (hs _ _ fun u w' S' hb hS hS' hv => hn _ _ _ hK ⟨S', γ, ρ, (h.later hb hS hS').put hd (.opt (fun _ => hv) (fun h => by cases h))⟩)
theorem aopG_sound {w0 : World} {S0 : Stab} {n : Nat} {all : List Oper} {o : Oper} {rest : List Oper} {st : ASt} {a : Act} {w : World} {K : ASt → Prop} {Q : Exit → Act → World → Prop} (h : Rel w0 S0 n st a w)
    (hp : aopG P n (gslot all) o st K) (hn : ∀ st' a' w', K st' → Rel w0 S0 n st' a' w' → wpList P all.toArray Q rest a' w') : wpList P all.toArray Q (o :: rest) a w := by
  obtain ⟨S, γ, ρ, h⟩ := h
  obtain ⟨hd, hp⟩ := hp
  have hd := dok_spec hd
  cases hg : o.guard with
  | none => rw [hg] at hp; exact hp.elim
  | some jw =>
    obtain ⟨j, want⟩ := jw
    rw [hg] at hp
    simp only at hp
    cases hs : gslot all j with
    | none => rw [hs] at hp; exact hp.elim
    | some g =>
      rw [hs] at hp
      simp only at hp
      rcases hp with ⟨hc, hK⟩ | ⟨hc, hp⟩
      · have hw := wanted_iff hg hs hc (h.env g)
        unfold wpList
        rw [if_neg (by rw [hw]; simp)]
        exact hn _ _ _ hK ⟨S, γ, ρ, h.put hd (.opt (fun h => by cases h) (fun _ => rfl))⟩
      · have hw := wanted_iff hg hs hc (h.env g)
        unfold wpList
        rw [if_pos hw]
        obtain ⟨v, st', hK, hs⟩ := astep_sound h hp
        exact .inl (hs _ _ fun u w' S' γ' ρ' hr hv => hn _ _ _ hK ⟨S', γ', ρ', hr.put hd (.opt (fun _ => hv) (fun h => by cases h))⟩)
theorem call_run {w0 : World} {S0 : Stab} {n : Nat} {st : ASt} {a : Act} {w : World} {S : Nat → Prop} {γ : List Nat} {ρ : List Value} (h : RelAt w0 S0 n st a w S γ ρ) {f : Operand} {g : FuncId × List AV}
    (huf : uok true (evA st.env f)) (hf : fnOf (un (evA st.env f)) = some g) (hca : Callable P g.1) (dst : Option Nat) (args : Array Operand) (tys : Array TypeId) (ty : TypeId) (pos : String) (after : Array Edge) :
    ∃ cu : List Value, (execOp a.eval ⟨dst, .call ⟨.value f, args, tys⟩, ty, pos, after, none⟩).run P w = .ok (.enter g.1 (args.toList.map a.eval ++ cu).toArray) w ∧ cu.length = g.2.length ∧
      ∀ (i : Nat) (c : AV) (x : Value), g.2[i]? = some c → cu[i]? = some x → V w S γ ρ false c x := by
  obtain ⟨cu, ef, hcl, hcv⟩ := fnOf_spec hf ((h.ev f).un rfl huf)
  obtain ⟨fn, hfn, hname, hbody⟩ := hca
  have hmap : args.map a.eval ++ cu.toArray = (args.toList.map a.eval ++ cu).toArray := by apply Array.ext'; simp
  refine ⟨cu, ?_, hcl, hcv⟩
  rw [← hmap]
  simp only [execOp, resolve, Deferred.ofValue, ef, invoke, Sem.run_bind, Sem.run_pure, Result.andThen_ok]
  have hn1 : fn.name ≠ "runtime.NumGoroutine" := by simpa using hname
  have hb1 : fn.body ≠ none := by intro e; rw [e] at hbody; cases hbody
  simp [callFunc, hfn, hn1, hb1]
theorem args_get {w : World} {S S' : Nat → Prop} {γ γ' : List Nat} {ρ ρ' : List Value} {b : Bool} {env : List (Nat × AV)} {a : Act} (hev : ∀ x, V w S γ ρ false (evA env x) (a.eval x)) {args : List Operand} (hu : uoks true (evA env) args) {cu : List Value} {cs : List AV}
    (hcv : ∀ (i : Nat) (c : AV) (x : Value), cs[i]? = some c → cu[i]? = some x → V w S γ ρ false c x) (F : AV → AV) (p : AV → Prop) (hpa : ∀ y ∈ args, p (un (evA env y))) (hpg : ∀ y ∈ cs, p y)
    (hl : ∀ (a : AV) (u : Value), p a → V w S γ ρ false a u → V w S' γ' ρ' b (F a) u) :
    ∀ (i : Nat) (x : AV) (u : Value), ((args.map fun x => F (un (evA env x))) ++ cs.map F)[i]? = some x → (args.map a.eval ++ cu)[i]? = some u → V w S' γ' ρ' b x u := by
  intro i x u h1 h2
  by_cases hi : i < args.length
  · rw [List.getElem?_append_left (by simpa using hi), List.getElem?_map] at h1 h2
    obtain ⟨y, hy, rfl⟩ := Option.map_eq_some_iff.1 h1
    rw [hy] at h2; cases h2
    exact hl _ _ (hpa y (List.mem_of_getElem? hy)) ((hev y).un rfl (uoks_mem hu y (List.mem_of_getElem? hy)))
  · rw [List.getElem?_append_right (by simpa using hi)] at h1 h2
    simp only [List.length_map, List.getElem?_map] at h1 h2
    obtain ⟨y, hy, rfl⟩ := Option.map_eq_some_iff.1 h1
    exact hl _ _ (hpg y (List.mem_of_getElem? hy)) (hcv _ _ _ hy h2)
theorem aopN_sound {w0 : World} {S0 : Stab} {n : Nat} {all : List Oper} {o : Oper} {rest : List Oper} {st : ASt} {a : Act} {w : World} {K : ASt → Prop} {Q : Exit → Act → World → Prop} (h : Rel w0 S0 n st a w)
    (hp : aopN P n o st K) (hn : ∀ st' a' w', K st' → Rel w0 S0 n st' a' w' → wpList P all.toArray Q rest a' w') : wpList P all.toArray Q (o :: rest) a w := by
  obtain ⟨S, γ, ρ, h⟩ := h
  obtain ⟨hd, hg, hp⟩ := hp
  obtain ⟨dst, op, ty, pos, after, guard⟩ := o
  simp only at hp hg hd
  subst hg
  have hw : Region.wanted ⟨dst, op, ty, pos, after, none⟩ (yielded all.toArray a.tmps) = true := by simp [Region.wanted]
  unfold wpList
  rw [if_pos hw]
  left
  split at hp
  · rename_i f args tys
    split at hp
    · rename_i g hf
      obtain ⟨huf, hu, r, news, ⟨hca, hcall⟩, hno, hK⟩ := hp
      obtain ⟨cu, hrun, hcl, hcv⟩ := call_run h huf hf hca dst args tys ty pos after
      obtain ⟨hno1, hno2⟩ := Bool.and_eq_true_iff.1 hno
      unfold Oper.wp
      rw [hrun, Oper.upon_enter]
      have := hcall w S (args.toList.map a.eval ++ cu) h.sw (by simp [hcl]) (args_get h.ev hu hcv (AV.lend st.boxes st.rows) (fun a => a.noOwn = true) (fun y hy => noOwnL_mem hno1 _ (List.mem_map.2 ⟨y, hy, rfl⟩)) (fun y hy => noOwnL_mem hno2 y hy)
        fun a u hn hv => (hv.noOwn_lend st.boxes st.rows hn true).closed true)
      refine this.mono fun e w' ⟨u, S', ρ', he, hb, hS, hS', hR, hv⟩ => ?_
      subst he
      refine hn _ _ _ hK ⟨S', γ, ρ ++ ρ', (Rel.calledN h hb hS hS' hR).put (dok_spec hd) ?_⟩
      rw [← h.heap.nr]
      exact hv.shift
    · cases hp
  · cases hp
theorem aopX_sound {w0 : World} {S0 : Stab} {n : Nat} {all : List Oper} {o : Oper} {rest : List Oper} {st : ASt} {a : Act} {w : World} {K : ASt → Prop} {Q : Exit → Act → World → Prop} (h : Rel w0 S0 n st a w)
    (hp : aopX P n o st K) (hn : ∀ st' a' w', K st' → Rel w0 S0 n st' a' w' → wpList P all.toArray Q rest a' w') : wpList P all.toArray Q (o :: rest) a w := by
  obtain ⟨S, γ, ρ, h⟩ := h
  obtain ⟨hd, hg, hp⟩ := hp
  obtain ⟨dst, op, ty, pos, after, guard⟩ := o
  simp only at hp hg hd
  subst hg
  have hw : Region.wanted ⟨dst, op, ty, pos, after, none⟩ (yielded all.toArray a.tmps) = true := by simp [Region.wanted]
  unfold wpList
  rw [if_pos hw]
  left
  split at hp
  · rename_i f args tys
    split at hp
    · rename_i g hf
      obtain ⟨huf, hu, r, ⟨hca, hcall⟩, hK⟩ := hp
      obtain ⟨cu, hrun, hcl, hcv⟩ := call_run h huf hf hca dst args tys ty pos after
      unfold Oper.wp
      rw [hrun, Oper.upon_enter]
      have hargs := args_get h.ev hu hcv id (fun _ => True) (fun _ _ => trivial) (fun _ _ => trivial) fun a u _ hv => hv
      simp only [id, List.map_id_fun] at hargs
      have := hcall w S γ ρ (args.toList.map a.eval ++ cu) h.sw (by simp [hcl]) hargs
      refine this.mono fun e w' ⟨u, he, hb, hv⟩ => ?_
      subst he
      exact hn _ _ _ hK ⟨S, γ, ρ, (h.later hb (fun _ h => h) (fun _ h => .inl h)).put (dok_spec hd) hv⟩
    · cases hp
  · cases hp
theorem eget_dropE (d : List Nat) (s : Nat) : ∀ env, eget (dropE d env) s = eget env s ∨ eget (dropE d env) s = .any
  | [] => .inl rfl
  | (k, v) :: env => by
    simp only [dropE]
    split
    · rename_i hk
      simp only [eget]
      split
      · rename_i he
        subst he
        right
        clear v
        induction env with
        | nil => rfl
        | cons p env ih =>
          obtain ⟨k', v'⟩ := p
          simp only [dropE]
          split
          · exact ih
          · rename_i hk'
            simp only [eget]
            rw [if_neg (fun e : k' = k => hk' (by rw [e]; exact hk))]
            exact ih
      · exact eget_dropE d s env
    · simp only [eget]
      split
      · exact .inl rfl
      · exact eget_dropE d s env
theorem RelAt.env0 {w0 : World} {S0 : Stab} {n : Nat} {st : ASt} {a : Act} {w : World} {S : Nat → Prop} {γ : List Nat} {ρ : List Value} (h : RelAt w0 S0 n st a w S γ ρ) (env' : List (Nat × AV))
    (he : ∀ s, eget env' s = eget st.env s ∨ eget env' s = .any) : RelAt w0 S0 n { st with env := env' } a w S γ ρ := by
  refine ⟨h.below, h.s0, h.sw, h.heap, h.size, h.defs, fun s => ?_⟩
  rcases he s with e | e
  · show V w S γ ρ false (eget env' s) _
    rw [e]; exact h.env s
  · show V w S γ ρ false (eget env' s) _
    rw [e]; exact .any
theorem Rel.drop {w0 : World} {S0 : Stab} {n : Nat} {st : ASt} {a : Act} {w : World} (h : Rel w0 S0 n st a w) (d : List Nat) : Rel w0 S0 n (st.drop d) a w := by
  cases d with
  | nil => exact h
  | cons d ds =>
    obtain ⟨S, γ, ρ, h⟩ := h
    exact ⟨S, γ, ρ, h.env0 _ fun s => eget_dropE (d :: ds) s st.env⟩
theorem aops_sound {w0 : World} {S0 : Stab} {n : Nat} {all : List Oper} {K : ASt → Prop} {Q : Exit → Act → World → Prop} (hn : ∀ st' a' w', K st' → Rel w0 S0 n st' a' w' → Q .normal a' w') :
    ∀ (l : List Oper) (dd : List (List Nat)) (st : ASt) (a : Act) (w : World), Rel w0 S0 n st a w → aops P n (gslot all) l dd st K → wpList P all.toArray Q l a w
  | [], dd, st, a, w, h, hp => hn st a w hp h
  | _ :: _, [], _, _, _, _, hp => hp.elim
  | o :: l, d :: dd, st, a, w, h, hp => by
    obtain ⟨st1, he, hp⟩ := hp
    have h1 : Rel w0 S0 n st1 a w := by
      rcases he with rfl | ⟨keep, rfl⟩
      · exact h
      · exact h.freeze keep
    rcases hp with hp | hp | hp | hp
    · exact aop_sound h1 hp fun st' a' w' hp' h' => aops_sound hn l dd (st'.drop d) a' w' (h'.drop _) hp'
    · exact aopN_sound h1 hp fun st' a' w' hp' h' => aops_sound hn l dd (st'.drop d) a' w' (h'.drop _) hp'
    · exact aopX_sound h1 hp fun st' a' w' hp' h' => aops_sound hn l dd (st'.drop d) a' w' (h'.drop _) hp'
    · exact aopG_sound h1 hp fun st' a' w' hp' h' => aops_sound hn l dd (st'.drop d) a' w' (h'.drop _) hp'
/-! ### pruning, weakening, freezing -/
abbrev keepB := keepR
def pruneE (F : List Nat) : List (Nat × AV) → List (Nat × AV)
  | [] => []
  | (k, v) :: t => if keepB F k = true then (k, v) :: pruneE F t else pruneE F t
def ASt.prune (F : List Nat) (st : ASt) : ASt := { st with env := pruneE F st.env }
theorem eget_prune (F : List Nat) (s : Nat) : ∀ env, eget (pruneE F env) s = eget env s ∨ eget (pruneE F env) s = .any
  | [] => .inl rfl
  | (k, v) :: env => by
    simp only [pruneE]
    split
    · simp only [eget]
      split
      · exact .inl rfl
      · exact eget_prune F s env
    · rename_i hk
      simp only [eget]
      split
      · rename_i he
        subst he
        right
        clear v
        induction env with
        | nil => rfl
        | cons p env ih =>
          obtain ⟨k', v'⟩ := p
          simp only [pruneE]
          split
          · rename_i hk'
            simp only [eget]
            rw [if_neg (fun e : k' = k => hk (by rw [← e]; exact hk'))]
            exact ih
          · exact ih
      · exact eget_prune F s env
theorem RelAt.env' {w0 : World} {S0 : Stab} {n : Nat} {st : ASt} {a : Act} {w : World} {S : Nat → Prop} {γ : List Nat} {ρ : List Value} (h : RelAt w0 S0 n st a w S γ ρ) (env' : List (Nat × AV))
    (he : ∀ s, eget env' s = eget st.env s ∨ eget env' s = .any) : RelAt w0 S0 n { st with env := env' } a w S γ ρ := by
  refine ⟨h.below, h.s0, h.sw, h.heap, h.size, h.defs, fun s => ?_⟩
  rcases he s with e | e
  · show V w S γ ρ false (eget env' s) _
    rw [e]; exact h.env s
  · show V w S γ ρ false (eget env' s) _
    rw [e]; exact .any
theorem Rel.prune {w0 : World} {S0 : Stab} {n : Nat} {st : ASt} {a : Act} {w : World} (h : Rel w0 S0 n st a w) (F : List Nat) : Rel w0 S0 n (st.prune F) a w := by
  obtain ⟨S, γ, ρ, h⟩ := h
  exact ⟨S, γ, ρ, h.env' _ fun s => eget_prune F s st.env⟩
theorem HR.cut {w : World} {B : Nat} {S : Nat → Prop} {γ : List Nat} {ρ : List Value} {boxes : List (List AV)} {rows : List (Option Row)} (h : HR w B S γ ρ boxes rows) (nb nr : Nat)
    (hbx : ∀ (k : Nat) (cs : List AV) (j : Nat) (c : AV), (boxes.take nb)[k]? = some cs → cs[j]? = some c → ∀ u, V w S γ ρ false c u → V w S (γ.take nb) (ρ.take nr) false c u) : HR w B S (γ.take nb) (ρ.take nr) (boxes.take nb) (rows.take nr) := by
  have tk : ∀ {α : Type} {l : List α} {k n : Nat} {x : α}, (l.take n)[k]? = some x → l[k]? = some x := fun h => by
    rw [List.getElem?_take] at h; split at h
    · exact h
    · cases h
  refine ⟨by simp [h.nb], by simp [h.nr], fun k cs g h1 h2 => ?_, fun r rw_ v h1 h2 => ?_, fun i j g h1 h2 => h.inj i j g (tk h1) (tk h2), fun k r g rw_ v h1 h2 h3 => h.sep k r g rw_ v (tk h1) (tk h2) (tk h3), fun r r' rw_ rw_' v v' g h1 h2 h3 h4 => h.rinj r r' rw_ rw_' v v' g (tk h1) (tk h2) (tk h3) (tk h4)⟩
  · obtain ⟨e1, e2, us, ty, e3, e4, e5⟩ := h.box k cs g (tk h1) (tk h2)
    exact ⟨e1, e2, us, ty, e3, e4, fun j c hj => let ⟨u, f1, f2, f3⟩ := e5 j c hj; ⟨u, f1, f2, hbx k cs j c h1 hj u f3⟩⟩
  · obtain ⟨e1, e2, e3, cells, e4, e5⟩ := h.row r rw_ v (tk h1) (tk h2)
    exact ⟨e1, e2, e3, cells, e4, fun i x j c hi hj => let ⟨u, f1, f2, f3⟩ := e5 i x j c hi hj; ⟨u, f1, f2, f3.closed true⟩⟩
-- does a value speak of what lies from these numbers on?
mutual
def AV.lowB (nb nr : Nat) : AV → Bool
  | .own r _ _ _ => Nat.blt r nr
  | .rp r _ _ _ => Nat.blt r nr
  | .bp b _ => Nat.blt b nb
  | .agg cs => lowL nb nr cs
  | .tup cs => lowL nb nr cs
  | .fn _ cs => lowL nb nr cs
  | .opt _ v => AV.lowB nb nr v
  | .any => true
  | .lit _ => true
  | .ro _ _ => true
  | .rop _ => true
def lowL (nb nr : Nat) : List AV → Bool
  | [] => true
  | c :: cs => AV.lowB nb nr c && lowL nb nr cs
end
theorem lowL_mem {nb nr : Nat} : ∀ {vs : List AV}, lowL nb nr vs = true → ∀ v ∈ vs, v.lowB nb nr = true
  | [], _, v, hv => by cases hv
  | x :: vs, h, v, hv => by
    simp only [lowL, Bool.and_eq_true] at h
    rcases List.mem_cons.1 hv with rfl | hv
    · exact h.1
    · exact lowL_mem h.2 v hv
theorem V.low {w : World} {S : Nat → Prop} {γ : List Nat} {ρ : List Value} {b : Bool} {a : AV} {u : Value} (h : V w S γ ρ b a u) {nb nr : Nat} (hl : a.lowB nb nr = true) : V w S (γ.take nb) (ρ.take nr) b a u := by
  have up : ∀ {α : Type} {l : List α} {k n : Nat} {x : α}, l[k]? = some x → Nat.blt k n = true → (l.take n)[k]? = some x := fun h hk => by
    rw [List.getElem?_take, if_pos (by simpa [Nat.blt_eq] using hk)]; exact h
  induction h with
  | any => exact .any
  | lit => exact .lit
  | opt _ h' ih => simp only [AV.lowB] at hl; exact .opt (fun hp => ih hp hl) h'
  | agg hl' _ ih => simp only [AV.lowB] at hl; exact .agg hl' fun i c u h1 h2 => ih i c u h1 h2 (lowL_mem hl c (List.mem_of_getElem? h1))
  | tup hl' _ ih => simp only [AV.lowB] at hl; exact .tup hl' fun i c u h1 h2 => ih i c u h1 h2 (lowL_mem hl c (List.mem_of_getElem? h1))
  | fn hl' _ ih => simp only [AV.lowB] at hl; exact .fn hl' fun i c u h1 h2 => ih i c u h1 h2 (lowL_mem hl c (List.mem_of_getElem? h1))
  | ro U hn hc hm hz hA hv _ => exact .ro U hn hc hm hz hA fun i r j x h1 h2 => (hv i r j x h1 h2).closed true
  | rop U hs hcell hv _ => exact .rop U hs hcell fun j x h1 => (hv j x h1).closed true
  | own h h0 hlen h1 hm hA => simp only [AV.lowB] at hl; exact .own (up h hl) h0 hlen h1 hm hA
  | rp h => simp only [AV.lowB] at hl; exact .rp (up h hl)
  | bp h => simp only [AV.lowB] at hl; exact .bp (up h hl)
def lowE (nb nr : Nat) : List (Nat × AV) → List (Nat × AV)
  | [] => []
  | (k, v) :: t => (k, if v.lowB nb nr = true then v else .any) :: lowE nb nr t
def lowBx (nb nr : Nat) (boxes : List (List AV)) : List (List AV) := (boxes.take nb).map (List.map fun v => if v.lowB nb nr = true then v else .any)
def ASt.cut (nb nr : Nat) (st : ASt) : ASt := ⟨lowE nb nr st.env, lowBx nb nr st.boxes, st.rows.take nr⟩
theorem eget_low (nb nr s : Nat) : ∀ env, eget (lowE nb nr env) s = if (eget env s).lowB nb nr = true then eget env s else .any
  | [] => by simp [lowE, eget, AV.lowB]
  | (k, v) :: env => by
    simp only [lowE, eget]
    split
    · rfl
    · exact eget_low nb nr s env
theorem HR.anyBoxes {w : World} {B : Nat} {S : Nat → Prop} {γ : List Nat} {ρ : List Value} {boxes : List (List AV)} {rows : List (Option Row)} (h : HR w B S γ ρ boxes rows) (f : AV → AV) (hf : ∀ c, f c = c ∨ f c = .any) :
    HR w B S γ ρ (boxes.map (List.map f)) rows := by
  refine ⟨by simp [h.nb], h.nr, fun k cs g h1 h2 => ?_, h.row, h.inj, h.sep, h.rinj⟩
  rw [List.getElem?_map] at h1
  obtain ⟨cs0, hcs, rfl⟩ := Option.map_eq_some_iff.1 h1
  obtain ⟨e1, e2, us, ty, e3, e4, e5⟩ := h.box k cs0 g hcs h2
  refine ⟨e1, e2, us, ty, e3, by simpa using e4, fun j c hj => ?_⟩
  rw [List.getElem?_map] at hj
  obtain ⟨c0, hc0, rfl⟩ := Option.map_eq_some_iff.1 hj
  obtain ⟨u, f1, f2, f3⟩ := e5 j c0 hc0
  refine ⟨u, f1, f2, ?_⟩
  rcases hf c0 with e | e <;> rw [e]
  · exact f3
  · exact .any
theorem Rel.cut {w0 : World} {S0 : Stab} {n : Nat} {st : ASt} {a : Act} {w : World} (h : Rel w0 S0 n st a w) (nb nr : Nat) : Rel w0 S0 n (st.cut nb nr) a w := by
  obtain ⟨S, γ, ρ, h⟩ := h
  refine ⟨S, γ.take nb, ρ.take nr, h.below, h.s0, h.sw, ?_, h.size, h.defs, fun s => ?_⟩
  · have h1 := h.heap.anyBoxes (fun v => if v.lowB nb nr = true then v else .any) (fun c => by split; exact .inl rfl; exact .inr rfl)
    have h2 := h1.cut nb nr (fun k cs j c hk hj u hv => by
      rw [List.getElem?_take] at hk
      split at hk
      · rw [List.getElem?_map] at hk
        obtain ⟨cs0, hcs, rfl⟩ := Option.map_eq_some_iff.1 hk
        rw [List.getElem?_map] at hj
        obtain ⟨c0, hc0, rfl⟩ := Option.map_eq_some_iff.1 hj
        split
        · rename_i hl; rw [if_pos hl] at hv; exact hv.low hl
        · exact .any
      · cases hk)
    rw [← List.map_take] at h2
    exact h2
  · show V w S _ _ false (eget (lowE nb nr st.env) s) _
    rw [eget_low]
    split
    · rename_i hl; exact (h.env s).low hl
    · exact .any
end Go.AL
namespace Go.AL
open Go.RowKit
set_option linter.unusedSimpArgs false
set_option linter.unusedVariables false
variable {P : Program} {n : Nat}
abbrev StabT := { S : Stab // S.k = [] ∧ S.m = true }
def AWp (P : Program) (n : Nat) (c : Code) (Q : Exit → ASt → Prop) (st : ASt) : Prop :=
  ∀ w0 (S0 : StabT) a w, Rel w0 S0.1 n st a w → c.wp P (fun e a' w' => ∃ st', Q e st' ∧ Rel w0 S0.1 n st' a' w') a w
def Wk (s s' : ASt) : Prop := ∀ w0 S0 n a w, Rel w0 S0 n s a w → Rel w0 S0 n s' a w
theorem AWp.weaken {c : Code} {Q : Exit → ASt → Prop} {st st' : ASt} (h : Wk st st') (hw : AWp P n c Q st') : AWp P n c Q st := fun w0 S0 a w hr => hw w0 S0 a w (h w0 S0 n a w hr)
def aThen (K : ASt → Prop) (Q : Exit → ASt → Prop) : Exit → ASt → Prop
  | .normal, s => K s
  | .exit i, s => Q (.exit i) s
  | .goto l, s => Q (.goto l) s
  | .ret, s => Q .ret s
  | .panic ch, s => Q (.panic ch) s
  | .outgrown, s => Q .outgrown s
def aBlock (id : Nat) (Q : Exit → ASt → Prop) : Exit → ASt → Prop
  | .exit i, s => if i = id then Q .normal s else Q (.exit i) s
  | .normal, s => Q .normal s
  | .goto l, s => Q (.goto l) s
  | .ret, s => Q .ret s
  | .panic ch, s => Q (.panic ch) s
  | .outgrown, s => Q .outgrown s
theorem AWp.mono {c : Code} {Q Q' : Exit → ASt → Prop} {st : ASt} (h : AWp P n c Q st) (hq : ∀ e s, Q e s → Q' e s) : AWp P n c Q' st := fun w0 S0 a w hr =>
  Code.wp_mono (fun e a' w' ⟨st', h1, h2⟩ => ⟨st', hq _ _ h1, h2⟩) (h w0 S0 a w hr)
theorem AWp.seq {x y : Code} {Q : Exit → ASt → Prop} {st : ASt} (h : AWp P n x (aThen (fun s => AWp P n y Q s) Q) st) : AWp P n (.seq x y) Q st := fun w0 S0 a w hr =>
  wp_seq (Code.wp_mono (fun e a' w' ⟨st', h1, h2⟩ => by cases e <;> first | exact h1 w0 S0 a' w' h2 | exact ⟨st', h1, h2⟩) (h w0 S0 a w hr))
theorem AWp.skip {Q : Exit → ASt → Prop} {st : ASt} (h : Q .normal st) : AWp P n .skip Q st := fun w0 S0 a w hr => wp_skip ⟨st, h, hr⟩
theorem AWp.exit {id : Nat} {Q : Exit → ASt → Prop} {st : ASt} (h : Q (.exit id) st) : AWp P n (.exit id) Q st := fun w0 S0 a w hr => wp_exit ⟨st, h, hr⟩
theorem AWp.ret {Q : Exit → ASt → Prop} {st : ASt} (h : Q .ret st) : AWp P n .ret Q st := fun w0 S0 a w hr => wp_ret ⟨st, h, hr⟩
theorem AWp.label {l : Nat} {Q : Exit → ASt → Prop} {st : ASt} (h : Q .normal st) : AWp P n (.label l) Q st := fun w0 S0 a w hr => wp_label ⟨st, h, hr⟩
def aNoGoto (Q : Exit → ASt → Prop) : Exit → ASt → Prop
  | .goto _, _ => False
  | .exit i, s => Q (.exit i) s
  | .normal, s => Q .normal s
  | .ret, s => Q .ret s
  | .panic ch, s => Q (.panic ch) s
  | .outgrown, s => Q .outgrown s
theorem AWp.scope {c : Code} {Q : Exit → ASt → Prop} {st : ASt} (h : AWp P n c (aNoGoto Q) st) : AWp P n (.scope c) Q st := fun w0 S0 a w hr =>
  wp_scope_straight (Code.wp_mono (fun e a' w' ⟨st', h1, h2⟩ => by cases e <;> first | exact h1.elim | exact ⟨st', h1, h2⟩) (h w0 S0 a w hr))
theorem AWp.block {id : Nat} {c : Code} {Q : Exit → ASt → Prop} {st : ASt} (h : AWp P n c (aBlock id Q) st) : AWp P n (.block id c) Q st := fun w0 S0 a w hr =>
  wp_block (Code.wp_mono (fun e a' w' ⟨st', h1, h2⟩ => by
    cases e <;> try exact ⟨st', h1, h2⟩
    rename_i i
    simp only [Exit.inBlock, aBlock] at h1 ⊢
    split
    · rename_i hi; rw [if_pos hi] at h1; exact ⟨st', h1, h2⟩
    · rename_i hi; rw [if_neg hi] at h1; exact ⟨st', h1, h2⟩) (h w0 S0 a w hr))
theorem AWp.cond {c : Operand} {x y : Code} {b : Bool} {Q : Exit → ASt → Prop} {st : ASt} (hc : evA st.env c = .lit (.bool b)) (ht : b = true → AWp P n x Q st) (hf : b = false → AWp P n y Q st) :
    AWp P n (.cond c x y) Q st := fun w0 S0 a w hr => by
  have hv : a.eval c = .bool b := by
    obtain ⟨S, γ, ρ, h⟩ := hr
    have := h.ev c
    rw [hc] at this
    exact this.lit_eq
  refine wp_cond hv ?_
  cases b
  · exact hf rfl w0 S0 a w hr
  · exact ht rfl w0 S0 a w hr
theorem AWp.region {id : Nat} {l : List Oper} {Q : Exit → ASt → Prop} {st : ASt} (d : List Nat) (dd : List (List Nat)) (h : aops P n (gslot l) l dd (st.drop d) (Q .normal)) : AWp P n (.region id l.toArray false) Q st := fun w0 S0 a w hr =>
  wp_region_lit (aops_sound (fun st' a' w' h1 h2 => ⟨_, h1, h2⟩) l _ _ a w (hr.drop _) h)
theorem AWp.sreg {id : Nat} {l : List Oper} {y : Code} {Q : Exit → ASt → Prop} {st : ASt} (D : Nat → List (List Nat)) {d : List Nat} {dd : List (List Nat)} (hd : D id = d :: dd)
    (h : ∀ (gs : Nat → Option Nat) (K : ASt → Prop), (∀ j, gs j = gslot l j) → (∀ s, AWp P n y Q s → K s) → aops P n gs l dd (st.drop d) K) :
    AWp P n (.seq (.region id l.toArray false) y) Q st := AWp.seq (AWp.region d dd (h (gslot l) (fun s => AWp P n y Q s) (fun _ => rfl) fun s h => h))
theorem AWp.reg {id : Nat} {l : List Oper} {Q : Exit → ASt → Prop} {st : ASt} (D : Nat → List (List Nat)) {d : List Nat} {dd : List (List Nat)} (hd : D id = d :: dd)
    (h : ∀ (gs : Nat → Option Nat) (K : ASt → Prop), (∀ j, gs j = gslot l j) → (∀ s, Q .normal s → K s) → aops P n gs l dd (st.drop d) K) :
    AWp P n (.region id l.toArray false) Q st := AWp.region d dd (h (gslot l) (fun s => Q .normal s) (fun _ => rfl) fun s h => h)
theorem AWp.loop {c : Code} {Q : Exit → ASt → Prop} {st : ASt} {α : Type} (I : α → Prop) (inv : α → ASt) (μ : α → Nat) (a0 : α) (hI : I a0) (h0 : Wk st (inv a0))
    (round : ∀ x, I x → AWp P n c (aThen (fun s => ∃ y, I y ∧ Wk s (inv y) ∧ μ y < μ x) Q) (inv x)) : AWp P n (.loop c) Q st := by
  intro w0 S0 a w hr
  intro b k cs
  have key : ∀ m (x : α) a w, μ x = m → I x → Rel w0 S0 n (inv x) a w → 
      ∃ e a' w', (∃ st', Q e st' ∧ Rel w0 S0 n st' a' w') ∧ Arrives P (lone (b.at a (.code c :: .inLoop c :: k)) cs w) b k cs e a' w' := by
    intro m
    induction m using Nat.strongRecOn with
    | _ m ih =>
      intro x a w hm hx hrel
      obtain ⟨e, a₁, w₁, ⟨st', hq, hr'⟩, harr⟩ := round x hx w0 S0 a w hrel b (.inLoop c :: k) cs
      cases e with
      | normal =>
        obtain ⟨y, hy, hwk, hlt⟩ := hq
        obtain ⟨e₂, a₂, w₂, hq₂, harr₂⟩ := ih (μ y) (hm ▸ hlt) y a₁ w₁ rfl hy (hwk w0 S0 n a₁ w₁ hr')
        exact ⟨e₂, a₂, w₂, hq₂, .of_steps (Steps.trans harr (.one step_inLoop)) harr₂⟩
      | exit id => exact ⟨_, a₁, w₁, ⟨st', hq, hr'⟩, .pass (x := .inLoop c) rfl (fun _ _ => .inl (by simp)) harr⟩
      | goto l => exact ⟨_, a₁, w₁, ⟨st', hq, hr'⟩, .pass (x := .inLoop c) rfl (fun _ _ => .inl (by simp)) harr⟩
      | ret => exact ⟨_, a₁, w₁, ⟨st', hq, hr'⟩, .pass (x := .inLoop c) rfl (fun _ _ => .inl (by simp)) harr⟩
      | panic ch => exact ⟨_, a₁, w₁, ⟨st', hq, hr'⟩, .pass (x := .inLoop c) rfl (fun _ _ => .inl (by simp)) harr⟩
      | outgrown => exact ⟨_, a₁, w₁, ⟨st', hq, hr'⟩, .pass (x := .inLoop c) rfl (fun _ _ => .inl (by simp)) harr⟩
  obtain ⟨e, a', w', hq, harr⟩ := key _ a0 a w rfl hI (h0 w0 S0 n a w hr)
  exact ⟨e, a', w', hq, .of_steps (.one step_loop) harr⟩
def ARounds (P : Program) (n : Nat) (c : Code) (Q : Exit → ASt → Prop) : Nat → ASt → Prop
  | 0, _ => False
  | m + 1, st => AWp P n c (aThen (fun s => ARounds P n c Q m s) Q) st
theorem ARounds.step {c : Code} {Q : Exit → ASt → Prop} {m : Nat} {st : ASt} (h : AWp P n c (aThen (fun s => ARounds P n c Q m s) Q) st) : ARounds P n c Q (m + 1) st := h
theorem AWp.loopR {c : Code} {Q : Exit → ASt → Prop} {st : ASt} (m : Nat) (h : ARounds P n c Q m st) : AWp P n (.loop c) Q st := by
  refine AWp.loop (I := fun x : Nat × ASt => ARounds P n c Q x.1 x.2) (fun x => x.2) (fun x => x.1) (m, st) h (fun _ _ _ _ _ h => h) ?_
  rintro ⟨m, s⟩ hx
  cases m with
  | zero => exact hx.elim
  | succ m =>
    refine AWp.mono hx fun e s hq => ?_
    cases e with
    | normal => exact ⟨(m, s), hq, fun _ _ _ _ _ h => h, Nat.lt_succ_self m⟩
    | _ => exact hq
/-! ### saying less -/
def subE (env : List (Nat × AV)) : List (Nat × AV) → Prop
  | [] => True
  | (k, v) :: t => eget env k = v ∧ subE env t
theorem subE_get {env : List (Nat × AV)} (s : Nat) : ∀ {env' : List (Nat × AV)}, subE env env' → eget env' s = eget env s ∨ eget env' s = .any
  | [], _ => .inr rfl
  | (k, v) :: t, h => by
    simp only [eget]
    split
    · rename_i hk; subst hk; exact .inl h.1.symm
    · exact subE_get s h.2
theorem Wk.refl (s : ASt) : Wk s s := fun _ _ _ _ _ h => h
theorem Wk.trans {a b c : ASt} (h : Wk a b) (k : Wk b c) : Wk a c := fun w0 S0 n a w hr => k w0 S0 n a w (h w0 S0 n a w hr)
theorem Wk.env {s : ASt} {env' : List (Nat × AV)} (h : subE s.env env') : Wk s ⟨env', s.boxes, s.rows⟩ := fun w0 S0 n a w ⟨S, γ, ρ, hr⟩ =>
  ⟨S, γ, ρ, hr.env' env' fun k => subE_get k h⟩
theorem Wk.cut (s : ASt) (nb nr : Nat) : Wk s (s.cut nb nr) := fun w0 S0 n a w hr => hr.cut nb nr
theorem Wk.of {s s' : ASt} (h1 : s.boxes = s'.boxes) (h2 : s.rows = s'.rows) (h3 : subE s.env s'.env) : Wk s s' := by
  obtain ⟨e, b, r⟩ := s'
  simp only at h1 h2 h3
  subst h1; subst h2
  exact Wk.env h3
theorem Wk.ofCut {s s' : ASt} (nb nr : Nat) (h1 : lowBx nb nr s.boxes = s'.boxes) (h2 : s.rows.take nr = s'.rows) (h3 : subE (lowE nb nr s.env) s'.env) : Wk s s' :=
  (Wk.cut s nb nr).trans (Wk.of h1 h2 h3)
def ASt.nilOwn (st : ASt) (s ty sz : Nat) : ASt := ⟨eput st.env s (.own st.rows.length sz 0 0), st.boxes, st.rows ++ [some ⟨ty, sz, []⟩]⟩
theorem Wk.nilOwn {st : ASt} (s ty sz : Nat) (hs : eget st.env s = .lit (.slice none 0 0)) (hsz : 0 < sz) : Wk st (st.nilOwn s ty sz) := fun w0 S0 n a w ⟨S, γ, ρ, h⟩ => by
  have h1 := h.newRow (rw_ := ⟨ty, sz, []⟩) (v := .slice none 0 0) (Below.refl _ _) hsz (by simp) (fun g hg => by simp [Value.ownBlock] at hg) (World.ownsRow_nil w _ ty sz) (by simp)
  refine ⟨S, γ, ρ ++ [.slice none 0 0], h1.below, h1.s0, h1.sw, h1.heap, h1.size, h1.defs, fun t => ?_⟩
  simp only [ASt.nilOwn, eget_eput]
  split
  · rename_i e
    subst e
    have := h.env s
    rw [hs] at this
    rw [this.lit_eq]
    exact .own (A0 := none) (n0 := 0) (c0 := 0) (by rw [← h.heap.nr]; simp) (fun _ => ⟨rfl, rfl⟩) (Nat.le_refl _) (by omega) (by unfold maxLen; omega) (fun h => by omega)
  · exact h1.env t
/-! ### what a value says less -/
def AVle (a b : AV) : Prop := ∀ w S γ ρ c u, V w S γ ρ c a u → V w S γ ρ c b u
theorem AVle.of_eq {a b : AV} (h : a = b) : AVle a b := h ▸ fun _ _ _ _ _ _ h => h
theorem AVle.refl (a : AV) : AVle a a := fun _ _ _ _ _ _ h => h
theorem AVle.nil (sz : Nat) : AVle (.lit (.slice none 0 0)) (.ro sz []) := fun w S γ ρ c u h => by
  rw [h.lit_eq]
  exact .ro (fun _ _ => undef) rfl (Nat.le_refl _) (by unfold maxLen; omega) (by simp) (fun h => absurd rfl h) (fun i r j x h => by simp at h)
def AVleL : List AV → List AV → Prop
  | [], [] => True
  | a :: as, b :: bs => AVle a b ∧ AVleL as bs
  | _, _ => False
theorem AVleL_spec : ∀ {as bs : List AV}, AVleL as bs → as.length = bs.length ∧ ∀ (i : Nat) (a b : AV), as[i]? = some a → bs[i]? = some b → AVle a b
  | [], [], _ => ⟨rfl, fun i a b h => by simp at h⟩
  | a :: as, b :: bs, h => by
    obtain ⟨h1, h2⟩ := AVleL_spec h.2
    refine ⟨by simp [h1], fun i x y hx hy => ?_⟩
    cases i with
    | zero => simp at hx hy; subst hx; subst hy; exact h.1
    | succ i => exact h2 i x y (by simpa using hx) (by simpa using hy)
  | [], _ :: _, h => h.elim
  | _ :: _, [], h => h.elim
theorem AVle.tup {as bs : List AV} (h : AVleL as bs) : AVle (.tup as) (.tup bs) := fun w S γ ρ c u hv => by
  obtain ⟨h1, h2⟩ := AVleL_spec h
  cases hv with
  | tup hl hc =>
    refine .tup (by rw [hl, h1]) fun i b u hb hu => ?_
    obtain ⟨a, ha⟩ : ∃ a, as[i]? = some a := ⟨_, List.getElem?_eq_getElem (by rw [h1]; exact (List.getElem?_eq_some_iff.1 hb).1)⟩
    exact h2 i a b ha hb _ _ _ _ _ _ (hc i a u ha hu)
theorem AVle.agg {as bs : List AV} (h : AVleL as bs) : AVle (.agg as) (.agg bs) := fun w S γ ρ c u hv => by
  obtain ⟨h1, h2⟩ := AVleL_spec h
  cases hv with
  | agg hl hc =>
    refine .agg (by rw [hl, h1]) fun i b u hb hu => ?_
    obtain ⟨a, ha⟩ : ∃ a, as[i]? = some a := ⟨_, List.getElem?_eq_getElem (by rw [h1]; exact (List.getElem?_eq_some_iff.1 hb).1)⟩
    exact h2 i a b ha hb _ _ _ _ _ _ (hc i a u ha hu)
/-! ### entering and leaving -/
def argsE : Nat → List AV → List (Nat × AV)
  | _, [] => []
  | k, a :: as => (k, a) :: argsE (k + 1) as
def resA (P : Program) (st : ASt) : ResultVar → AV × Prop
  | .tmp t => (eget st.env t, True)
  | .cell p ty => aload P ty (cellsAt st.boxes st.rows (eget st.env p))
def outL (P : Program) (st : ASt) : List ResultVar → List AV × Prop
  | [] => ([], True)
  | r :: rs => ((resA P st r).1 :: (outL P st rs).1, (resA P st r).2 ∧ (outL P st rs).2)
def outA (P : Program) (st : ASt) (rs : List ResultVar) : AV × Prop :=
  match rs with
  | [r] => resA P st r
  | rs => (.tup (outL P st rs).1, (outL P st rs).2)
def Out (P : Program) (rs : List ResultVar) (R : AV → Prop) : Exit → ASt → Prop
  | .ret, st => (outA P st rs).2 ∧ R ((outA P st rs).1.bor st.rows)
  | .normal, st => (outA P st rs).2 ∧ R ((outA P st rs).1.bor st.rows)
  | _, _ => False
def resV (tmps : Array Value) : ResultVar → Sem Value
  | .tmp t => pure (tmps.getD t undef)
  | .cell p ty => do loadVar ty (← asAddr (tmps.getD p undef))
theorem resA_sound {w0 : World} {S0 : Stab} {st : ASt} {a : Act} {w : World} {S : Nat → Prop} {γ : List Nat} {ρ : List Value} (h : RelAt w0 S0 n st a w S γ ρ) (r : ResultVar) (hr : (resA P st r).2) :
    ∃ u, (resV a.tmps r).run P w = .ok u w ∧ V w S γ ρ false (resA P st r).1 u := by
  cases r with
  | tmp t => exact ⟨_, by simp only [resV, Sem.run_pure], h.env t⟩
  | cell p ty =>
    obtain ⟨x, h1, h2⟩ := aload_sound h.heap (h.env p) hr
    refine ⟨x, ?_, h2⟩
    cases hc : cellsAt st.boxes st.rows (eget st.env p) with
    | none => simp only [resA, hc] at hr; exact hr.elim
    | some cs =>
      obtain ⟨ad, e, _⟩ := cellsAt_sound h.heap (h.env p) hc
      rw [e] at h1
      simp only [resV, e, asAddr, Sem.run_bind, Sem.run_pure, Result.andThen_ok]
      simpa [Instr.loadAt, Instr.sureAddr] using h1
theorem outL_sound {w0 : World} {S0 : Stab} {st : ASt} {a : Act} {w : World} {S : Nat → Prop} {γ : List Nat} {ρ : List Value} (h : RelAt w0 S0 n st a w S γ ρ) : ∀ (rs : List ResultVar), (outL P st rs).2 →
    ∃ us : List Value, (rs.mapM (resV a.tmps)).run P w = .ok us w ∧ us.length = rs.length ∧ us.length = (outL P st rs).1.length ∧ ∀ (i : Nat) (c : AV) (u : Value), (outL P st rs).1[i]? = some c → us[i]? = some u → V w S γ ρ false c u
  | [], _ => ⟨[], by simp, rfl, rfl, fun i c u h => by simp [outL] at h⟩
  | r :: rs, hr => by
    obtain ⟨u, h1, h2⟩ := resA_sound h r hr.1
    obtain ⟨us, h3, h4, h5, h6⟩ := outL_sound h rs hr.2
    refine ⟨u :: us, by simp [List.mapM_cons, h1, h3], by simp [h4], by simp [outL, h5], fun i c x hc hx => ?_⟩
    cases i with
    | zero => simp [outL] at hc hx; subst hc; subst hx; exact h2
    | succ i => exact h6 i c x (by simpa [outL] using hc) (by simpa using hx)
theorem run_results {fn : Func} {tmps : Array Value} {w : World} {us : List Value} (h : (fn.results.toList.mapM (resV tmps)).run P w = .ok us w) :
    (results fn tmps).run P w = .ok (if h : us.length = 1 then us[0] else .tuple us.toArray) w := by
  have e : results fn tmps = (do let vs ← fn.results.mapM (resV tmps); pure (if h : vs.size = 1 then vs[0] else .tuple vs)) := rfl
  have hm : (fn.results.mapM (resV tmps)).run P w = .ok us.toArray w := by
    have e2 : fn.results = fn.results.toList.toArray := by simp
    rw [e2, List.mapM_toArray]
    simp [h]
  rw [e]
  simp only [Sem.run_bind, hm, Result.andThen_ok]
  simp
theorem argsE_get : ∀ (k : Nat) (as : List AV) (s : Nat), eget (argsE k as) s = if k ≤ s ∧ s < k + as.length then as.getD (s - k) .any else .any
  | k, [], s => by simp [argsE, eget]
  | k, a :: as, s => by
    simp only [argsE, eget]
    by_cases h : k = s
    · subst h; simp
    · rw [if_neg h, argsE_get (k + 1) as s]
      by_cases h2 : k + 1 ≤ s ∧ s < k + 1 + as.length
      · rw [if_pos h2, if_pos ⟨by omega, by simp; omega⟩, show s - k = (s - (k + 1)) + 1 by omega]; simp
      · rw [if_neg h2, if_neg (by simp; omega)]
theorem HR.putRec {w : World} {B : Nat} {S : Nat → Prop} {γ : List Nat} {ρ : List Value} {boxes : List (List AV)} {rows : List (Option Row)} (h : HR w B S γ ρ boxes rows) {D : Nat} {o : Obj} (o' : Obj) (hl : w.heap[D]? = some o) (hc : ∀ us ty p, o ≠ .cells us ty p)
    (hS : ¬ S D) (hsw : ∀ b, S b → b < w.heap.size) : HR (w.putObj D o') B S γ ρ boxes rows := by
  have mono : ∀ {b : Bool} {a : AV} {u : Value}, V w S γ ρ b a u → V (w.putObj D o') S γ ρ b a u := fun hv => hv.mono (fun p hp x hx => by
    rw [World.cell?_of_block (World.putObj_heap_other (w := w) (o := o') (fun e : p.block = D => hS (e ▸ hp)))]; exact hx) (fun _ h => h) (fun _ _ h => h) (fun _ _ h => h)
  refine ⟨h.nb, h.nr, fun k cs g h1 h2 => ?_, fun r rw_ v h1 h2 => ?_, h.inj, h.sep, h.rinj⟩
  · obtain ⟨e1, e2, us, ty, e3, e4, e5⟩ := h.box k cs g h1 h2
    refine ⟨e1, e2, us, ty, ?_, e4, fun j c hj => let ⟨u, f1, f2, f3⟩ := e5 j c hj; ⟨u, f1, f2, mono f3⟩⟩
    rw [World.putObj_heap_other (fun e => by rw [e, hl] at e3; exact hc _ _ _ (Option.some.inj e3))]; exact e3
  · obtain ⟨e1, e2, e3, cells, e4, e5⟩ := h.row r rw_ v h1 h2
    exact ⟨e1, e2, e3, cells, ownsRow_putObj e4 o' hl (by cases o <;> first | rfl | exact absurd rfl (hc _ _ _)), fun i x j c hi hj => let ⟨u, f1, f2, f3⟩ := e5 i x j c hi hj; ⟨u, f1, f2, mono f3⟩⟩
theorem RelAt.putRec {w0 : World} {S0 : Stab} {st : ASt} {a a' : Act} {w : World} {S : Nat → Prop} {γ : List Nat} {ρ : List Value} (h : RelAt w0 S0 n st a w S γ ρ) {D : Nat} {o : Obj} (o' : Obj) (hK : KeepL [(D, o)] w S) (h0 : w0.heap.size ≤ D)
    {k : List (Nat × Obj)} (hk : KeepL k (w.putObj D o') S) (ha : a'.tmps = a.tmps) (hd : Defs S0.m w0 a' (w.putObj D o') S) : RelAt w0 ⟨S0.s, k, S0.m⟩ n st a' (w.putObj D o') S γ ρ := by
  obtain ⟨e1, e2, e3⟩ := hK _ (List.mem_singleton.2 rfl)
  refine ⟨h.below.grown (grownBy_putObj' w D o') h.below.size (fun j e => by cases e; exact h0), ⟨h.s0.1, hk⟩, fun b hb => by simpa using h.sw b hb, h.heap.putRec o' e1 e2 e3 h.sw, by rw [ha]; exact h.size, hd, fun s => ?_⟩
  rw [ha]
  exact (h.env s).mono (fun p hp x hx => by
    rw [World.cell?_of_block (World.putObj_heap_other (w := w) (o := o') (fun e : p.block = D => e3 (e ▸ hp)))]; exact hx) (fun _ h => h) (fun _ _ h => h) (fun _ _ h => h)
theorem calls_of_rel {f : FuncId} {fn : Func} {code : Code} {us : List Value} {w : World} {S : Nat → Prop} {Q : Exit → ASt → Prop} {R : Ending → World → Prop} (hf : P.funcs[f]? = some fn) (hb : fn.body = some code)
    (h : code.wp P (fun e a' w' => ∃ st', Q e st' ∧ Rel w ⟨S, [], true⟩ n st' a' w') { tmps := us.toArray ++ Array.replicate (fn.ntmps - us.toArray.size) undef, defers := [] } w) (hE : ∀ e st', Q e st' → e = .normal ∨ e = .ret)
    (fin : ∀ e a' w' st', Q e st' → Rel w ⟨S, [], true⟩ n st' a' w' → a'.defers = [] → bodyPost P fn R e a' w') : Calls P f us.toArray w R := by
  refine callsIn_wide (n := 0).1 (callsIn_of_wp_marks hf hb trivial (wpIn_wide.2 (Code.wp_mono (fun e a' w' hq => ?_) h)) rfl)
  obtain ⟨st', h1, S', γ, ρ, h2⟩ := hq
  have go : ∀ (a2 : Act) (w2 : World), a2.tmps = a'.tmps → a2.defers = [] → Rel w ⟨S, [], true⟩ n st' a2 w2 → ∃ v, (results fn a'.tmps).run P w2 = .ok v w2 ∧ R (.returned v) w2 := fun a2 w2 ht hd hr => by
    have := fin e a2 w2 st' h1 hr hd
    rcases hE _ _ h1 with rfl | rfl <;> rw [← ht] <;> exact this.2
  have take : ∀ (Ds : List Nat) (a2 : Act) (w2 : World), a2.tmps = a'.tmps → a2.defers = Ds.map mark → Ds.Nodup → (∀ D ∈ Ds, w.heap.size ≤ D) → KeepL (Ds.map emk) w2 S' → RelAt w ⟨S, [], true⟩ n st' a2 w2 S' γ ρ →
      LeavesInM Fence.wide 0 P fn a'.tmps R (Ds.map mark) .returning w2 := by
    intro Ds
    induction Ds with
    | nil => exact fun a2 w2 ht hd _ _ _ hr => go a2 w2 ht hd ⟨S', γ, ρ, hr⟩
    | cons D Ds ih =>
      intro a2 w2 ht hd hnd hge hK hr
      obtain ⟨hn1, hn2⟩ := List.nodup_cons.1 hnd
      have hKD : KeepL [(D, .deferred (some []))] w2 S' := fun x hx => hK x (by rw [List.mem_singleton.1 hx]; exact List.mem_cons_self ..)
      have hK2 : KeepL (Ds.map emk) (w2.putObj D (.deferred none)) S' := fun x hx => by
        obtain ⟨e1, e2, e3⟩ := hK x (List.mem_cons_of_mem _ hx)
        obtain ⟨D', hD', rfl⟩ := List.mem_map.1 hx
        exact ⟨(World.putObj_heap_other (fun e => hn1 (by rw [← show D' = D from e]; exact hD'))).trans e1, e2, e3⟩
      have hge2 : ∀ D' ∈ Ds, w.heap.size ≤ D' := fun D' h' => hge D' (List.mem_cons_of_mem _ h')
      refine ⟨by simp, .inl ⟨D, _, rfl, run_takeDeferred (hKD _ (List.mem_singleton.2 rfl)).1, ?_⟩⟩
      exact ih { a2 with defers := Ds.map mark } _ ht rfl hn2 hge2 hK2 (hr.putRec _ hKD (hge D (List.mem_cons_self ..)) (fun x hx => by cases hx) rfl ⟨(fun h => by cases h), Ds, rfl, hn2, hge2, hK2⟩)
  have key : LeavesInM Fence.wide 0 P fn a'.tmps R a'.defers .returning w' := by
    obtain ⟨_, Ds, hd, h3, h4, h5⟩ := h2.defs
    rw [hd]
    exact take Ds a' w' rfl hd h3 h4 h5 h2
  rcases hE _ _ h1 with rfl | rfl <;> exact key
theorem acall_of {f : FuncId} {fn : Func} {code : Code} {args : List AV} {r : AV} (hf : P.funcs[f]? = some fn) (hb : fn.body = some code) (hname : (fn.name == "runtime.NumGoroutine") = false) (hn : fn.ntmps = n)
    {rs : List ResultVar} (hrs : fn.results.toList = rs) (hargs : Nat.ble args.length n = true) (h : AWp P n code (Out P rs fun o => AVle o r) ⟨argsE 0 args, [], []⟩) : ACall P f args r := by
  subst hrs
  have hargs : args.length ≤ n := Nat.le_of_ble_eq_true hargs
  refine ⟨⟨fn, hf, hname, by rw [hb]; rfl⟩, fun w S us hS hl hv => ?_⟩
  have hrel : Rel w ⟨S, [], true⟩ n ⟨argsE 0 args, [], []⟩ { tmps := us.toArray ++ Array.replicate (fn.ntmps - us.toArray.size) undef, defers := [] } w := by
    refine ⟨S, [], [], Below.refl _ _, ⟨fun b hb => .inl hb, fun x hx => by cases hx⟩, hS, ⟨rfl, rfl, fun k cs g h => by simp at h, fun r rw_ v h => by simp at h, fun i j g h => by simp at h, fun k r g rw_ v h => by simp at h, fun r r' rw_ rw_' v v' g h => by simp at h⟩, by simp [hl]; omega, .nil rfl, fun s => ?_⟩
    show V w S [] [] false (eget (argsE 0 args) s) _
    rw [argsE_get]
    split
    · rename_i hs
      have hs2 : s < args.length := by omega
      have h1 : args[s]? = some (args.getD (s - 0) .any) := by simp [List.getD_eq_getElem?_getD, hs2]
      have h2 : us[s]? = some (us[s]'(by omega)) := List.getElem?_eq_getElem _
      have := hv s _ _ h1 h2
      have e : (us.toArray ++ Array.replicate (fn.ntmps - us.toArray.size) undef).getD s undef = us[s]'(by omega) := by
        rw [Array.getD_eq_getD_getElem?, Array.getElem?_append_left (by simp; omega)]
        simp [h2]
      show V w S [] [] false _ ((us.toArray ++ Array.replicate (fn.ntmps - us.toArray.size) undef).getD s undef)
      rw [e]
      exact this.closed false
    · exact .any
  refine calls_of_rel hf hb (h w ⟨⟨S, [], true⟩, rfl, rfl⟩ _ w hrel) (fun e st' hq => by cases e <;> first | exact .inl rfl | exact .inr rfl | exact hq.elim) (fun e a' w' st' h1 ⟨S', γ, ρ, h2⟩ hd0 => ?_)
  have fin : (outA P st' fn.results.toList).2 ∧ AVle ((outA P st' fn.results.toList).1.bor st'.rows) r → a'.defers = [] ∧ ∃ v, (results fn a'.tmps).run P w' = .ok v w' ∧ ∃ u, Ending.returned v = .returned u ∧ Below w.heap.size w w' ∧ V w' (fun b => S b ∨ (w.heap.size ≤ b ∧ b < w'.heap.size)) [] [] true r u := by
    intro ⟨h3, h4⟩
    refine ⟨hd0, ?_⟩
    have key : ∃ v, (results fn a'.tmps).run P w' = .ok v w' ∧ V w' S' γ ρ false (outA P st' fn.results.toList).1 v := by
      cases hrs : fn.results.toList with
      | nil =>
        rw [hrs] at h3
        obtain ⟨us', e1, e2, e3, e4⟩ := outL_sound h2 [] trivial
        refine ⟨_, run_results (by rw [hrs]; exact e1), ?_⟩
        rw [dif_neg (by rw [e2]; simp)]
        exact .tup e3 e4
      | cons x l =>
        rw [hrs] at h3
        cases l with
        | nil =>
          obtain ⟨u, e1, e2⟩ := resA_sound h2 x h3
          refine ⟨u, ?_, e2⟩
          have := run_results (P := P) (fn := fn) (tmps := a'.tmps) (w := w') (us := [u]) (by rw [hrs]; simp [List.mapM_cons, e1])
          simpa using this
        | cons y l =>
          obtain ⟨us', e1, e2, e3, e4⟩ := outL_sound h2 (x :: y :: l) h3
          refine ⟨_, run_results (by rw [hrs]; exact e1), ?_⟩
          rw [dif_neg (by rw [e2]; simp)]
          exact .tup e3 e4
    obtain ⟨v, e1, e2⟩ := key
    refine ⟨v, e1, v, rfl, h2.below, ?_⟩
    have e3 := h4 _ _ _ _ _ _ (e2.bor h2.heap true)
    refine (e3.closed true).mono (fun _ _ _ h => h) (fun g hg => ?_) (fun _ _ h => h) (fun _ _ h => h)
    rcases hg with hg | ⟨r', rw_, v', f1, f2, f3⟩
    · rcases h2.s0.1 g hg with h | h
      · exact .inl h
      · exact .inr ⟨h, h2.sw g hg⟩
    · obtain ⟨_, _, _, cells, f4, _⟩ := h2.heap.row r' rw_ v' f1 f2
      exact .inr (f4.lt g f3)
  cases e with
  | normal => exact fin h1
  | ret => exact fin h1
  | exit i => exact h1.elim
  | goto l => exact h1.elim
  | panic ch => exact h1.elim
  | outgrown => exact h1.elim
def OutN (P : Program) (rs : List ResultVar) (keep : List Nat) (r : AV) (news : List (Option Row)) : Exit → ASt → Prop
  | .ret, st => (outA P st rs).2 ∧ AVle ((outA P st rs).1.frz keep st.rows) r ∧ r.lowB 0 st.rows.length = true ∧ frzRows keep 0 st.rows = news
  | .normal, st => (outA P st rs).2 ∧ AVle ((outA P st rs).1.frz keep st.rows) r ∧ r.lowB 0 st.rows.length = true ∧ frzRows keep 0 st.rows = news
  | _, _ => False
theorem rel_enter {args : List AV} {us : List Value} {w : World} {S : Nat → Prop} {fn : Func} (hn : fn.ntmps = n) (hargs : args.length ≤ n) (hS : ∀ b, S b → b < w.heap.size) (hl : us.length = args.length)
    (hv : ∀ (i : Nat) (a : AV) (u : Value), args[i]? = some a → us[i]? = some u → V w S [] [] true a u) :
    Rel w ⟨S, [], true⟩ n ⟨argsE 0 args, [], []⟩ { tmps := us.toArray ++ Array.replicate (fn.ntmps - us.toArray.size) undef, defers := [] } w := by
  refine ⟨S, [], [], Below.refl _ _, ⟨fun b hb => .inl hb, fun x hx => by cases hx⟩, hS, ⟨rfl, rfl, fun k cs g h => by simp at h, fun r rw_ v h => by simp at h, fun i j g h => by simp at h, fun k r g rw_ v h => by simp at h, fun r r' rw_ rw_' v v' g h => by simp at h⟩, by simp [hl]; omega, .nil rfl, fun s => ?_⟩
  show V w S [] [] false (eget (argsE 0 args) s) _
  rw [argsE_get]
  split
  · rename_i hs
    have hs2 : s < args.length := by omega
    have h1 : args[s]? = some (args.getD (s - 0) .any) := by simp [List.getD_eq_getElem?_getD, hs2]
    have h2 : us[s]? = some (us[s]'(by omega)) := List.getElem?_eq_getElem _
    have := hv s _ _ h1 h2
    have e : (us.toArray ++ Array.replicate (fn.ntmps - us.toArray.size) undef).getD s undef = us[s]'(by omega) := by
      rw [Array.getD_eq_getD_getElem?, Array.getElem?_append_left (by simp; omega)]
      simp [h2]
    show V w S [] [] false _ ((us.toArray ++ Array.replicate (fn.ntmps - us.toArray.size) undef).getD s undef)
    rw [e]
    exact this.closed false
  · exact .any
theorem out_run {w0 : World} {S0 : Stab} {st' : ASt} {a' : Act} {w' : World} {S' : Nat → Prop} {γ : List Nat} {ρ : List Value} {fn : Func} (h2 : RelAt w0 S0 n st' a' w' S' γ ρ) (h3 : (outA P st' fn.results.toList).2) :
    ∃ v, (results fn a'.tmps).run P w' = .ok v w' ∧ V w' S' γ ρ false (outA P st' fn.results.toList).1 v := by
  cases hrs : fn.results.toList with
  | nil =>
    rw [hrs] at h3
    obtain ⟨us', e1, e2, e3, e4⟩ := outL_sound h2 [] trivial
    refine ⟨_, run_results (by rw [hrs]; exact e1), ?_⟩
    rw [dif_neg (by rw [e2]; simp)]
    exact .tup e3 e4
  | cons x l =>
    rw [hrs] at h3
    cases l with
    | nil =>
      obtain ⟨u, e1, e2⟩ := resA_sound h2 x h3
      refine ⟨u, ?_, e2⟩
      have := run_results (P := P) (fn := fn) (tmps := a'.tmps) (w := w') (us := [u]) (by rw [hrs]; simp [List.mapM_cons, e1])
      simpa using this
    | cons y l =>
      obtain ⟨us', e1, e2, e3, e4⟩ := outL_sound h2 (x :: y :: l) h3
      refine ⟨_, run_results (by rw [hrs]; exact e1), ?_⟩
      rw [dif_neg (by rw [e2]; simp)]
      exact .tup e3 e4
theorem acallN_of {f : FuncId} {fn : Func} {code : Code} {args : List AV} {r : AV} {news : List (Option Row)} (keep : List Nat) (hf : P.funcs[f]? = some fn) (hb : fn.body = some code) (hname : (fn.name == "runtime.NumGoroutine") = false) (hn : fn.ntmps = n)
    {rs : List ResultVar} (hrs : fn.results.toList = rs) (hargs : Nat.ble args.length n = true) (h : AWp P n code (OutN P rs keep r news) ⟨argsE 0 args, [], []⟩) : ACallN P f args r news := by
  subst hrs
  have hargs : args.length ≤ n := Nat.le_of_ble_eq_true hargs
  refine ⟨⟨fn, hf, hname, by rw [hb]; rfl⟩, fun w S us hS hl hv => ?_⟩
  refine calls_of_rel hf hb (h w ⟨⟨S, [], true⟩, rfl, rfl⟩ _ w (rel_enter hn hargs hS hl hv)) (fun e st' hq => by cases e <;> first | exact .inl rfl | exact .inr rfl | exact hq.elim) (fun e a' w' st' h1 h2 hd0 => ?_)
  have fin : (outA P st' fn.results.toList).2 ∧ AVle ((outA P st' fn.results.toList).1.frz keep st'.rows) r ∧ r.lowB 0 st'.rows.length = true ∧ frzRows keep 0 st'.rows = news →
      a'.defers = [] ∧ ∃ v, (results fn a'.tmps).run P w' = .ok v w' ∧ ∃ u S' ρ', Ending.returned v = .returned u ∧ Below w.heap.size w w' ∧ (∀ g, S g → S' g) ∧ (∀ g, S' g → S g ∨ (w.heap.size ≤ g ∧ g < w'.heap.size)) ∧
      HR w' w.heap.size S' [] ρ' [] news ∧ V w' S' [] ρ' false r u := by
    intro ⟨h3, h4, h5, h6⟩
    obtain ⟨S1, γ1, ρ1, hr1⟩ := h2
    have hSS : ∃ S' γ ρ, RelAt w ⟨S, [], true⟩ n st' a' w' S' γ ρ ∧ ∀ g, S g → S' g := by
      refine ⟨fun g => S1 g ∨ S g, γ1, ρ1, ?_, fun g hg => .inr hg⟩
      refine ⟨hr1.below, ⟨fun b hb => ?_, fun x hx => by cases hx⟩, fun b hb => ?_, hr1.heap.moreS S ?_ ?_, hr1.size, .nil hd0, fun s => (hr1.env s).mono (fun _ _ _ h => h) (fun _ h => .inl h) (fun _ _ h => h) (fun _ _ h => h)⟩
      · rcases hb with hb | hb
        · exact hr1.s0.1 b hb
        · exact .inl hb
      · rcases hb with hb | hb
        · exact hr1.sw b hb
        · have := hS b hb; have := hr1.below.size; omega
      · exact fun k g hg hs => by
          obtain ⟨cs, hcs⟩ : ∃ cs, st'.boxes[k]? = some cs := ⟨_, List.getElem?_eq_getElem (by rw [← hr1.heap.nb]; exact (List.getElem?_eq_some_iff.1 hg).1)⟩
          obtain ⟨e1, _⟩ := hr1.heap.box k cs g hcs hg
          have := hS g hs; omega
      · exact fun r rw_ v g e1 e2 e3 hs => by
          obtain ⟨_, _, _, cells, e4, _⟩ := hr1.heap.row r rw_ v e1 e2
          have := (e4.lt g e3).1; have := hS g hs; omega
    obtain ⟨S2, γ2, ρ2, h2, hs2⟩ := hSS
    obtain ⟨v, e1, e2⟩ := out_run h2 h3
    have hfz := h2.heap.frz keep
    have hcut := hfz.cut 0 st'.rows.length (fun k cs j c hk => by simp at hk)
    rw [List.take_of_length_le (l := frzRows keep 0 st'.rows) (by rw [frzRows_length]; exact Nat.le_refl _), h6] at hcut
    refine ⟨hd0, v, e1, v, _, ρ2.take st'.rows.length, rfl, h2.below, fun g hg => Or.inl (hs2 g hg), fun g hg => ?_, by simpa using hcut, ?_⟩
    · rcases hg with hg | ⟨r', rw_, v', _, f2, f3, f4⟩
      · rcases h2.s0.1 g hg with h | h
        · exact .inl h
        · exact .inr ⟨h, h2.sw g hg⟩
      · obtain ⟨_, _, _, cells, e4, _⟩ := h2.heap.row r' rw_ v' f2 f3
        exact .inr (e4.lt g f4)
    · have h7 := h4 _ _ _ _ _ _ (e2.frz h2.heap keep)
      have h8 := h7.low h5
      simpa using h8
  cases e with
  | normal => exact fin h1
  | ret => exact fin h1
  | exit i => exact h1.elim
  | goto l => exact h1.elim
  | panic ch => exact h1.elim
  | outgrown => exact h1.elim
end Go.AL
namespace Go.AL
open Go.RowKit
variable {P : Program} {n : Nat}
theorem aops_cons {gs : Nat → Option Nat} {d : List Nat} {dd : List (List Nat)} {o : Oper} {os : List Oper} {st : ASt} {K : ASt → Prop} (h : ∀ K' : ASt → Prop, (∀ s, aops P n gs os dd (s.drop d) K → K' s) → aop P n gs o st K') : aops P n gs (o :: os) (d :: dd) st K :=
  ⟨st, .inl rfl, .inl (h _ fun _ h => h)⟩
theorem aops_consF (keep : List Nat) {gs : Nat → Option Nat} {d : List Nat} {dd : List (List Nat)} {o : Oper} {os : List Oper} {st : ASt} {K : ASt → Prop} (h : ∀ K' : ASt → Prop, (∀ s, aops P n gs os dd (s.drop d) K → K' s) → aop P n gs o (st.freeze keep) K') : aops P n gs (o :: os) (d :: dd) st K :=
  ⟨_, .inr ⟨keep, rfl⟩, .inl (h _ fun _ h => h)⟩
theorem aops_consN {gs : Nat → Option Nat} {d : List Nat} {dd : List (List Nat)} {o : Oper} {os : List Oper} {st : ASt} {K : ASt → Prop} (h : ∀ K' : ASt → Prop, (∀ s, aops P n gs os dd (s.drop d) K → K' s) → aopN P n o st K') : aops P n gs (o :: os) (d :: dd) st K :=
  ⟨_, .inl rfl, .inr (.inl (h _ fun _ h => h))⟩
theorem aops_consX {gs : Nat → Option Nat} {d : List Nat} {dd : List (List Nat)} {o : Oper} {os : List Oper} {st : ASt} {K : ASt → Prop} (h : ∀ K' : ASt → Prop, (∀ s, aops P n gs os dd (s.drop d) K → K' s) → aopX P n o st K') : aops P n gs (o :: os) (d :: dd) st K :=
  ⟨_, .inl rfl, .inr (.inr (.inl (h _ fun _ h => h)))⟩
theorem aops_consG {gs : Nat → Option Nat} {d : List Nat} {dd : List (List Nat)} {o : Oper} {os : List Oper} {st : ASt} {K : ASt → Prop} (h : ∀ K' : ASt → Prop, (∀ s, aops P n gs os dd (s.drop d) K → K' s) → aopG P n gs o st K') : aops P n gs (o :: os) (d :: dd) st K :=
  ⟨_, .inl rfl, .inr (.inr (.inr (h _ fun _ h => h)))⟩
theorem aops_nil {gs : Nat → Option Nat} {dd : List (List Nat)} {st : ASt} {K : ASt → Prop} (h : K st) : aops P n gs [] dd st K := h
theorem wrap_id {x : Int} (h1 : -9223372036854775808 ≤ x) (h2 : x ≤ 9223372036854775807) : IntKind.i64.wrap x = x := IntWalk.i64_in x ⟨h1, h2⟩
theorem getD_map_in {α : Type} [Inhabited α] (f : α → List AV) (l : List α) (i : Nat) (h : i < l.length) : (l.map f).getD i [] = f (l.getD i default) := by
  rw [List.getD_eq_getElem?_getD, List.getD_eq_getElem?_getD, List.getElem?_map, List.getElem?_eq_getElem h]; rfl
end Go.AL
namespace Go.AL
open Go.RowKit
set_option linter.unusedSimpArgs false
set_option linter.unusedVariables false
variable {P : Program} {n : Nat}
/-! ### regions whose order is drawn: one walk in the order of the text serves every order -/
def evF (f : Nat → AV) : Operand → AV
  | .tmp t => f t
  | .const v => .lit v
  | .global _ => .any
  | .func g => .lit (.func (.func g) #[] #[])
def updO (f : Nat → AV) (dst : Option Nat) (v : AV) : Nat → AV :=
  match dst with
  | some d => fun s => if d = s then v else f s
  | none => f
theorem ares_congr {boxes : List (List AV)} {rows : List (Option Row)} {ev ev' : Operand → AV} {op : Op} (h : ∀ x ∈ op.operands.toList, ev x = ev' x) : ares P boxes rows ev op = ares P boxes rows ev' op := by
  cases op <;> try rfl
  case move x => simp only [ares]; rw [h x (by simp [Op.operands])]
  case assign x => simp only [ares]; rw [h x (by simp [Op.operands])]
  case load t a => simp only [ares]; rw [h a (by simp [Op.operands])]
  case binOp op t x y yt => simp only [ares]; rw [h x (by simp [Op.operands]), h y (by simp [Op.operands])]
  case unOp op t x => simp only [ares]; rw [h x (by simp [Op.operands])]
  case nilCheck x => simp only [ares]; rw [h x (by simp [Op.operands])]
  case convert s d x => simp only [ares]; rw [h x (by simp [Op.operands])]
  case fieldAddr s x f => simp only [ares]; rw [h x (by simp [Op.operands])]
  case indexAddr t x i => simp only [ares]; rw [h x (by simp [Op.operands]), h i (by simp [Op.operands])]
  case build t parts =>
    simp only [ares]
    have : (parts.toList.map fun p : Nat × Operand => (p.1, ev p.2)) = parts.toList.map fun p : Nat × Operand => (p.1, ev' p.2) := by
      apply List.map_congr_left
      intro p hp
      rw [h p.2 (by simp only [Op.operands]; simp; exact ⟨p.1, by simpa using hp⟩)]
    rw [this]
  case slice t x lo hi mx =>
    simp only [ares]
    have ho : ∀ y : Option Operand, (∀ z, y = some z → z ∈ (Op.slice t x lo hi mx).operands.toList) → y.map ev = y.map ev' := by
      intro y hy
      cases y with
      | none => rfl
      | some z => simp [h z (hy z rfl)]
    rw [h x (by simp [Op.operands]), ho lo (fun z e => by subst e; simp [Op.operands]), ho hi (fun z e => by subst e; simp [Op.operands]), ho mx (fun z e => by subst e; simp [Op.operands])]
  case extract x i => simp only [ares]; rw [h x (by simp [Op.operands])]
  case makeFunc fn f c =>
    have : c.toList.map ev = c.toList.map ev' := List.map_congr_left fun x hx => h x (by simp only [Op.operands]; have := hx; cases f <;> simp_all)
    simp only [ares, this]
  case call c =>
    obtain ⟨callee, args, ts⟩ := c
    simp only [ares]
    cases callee <;> try rfl
    simp only
    have : args.toList.map ev = args.toList.map ev' := List.map_congr_left fun x hx => h x (by simp [Op.operands, Call.operands]; simpa using hx)
    rw [this]
theorem uoks_congr {c : Bool} {ev ev' : Operand → AV} : ∀ {xs : List Operand}, (∀ x ∈ xs, ev x = ev' x) → uoks c ev xs → uoks c ev' xs
  | [], _, _ => trivial
  | x :: xs, h, hu => ⟨by rw [← h x (by simp)]; exact hu.1, uoks_congr (fun y hy => h y (by simp [hy])) hu.2⟩
theorem apureE_congr {boxes : List (List AV)} {rows : List (Option Row)} {ev ev' : Operand → AV} {c : Bool} {op : Op} {K : AV → Prop} (h : ∀ x ∈ op.operands.toList, ev x = ev' x)
    (hp : apureE P boxes rows ev c op K) : apureE P boxes rows ev' c op K := by
  have plain : (uoks c ev op.operands.toList ∧ (c = true → (ares P boxes rows (fun x => un (ev x)) op).2) ∧ K (ares P boxes rows (fun x => un (ev x)) op).1) →
      (uoks c ev' op.operands.toList ∧ (c = true → (ares P boxes rows (fun x => un (ev' x)) op).2) ∧ K (ares P boxes rows (fun x => un (ev' x)) op).1) := by
    intro ⟨h1, h2, h3⟩
    have e : ares P boxes rows (fun x => un (ev x)) op = ares P boxes rows (fun x => un (ev' x)) op := ares_congr fun x hx => by rw [h x hx]
    rw [e] at h2 h3
    exact ⟨uoks_congr h h1, h2, h3⟩
  unfold apureE at hp ⊢
  split at hp
  · rename_i x y z
    have hx := h x (by simp [Op.operands]); have hy := h y (by simp [Op.operands]); have hz := h z (by simp [Op.operands])
    rw [hx, hy, hz] at hp
    exact hp
  · rename_i f args ts
    have hf := h f (by simp [Op.operands, Call.operands])
    have ha : ∀ x ∈ args.toList, ev x = ev' x := fun x hx => h x (by simp [Op.operands, Call.operands]; right; simpa using hx)
    have e1 : (args.toList.map fun x => (un (ev x)).lend boxes rows) = args.toList.map fun x => (un (ev' x)).lend boxes rows := List.map_congr_left fun x hx => by rw [ha x hx]
    have e2 : (args.toList.map fun x => un (ev x)) = args.toList.map fun x => un (ev' x) := List.map_congr_left fun x hx => by rw [ha x hx]
    rw [hf] at hp
    split at hp
    · rename_i g hg
      obtain ⟨h0, h1, r, h2, h3, h4⟩ := hp
      exact ⟨h0, uoks_congr ha h1, r, by rw [← e1]; exact h2, by rw [← e2]; exact h3, h4⟩
    · exact hp.elim
  · exact plain hp
theorem apureE_iff {boxes : List (List AV)} {rows : List (Option Row)} {ev : Operand → AV} {c : Bool} {op : Op} {K : AV → Prop} (hp : apureE P boxes rows ev c op K) :
    ∃ v, apureE P boxes rows ev c op (fun x => x = v) ∧ K v := by
  unfold apureE at hp
  split at hp
  · split at hp
    · rename_i e1
      refine ⟨_, ?_, hp.2.2.2.2.2⟩
      unfold apureE
      simp only [e1]
      exact ⟨hp.1, hp.2.1, hp.2.2.1, hp.2.2.2.1, hp.2.2.2.2.1, by first | rfl | trivial⟩
    · exact hp.elim
  · rename_i f args ts
    split at hp
    · rename_i g hg
      obtain ⟨h0, h1, r, h2, h3, h4⟩ := hp
      refine ⟨r, ?_, h4⟩
      unfold apureE
      simp only [hg]
      exact ⟨h0, h1, r, h2, h3, by first | rfl | trivial⟩
    · exact hp.elim
  · rename_i h1 h2
    refine ⟨_, ?_, hp.2.2⟩
    unfold apureE
    simp only
    exact ⟨hp.1, hp.2.1, by first | rfl | trivial⟩
def apureD (P : Program) (boxes : List (List AV)) (rows : List (Option Row)) (ev : Operand → AV) (c : Bool) (op : Op) (K : AV → Prop) : Prop :=
  (c = false ∧ K (.lit (.bool false))) ∨ apureE P boxes rows ev c op K ∨ (c = true ∧ amem P ev op K)
theorem amem_congr {ev ev' : Operand → AV} {op : Op} {K : AV → Prop} (h : ∀ x ∈ op.operands.toList, ev x = ev' x) (hp : amem P ev op K) : amem P ev' op K := by
  unfold amem at hp ⊢
  split at hp
  · rename_i t len parts
    have hx : ∀ p ∈ parts.toList, ev p.2 = ev' p.2 := fun p hp => h p.2 (by simp only [Op.operands]; simp; exact ⟨p.1, by simpa using hp⟩)
    have e : (parts.toList.map fun p : Nat × Operand => (p.1, un (ev p.2))) = parts.toList.map fun p : Nat × Operand => (p.1, un (ev' p.2)) := List.map_congr_left fun p hp => by rw [hx p hp]
    rw [e] at hp
    split at hp
    · split at hp
      · obtain ⟨h1, h2⟩ := hp
        refine ⟨uoks_congr (fun x hx' => ?_) h1, h2⟩
        obtain ⟨p, hp', rfl⟩ := List.mem_map.1 hx'
        exact hx p hp'
      · exact hp.elim
    · exact hp.elim
  · rename_i t x
    have hx := h x (by simp [Op.operands])
    rw [hx] at hp
    exact hp
  · rename_i t n c
    rw [h n (by simp [Op.operands]), h c (by simp [Op.operands])] at hp
    exact hp
  · exact hp.elim
theorem amem_iff {ev : Operand → AV} {op : Op} {K : AV → Prop} (hp : amem P ev op K) : ∃ v, amem P ev op (fun x => x = v) ∧ K v := by
  unfold amem at hp
  split at hp
  · split at hp
    · rename_i e1
      split at hp
      · rename_i e2
        refine ⟨_, ?_, hp.2.2.2⟩
        unfold amem
        simp only [e1, e2]
        exact ⟨hp.1, hp.2.1, hp.2.2.1, by first | rfl | trivial⟩
      · exact hp.elim
    · exact hp.elim
  · split at hp
    · rename_i e1
      refine ⟨_, ?_, hp.2.2.2⟩
      unfold amem
      simp only [e1]
      exact ⟨hp.1, hp.2.1, hp.2.2.1, by first | rfl | trivial⟩
    · exact hp.elim
  · split at hp
    · rename_i e1 e2 e3 e4
      refine ⟨_, ?_, hp.2.2.2.2⟩
      unfold amem
      simp only [e1, e3, e4] at e2 ⊢
      simp only [e2]
      exact ⟨hp.1, hp.2.1, hp.2.2.1, hp.2.2.2.1, by first | rfl | trivial⟩
    · exact hp.elim
  · exact hp.elim
theorem apureD_congr {boxes : List (List AV)} {rows : List (Option Row)} {ev ev' : Operand → AV} {c : Bool} {op : Op} {K : AV → Prop} (h : ∀ x ∈ op.operands.toList, ev x = ev' x)
    (hp : apureD P boxes rows ev c op K) : apureD P boxes rows ev' c op K := by
  rcases hp with h1 | h1 | ⟨h1, h2⟩
  · exact .inl h1
  · exact .inr (.inl (apureE_congr h h1))
  · exact .inr (.inr ⟨h1, amem_congr h h2⟩)
theorem apureD_iff {boxes : List (List AV)} {rows : List (Option Row)} {ev : Operand → AV} {c : Bool} {op : Op} {K : AV → Prop} (hp : apureD P boxes rows ev c op K) :
    ∃ v, apureD P boxes rows ev c op (fun x => x = v) ∧ K v := by
  rcases hp with ⟨h1, h2⟩ | h1 | ⟨h1, h2⟩
  · exact ⟨_, .inl ⟨h1, rfl⟩, h2⟩
  · obtain ⟨v, h2, h3⟩ := apureE_iff h1
    exact ⟨v, .inr (.inl h2), h3⟩
  · obtain ⟨v, h3, h4⟩ := amem_iff h2
    exact ⟨v, .inr (.inr ⟨h1, h3⟩), h4⟩
theorem apureD_sound {B : Nat} {boxes : List (List AV)} {rows : List (Option Row)} {ev : Operand → AV} {a : Act} {w : World} {S : Nat → Prop} {γ : List Nat} {ρ : List Value} (hr : HR w B S γ ρ boxes rows)
    (hsw : ∀ b, S b → b < w.heap.size) (hev : ∀ x, V w S γ ρ false (ev x) (a.eval x)) {o : Oper} {K : AV → Prop} (hp : apureD P boxes rows ev true o.op K) :
    ∃ v, K v ∧ ∀ (next : Act → World → Prop) (Q : Exit → Act → World → Prop), (∀ u w' S', Below w.heap.size w w' → (∀ g, S g → S' g) → (∀ g, S' g → S g ∨ (w.heap.size ≤ g ∧ g < w'.heap.size)) →
      V w' S' γ ρ false v u → next (a.put o.dst u) w') → o.wp P a w next Q := by
  rcases hp with ⟨h1, _⟩ | h1 | ⟨_, h2⟩
  · cases h1
  · exact apureE_sound hr hsw hev rfl h1
  · exact amem_sound hsw hev h2
def stepV (P : Program) (n : Nat) (boxes : List (List AV)) (rows : List (Option Row)) (all : List Oper) (o : Oper) (f : Nat → AV) (v : AV) : Prop :=
  dok n o.dst ∧ match o.guard with
  | none => apureD P boxes rows (evF f) true o.op (fun x => x = v)
  | some (j, want) => ∃ g c x, gslot all j = some g ∧ gcond want (f g) = some c ∧ apureD P boxes rows (evF f) c o.op (fun y => y = x) ∧ v = .opt c x
section
variable {boxes : List (List AV)} {rows : List (Option Row)} {all : List Oper} {md : Region.Mode}
theorem updO_ne {f : Nat → AV} {dst : Option Nat} {v : AV} {s : Nat} (h : dst ≠ some s) : updO f dst v s = f s := by
  cases dst with
  | none => rfl
  | some d => simp only [updO]; rw [if_neg (fun e => h (by rw [e]))]
theorem updO_comm (f : Nat → AV) {x y : Option Nat} (v u : AV) (h : ∀ d, x = some d → y ≠ some d) : updO (updO f x v) y u = updO (updO f y u) x v := by
  funext s
  cases x with
  | none => cases y <;> rfl
  | some d =>
    cases y with
    | none => rfl
    | some e =>
      have hne : d ≠ e := fun he => h d rfl (he ▸ rfl)
      simp only [updO]
      by_cases h1 : e = s
      · subst h1; simp [hne]
      · by_cases h2 : d = s <;> simp [h1, h2]
theorem stepV_put {o : Oper} {f : Nat → AV} {v u : AV} {dst : Option Nat} (h : ∀ d, dst = some d → d ∉ o.looksAt all.toArray) (hs : stepV P n boxes rows all o f v) : stepV P n boxes rows all o (updO f dst u) v := by
  obtain ⟨hd, hs⟩ := hs
  refine ⟨hd, ?_⟩
  have hop : ∀ x ∈ o.op.operands.toList, evF f x = evF (updO f dst u) x := by
    intro x hx
    cases x <;> try rfl
    rename_i t
    simp only [evF]
    rw [updO_ne]
    intro e
    exact h t e (List.mem_append_left _ (List.mem_filterMap.2 ⟨.tmp t, hx, rfl⟩))
  cases hg : o.guard with
  | none => rw [hg] at hs; exact apureD_congr hop hs
  | some jw =>
    obtain ⟨j, want⟩ := jw
    rw [hg] at hs
    obtain ⟨g, c, x, e1, e2, e3, e4⟩ := hs
    refine ⟨g, c, x, e1, ?_, apureD_congr hop e3, e4⟩
    rw [updO_ne]
    · exact e2
    · intro e
      refine h g e (List.mem_append_right _ ?_)
      simp only [hg]
      unfold gslot at e1
      simp [e1]
def qF (P : Program) (n : Nat) (boxes : List (List AV)) (rows : List (Option Row)) (all : List Oper) (i : Nat) (K : (Nat → AV) → Prop) (f : Nat → AV) : Prop :=
  match all[i]? with
  | none => K f
  | some o => ∃ v, stepV P n boxes rows all o f v ∧ K (updO f o.dst v)
theorem qF_mono {i : Nat} {f : Nat → AV} {K K' : (Nat → AV) → Prop} (h : ∀ f, K f → K' f) (hh : qF P n boxes rows all i K f) : qF P n boxes rows all i K' f := by
  unfold qF at *
  split
  · rename_i e; rw [e] at hh; exact h _ hh
  · rename_i o e; rw [e] at hh; obtain ⟨v, h1, h2⟩ := hh; exact ⟨v, h1, h _ h2⟩
def wpAnyF (P : Program) (n : Nat) (boxes : List (List AV)) (rows : List (Option Row)) (all : List Oper) (md : Region.Mode) (Q : (Nat → AV) → Prop) : Nat → Array Bool → (Nat → AV) → Prop
  | 0, listed, f => Region.ready md all.toArray listed = [] ∧ Q f
  | fuel + 1, listed, f =>
    (Region.ready md all.toArray listed = [] → Q f) ∧
    ∀ i ∈ Region.ready md all.toArray listed, qF P n boxes rows all i (wpAnyF P n boxes rows all md Q fuel (listed.setIfInBounds i true)) f
theorem qF_put {j : Nat} {oi oj : Oper} {v : AV} (hj : all[j]? = some oj) (hap : oi.apart all.toArray oj = true) {K : (Nat → AV) → Prop} {f : Nat → AV}
    (hy : stepV P n boxes rows all oi f v) (h : qF P n boxes rows all j K (updO f oi.dst v)) :
    (∀ u, stepV P n boxes rows all oj (updO f oi.dst v) u → stepV P n boxes rows all oj f u) →
    qF P n boxes rows all j (fun f' => stepV P n boxes rows all oi f' v ∧ K (updO f' oi.dst v)) f := by
  intro hback
  obtain ⟨h1, h2, h3⟩ := Oper.apart_spec hap
  unfold qF at *
  simp only [hj] at *
  obtain ⟨u, hu, hK⟩ := h
  exact ⟨u, hback u hu, stepV_put h3 hy, by rw [← updO_comm f v u h2]; exact hK⟩
theorem stepV_back {o : Oper} {f : Nat → AV} {v u : AV} {dst : Option Nat} (h : ∀ d, dst = some d → d ∉ o.looksAt all.toArray) (hs : stepV P n boxes rows all o (updO f dst u) v) : stepV P n boxes rows all o f v := by
  cases dst with
  | none => exact hs
  | some d =>
    have := stepV_put (u := f d) (dst := some d) h hs
    have e : updO (updO f (some d) u) (some d) (f d) = f := by
      funext s
      simp only [updO]; by_cases h : d = s <;> simp [h]
    rwa [e] at this
theorem wpAnyF_first {Q : (Nat → AV) → Prop} {i : Nat} {oi : Oper} {v : AV} (hi : all[i]? = some oi) :
    ∀ (fuel : Nat) (listed : Array Bool) (f : Nat → AV),
      (∀ j oj, all.toArray[j]? = some oj → j ≠ i → listed.getD j true = false → (∀ e ∈ oj.after, Region.binds md e = true → e.on ≠ i) → oi.apart all.toArray oj = true) →
      i ∈ Region.ready md all.toArray listed → stepV P n boxes rows all oi f v →
      wpAnyF P n boxes rows all md Q fuel (listed.setIfInBounds i true) (updO f oi.dst v) → wpAnyF P n boxes rows all md Q (fuel + 1) listed f := by
  have take : ∀ {K : (Nat → AV) → Prop} {f : Nat → AV}, stepV P n boxes rows all oi f v → K (updO f oi.dst v) → qF P n boxes rows all i K f := by
    intro K f hy h
    unfold qF
    simp only [hi]
    exact ⟨v, hy, h⟩
  intro fuel
  induction fuel with
  | zero =>
    intro listed f _ hr hy H
    refine ⟨fun h => (by rw [h] at hr; cases hr), fun j hj => ?_⟩
    by_cases hji : j = i
    · subst hji; exact take hy H
    · have := ready_mono hj hji
      rw [H.1] at this
      cases this
  | succ fuel ih =>
    intro listed f hfree hr hy H
    refine ⟨fun h => (by rw [h] at hr; cases hr), fun j hj => ?_⟩
    by_cases hji : j = i
    · subst hji; exact take hy H
    · have h1 := H.2 j (ready_mono hj hji)
      obtain ⟨hjun, oj, hoj, hall⟩ := mem_ready.1 hj
      have hnot : ∀ e ∈ oj.after, Region.binds md e = true → e.on ≠ i := fun e he hb heq => by
        have h1 := hall e he hb
        have h0 := (mem_ready.1 hr).1
        rw [heq] at h1
        rcases Nat.lt_or_ge i listed.size with h' | h'
        · simp [h'] at h0 h1; rw [h0] at h1; cases h1
        · simp [Array.getElem?_eq_none h'] at h1
      have hap := hfree j oj hoj hji hjun hnot
      have h2 := qF_put (by simpa using hoj) hap hy h1 (fun u hu => stepV_back (Oper.apart_spec hap).1 hu)
      have hfree' : ∀ k ok, all.toArray[k]? = some ok → k ≠ i → (listed.setIfInBounds j true).getD k true = false →
          (∀ e ∈ ok.after, Region.binds md e = true → e.on ≠ i) → oi.apart all.toArray ok = true := fun k ok hk hki hun hno => by
        refine hfree k ok hk hki ?_ hno
        by_cases hjk : j = k
        · subst hjk; exact hjun
        · rw [getD_set_ne true hjk] at hun; exact hun
      refine qF_mono (fun f' h3 => ih (listed.setIfInBounds j true) f' hfree' (ready_mono hr (Ne.symm hji)) h3.1 ?_) h2
      rw [Array.setIfInBounds_comm _ _ hji]
      exact h3.2
def wpTextF (P : Program) (n : Nat) (boxes : List (List AV)) (rows : List (Option Row)) (all : List Oper) (Q : (Nat → AV) → Prop) : List Oper → (Nat → AV) → Prop
  | [], f => Q f
  | o :: l, f => ∃ v, stepV P n boxes rows all o f v ∧ wpTextF P n boxes rows all Q l (updO f o.dst v)
theorem wpAnyF_lex {Q : (Nat → AV) → Prop} : ∀ (l : List Oper) (k : Nat) (listed : Array Bool) (f : Nat → AV), (∀ j : Nat, l[j]? = all[k + j]?) →
    Region.lexFrom md all.toArray l.length k listed = true → wpTextF P n boxes rows all Q l f → wpAnyF P n boxes rows all md Q l.length listed f
  | [], _, _, _, _, hB, h => ⟨by simpa [Region.lexFrom] using hB, h⟩
  | o :: l, k, listed, f, hl, hB, h => by
    have h0 : all[k]? = some o := by simpa using (hl 0).symm
    simp only [List.length_cons, Region.lexFrom, Bool.and_eq_true] at hB
    obtain ⟨⟨hr, hf⟩, hB'⟩ := hB
    obtain ⟨v, hy, hK⟩ := h
    exact wpAnyF_first h0 l.length listed f (Region.free_spec (by simpa using h0) hf) (by simpa using hr) hy
      (wpAnyF_lex l (k + 1) _ _ (fun j => by have := hl (j + 1); simpa [Nat.add_assoc, Nat.add_comm 1 j] using this) hB' hK)
end
structure RelF (w0 : World) (S0 : Stab) (n : Nat) (f : Nat → AV) (boxes : List (List AV)) (rows : List (Option Row)) (a : Act) (w : World) (S : Nat → Prop) (γ : List Nat) (ρ : List Value) : Prop where
  rel : RelAt w0 S0 n ⟨[], boxes, rows⟩ a w S γ ρ
  env : ∀ s, V w S γ ρ false (f s) (a.tmps.getD s undef)
theorem RelF.ev {w0 : World} {S0 : Stab} {f : Nat → AV} {boxes : List (List AV)} {rows : List (Option Row)} {a : Act} {w : World} {S : Nat → Prop} {γ : List Nat} {ρ : List Value}
    (h : RelF w0 S0 n f boxes rows a w S γ ρ) (x : Operand) : V w S γ ρ false (evF f x) (a.eval x) := by
  cases x with
  | tmp t => exact h.env t
  | const v => exact .lit
  | global g => exact .any
  | func f => exact .lit
theorem RelF.put {w0 : World} {S0 : Stab} {f : Nat → AV} {boxes : List (List AV)} {rows : List (Option Row)} {a : Act} {w : World} {S : Nat → Prop} {γ : List Nat} {ρ : List Value}
    (h : RelF w0 S0 n f boxes rows a w S γ ρ) {dst : Option Nat} (hd : ∀ d, dst = some d → d < n) {v : AV} {u : Value} (hv : V w S γ ρ false v u) : RelF w0 S0 n (updO f dst v) boxes rows (a.put dst u) w S γ ρ := by
  cases dst with
  | none => exact h
  | some d =>
    have hlt : d < a.tmps.size := by rw [h.rel.size]; exact hd d rfl
    refine ⟨⟨h.rel.below, h.rel.s0, h.rel.sw, h.rel.heap, by simp [Act.put, h.rel.size], h.rel.defs, fun s => .any⟩, fun s => ?_⟩
    simp only [updO, Act.put]
    by_cases hs : d = s
    · subst hs
      rw [if_pos rfl]
      have : (a.tmps.setIfInBounds d u).getD d undef = u := by simp [Array.getD_eq_getD_getElem?, hlt]
      rw [this]; exact hv
    · rw [if_neg hs]
      have : (a.tmps.setIfInBounds d u).getD s undef = a.tmps.getD s undef := by simp [Array.getD_eq_getD_getElem?, Array.getElem?_setIfInBounds_ne hs]
      rw [this]; exact h.env s
theorem RelF.later {w0 : World} {S0 : Stab} {f : Nat → AV} {boxes : List (List AV)} {rows : List (Option Row)} {a : Act} {w w' : World} {S S' : Nat → Prop} {γ : List Nat} {ρ : List Value}
    (h : RelF w0 S0 n f boxes rows a w S γ ρ) (hb : Below w.heap.size w w') (hS : ∀ g, S g → S' g) (hS' : ∀ g, S' g → S g ∨ (w.heap.size ≤ g ∧ g < w'.heap.size)) : RelF w0 S0 n f boxes rows a w' S' γ ρ :=
  ⟨h.rel.later hb hS hS', fun s => (h.env s).mono (fun p hp x hx => by rw [hb.cell (h.rel.sw _ hp)]; exact hx) hS (fun _ _ h => h) (fun _ _ h => h)⟩
theorem wpAny_of_F {w0 : World} {S0 : Stab} {boxes : List (List AV)} {rows : List (Option Row)} {all : List Oper} {md : Region.Mode} {Q : (Nat → AV) → Prop} {Q' : Exit → Act → World → Prop}
    (hQ : ∀ f a w S γ ρ, RelF w0 S0 n f boxes rows a w S γ ρ → Q f → Q' .normal a w) : ∀ (fuel : Nat) (listed : Array Bool) (f : Nat → AV) (a : Act) (w : World) (S : Nat → Prop) (γ : List Nat) (ρ : List Value),
    RelF w0 S0 n f boxes rows a w S γ ρ → wpAnyF P n boxes rows all md Q fuel listed f → wpAny P md all.toArray Q' fuel listed a w
  | 0, _, f, a, w, S, γ, ρ, hr, h => ⟨h.1, hQ _ _ _ _ _ _ hr h.2⟩
  | fuel + 1, listed, f, a, w, S, γ, ρ, hr, h => ⟨fun h0 => hQ _ _ _ _ _ _ hr (h.1 h0), fun i hi => by
    have h1 := h.2 i hi
    unfold qF at h1
    unfold wpOp
    simp only [List.getElem?_toArray]
    cases ho : all[i]? with
    | none => rw [ho] at h1; simp only at h1 ⊢; exact wpAny_of_F hQ fuel _ f a w S γ ρ hr h1
    | some o =>
      rw [ho] at h1
      simp only at h1 ⊢
      obtain ⟨v, ⟨hd, hs⟩, hK⟩ := h1
      have hd := dok_spec hd
      cases hg : o.guard with
      | none =>
        rw [hg] at hs
        have hw : Region.wanted o (yielded all.toArray a.tmps) = true := by simp [Region.wanted, hg]
        rw [if_pos hw]
        left
        obtain ⟨v', rfl, hn⟩ := apureD_sound hr.rel.heap hr.rel.sw hr.ev hs
        exact hn _ _ fun u w' S' hb hS hS' hv => wpAny_of_F hQ fuel _ _ _ w' S' γ ρ ((hr.later hb hS hS').put hd hv) hK
      | some jw =>
        obtain ⟨j, want⟩ := jw
        rw [hg] at hs
        obtain ⟨g, c, x, e1, e2, e3, rfl⟩ := hs
        have hw := wanted_iff hg e1 e2 (hr.env g)
        cases c
        · rw [if_neg (by rw [hw]; simp)]
          exact wpAny_of_F hQ fuel _ _ _ w S γ ρ (hr.put hd (.opt (fun h => by cases h) (fun _ => rfl))) hK
        · rw [if_pos hw]
          left
          obtain ⟨v', rfl, hn⟩ := apureD_sound hr.rel.heap hr.rel.sw hr.ev e3
          exact hn _ _ fun u w' S' hb hS hS' hv => wpAny_of_F hQ fuel _ _ _ w' S' γ ρ ((hr.later hb hS hS').put hd (.opt (fun _ => hv) (fun h => by cases h))) hK⟩
def aopD (P : Program) (n : Nat) (gs : Nat → Option Nat) (o : Oper) (st : ASt) (K : ASt → Prop) : Prop :=
  dok n o.dst ∧
  match o.guard with
  | none => apure P st true o.op fun v => K (st.put o.dst v)
  | some (j, want) =>
    match gs j with
    | some g => match gcond want (eget st.env g) with
      | some c => apure P st c o.op fun v => K (st.put o.dst (.opt c v))
      | none => False
    | none => False
def aopDM (P : Program) (n : Nat) (gs : Nat → Option Nat) (o : Oper) (st : ASt) (K : ASt → Prop) : Prop :=
  dok n o.dst ∧
  match o.guard with
  | none => apureD P st.boxes st.rows (evA st.env) true o.op fun v => K (st.put o.dst v)
  | some (j, want) =>
    match gs j with
    | some g => match gcond want (eget st.env g) with
      | some c => apureD P st.boxes st.rows (evA st.env) c o.op fun v => K (st.put o.dst (.opt c v))
      | none => False
    | none => False
theorem aopD_DM {gs : Nat → Option Nat} {o : Oper} {st : ASt} {K : ASt → Prop} (h : aopD P n gs o st K) : aopDM P n gs o st K := by
  obtain ⟨h1, h2⟩ := h
  refine ⟨h1, ?_⟩
  cases hg : o.guard with
  | none => rw [hg] at h2; exact .inr (.inl h2)
  | some jw =>
    obtain ⟨j, want⟩ := jw
    rw [hg] at h2
    simp only at h2 ⊢
    cases hs : gs j with
    | none => rw [hs] at h2; exact h2.elim
    | some g =>
      rw [hs] at h2
      simp only at h2 ⊢
      cases hc : gcond want (eget st.env g) with
      | none => rw [hc] at h2; exact h2.elim
      | some c => rw [hc] at h2; exact .inr (.inl h2)
def aopsD (P : Program) (n : Nat) (gs : Nat → Option Nat) : List Oper → ASt → (ASt → Prop) → Prop
  | [], st, K => K st
  | o :: os, st, K => aopDM P n gs o st fun st' => aopsD P n gs os st' K
theorem eget_put (st : ASt) (dst : Option Nat) (v : AV) : eget (st.put dst v).env = updO (eget st.env) dst v := by
  funext s
  cases dst with
  | none => rfl
  | some d => simp only [ASt.put, updO, eget_eput]
theorem put_boxes (st : ASt) (dst : Option Nat) (v : AV) : (st.put dst v).boxes = st.boxes ∧ (st.put dst v).rows = st.rows := by cases dst <;> exact ⟨rfl, rfl⟩
theorem evA_evF (env : List (Nat × AV)) : evA env = evF (eget env) := by funext x; cases x <;> rfl
theorem aopsD_text {all : List Oper} {K : ASt → Prop} : ∀ (l : List Oper) (st : ASt), aopsD P n (gslot all) l st K →
    wpTextF P n st.boxes st.rows all (fun f => ∃ st', K st' ∧ f = eget st'.env ∧ st'.boxes = st.boxes ∧ st'.rows = st.rows) l (eget st.env)
  | [], st, h => ⟨st, h, rfl, rfl, rfl⟩
  | o :: l, st, ⟨hd, h⟩ => by
    have next : ∀ v, aopsD P n (gslot all) l (st.put o.dst v) K → wpTextF P n st.boxes st.rows all (fun f => ∃ st', K st' ∧ f = eget st'.env ∧ st'.boxes = st.boxes ∧ st'.rows = st.rows) l (updO (eget st.env) o.dst v) := by
      intro v hv
      have := aopsD_text l (st.put o.dst v) hv
      rw [eget_put, (put_boxes st o.dst v).1, (put_boxes st o.dst v).2] at this
      exact this
    cases hg : o.guard with
    | none =>
      rw [hg] at h
      obtain ⟨v, h1, h2⟩ := apureD_iff h
      exact ⟨v, ⟨hd, by rw [hg, ← evA_evF]; exact h1⟩, next v h2⟩
    | some jw =>
      obtain ⟨j, want⟩ := jw
      rw [hg] at h
      simp only at h
      cases hs : gslot all j with
      | none => rw [hs] at h; exact h.elim
      | some g =>
        rw [hs] at h
        simp only at h
        cases hc : gcond want (eget st.env g) with
        | none => rw [hc] at h; exact h.elim
        | some c =>
          rw [hc] at h
          obtain ⟨v, h1, h2⟩ := apureD_iff h
          exact ⟨.opt c v, ⟨hd, by rw [hg]; exact ⟨g, c, v, hs, hc, by rw [← evA_evF]; exact h1, rfl⟩⟩, next _ h2⟩
theorem AWp.regionD {id : Nat} {l : List Oper} {Q : Exit → ASt → Prop} {st : ASt} (F : List Nat) (hm : P.follows .mixedOrders = true) (hB : Region.lexB .any l.toArray = true) (h : aopsD P n (gslot l) l st fun s => Q .normal (s.prune F)) :
    AWp P n (.region id l.toArray true) Q st := fun w0 S0 a w ⟨S, γ, ρ, hr⟩ => by
  simp only [Region.lexB, Bool.and_eq_true] at hB
  refine wp_region_any hm ?_
  have hb : Below w.heap.size w { w with drawn := w.drawn + 1 } := ⟨rfl, rfl, rfl, Nat.le_refl _, fun _ _ => rfl⟩
  have hr2 : RelF w0 S0 n (eget st.env) st.boxes st.rows a { w with drawn := w.drawn + 1 } S γ ρ := by
    have := hr.later hb (fun _ h => h) (fun _ h => .inl h)
    exact ⟨⟨this.below, this.s0, this.sw, this.heap, this.size, this.defs, fun s => .any⟩, this.env⟩
  have ht := wpAnyF_lex (md := .any) l 0 (Array.replicate l.toArray.size false) (eget st.env) (by simp) (by simpa using hB.2) (aopsD_text l st h)
  have hQ : ∀ f a' w' S' γ' ρ', RelF w0 S0 n f st.boxes st.rows a' w' S' γ' ρ' → (∃ st' : ASt, Q .normal (st'.prune F) ∧ f = eget st'.env ∧ st'.boxes = st.boxes ∧ st'.rows = st.rows) →
      ∃ st' : ASt, Q .normal st' ∧ Rel w0 S0 n st' a' w' := fun f a' w' S' γ' ρ' hf ⟨st', hK, e1, e2, e3⟩ => by
    have hrel : RelAt w0 S0 n st' a' w' S' γ' ρ' := by
      refine ⟨hf.rel.below, hf.rel.s0, hf.rel.sw, ?_, hf.rel.size, hf.rel.defs, fun s => ?_⟩
      · rw [e2, e3]; exact hf.rel.heap
      · have := hf.env s; rw [e1] at this; exact this
    exact ⟨_, hK, Rel.prune ⟨S', γ', ρ', hrel⟩ F⟩
  have := wpAny_of_F (P := P) (md := .any) (Q' := fun e a' w' => ∃ st', Q e st' ∧ Rel w0 S0 n st' a' w') hQ l.length _ _ a _ S γ ρ hr2 ht
  simpa using this
theorem AWp.sregD {id : Nat} {l : List Oper} {y : Code} {Q : Exit → ASt → Prop} {st : ASt} (F : Nat → List Nat) (hm : P.follows .mixedOrders = true) (hB : Region.lexB .any l.toArray = true)
    (h : ∀ (gs : Nat → Option Nat) (K : ASt → Prop), (∀ j, gs j = gslot l j) → (∀ s, AWp P n y Q (s.prune (F id)) → K s) → aopsD P n gs l st K) : AWp P n (.seq (.region id l.toArray true) y) Q st :=
  AWp.seq (AWp.regionD (F id) hm hB (h (gslot l) (fun s => AWp P n y Q (s.prune (F id))) (fun _ => rfl) fun s h => h))
theorem AWp.regD {id : Nat} {l : List Oper} {Q : Exit → ASt → Prop} {st : ASt} (F : Nat → List Nat) (hm : P.follows .mixedOrders = true) (hB : Region.lexB .any l.toArray = true)
    (h : ∀ (gs : Nat → Option Nat) (K : ASt → Prop), (∀ j, gs j = gslot l j) → (∀ s, Q .normal (s.prune (F id)) → K s) → aopsD P n gs l st K) : AWp P n (.region id l.toArray true) Q st :=
  AWp.regionD (F id) hm hB (h (gslot l) (fun s => Q .normal (s.prune (F id))) (fun _ => rfl) fun s h => h)
theorem aopsD_cons {gs : Nat → Option Nat} {o : Oper} {os : List Oper} {st : ASt} {K : ASt → Prop} (h : ∀ K' : ASt → Prop, (∀ s, aopsD P n gs os s K → K' s) → aopD P n gs o st K') : aopsD P n gs (o :: os) st K :=
  aopD_DM (h _ fun _ h => h)
theorem aopsD_nil {gs : Nat → Option Nat} {st : ASt} {K : ASt → Prop} (h : K st) : aopsD P n gs [] st K := h
end Go.AL
open Go Go.AL in
attribute [go_sem] Option.toArray_none Option.toArray_some List.toList_toArray isPtr aop aopN aopX aopD astep apure AV.lend ASt.freeze frzE frzL frzRows keepR ASt.drop dropE AV.frz AV.shift shiftL Nat.beq List.any_nil List.any_cons List.getD_nil apureE ares evA eget eput un uok uoks ASt.put dok gslot gcond Op.operands Call.operands aload cellsAt getRow elemsOf rBin rUn rConv rFA rIA rSl bnd rLen rBi rEx rBuild fillA splice acells partsA AV.one AV.cl AV.bor borL AV.scalar scalarL AV.noOwn noOwnL AV.kill killL killE fnOf isB boolD eqAs eqA kdAs kdA ck ckV Value.oneCell' argsE Array.toList_append Array.empty_append true_and and_true and_assoc forall_const true_implies List.getElem?_cons_zero List.getElem?_cons_succ List.map_cons List.map_nil List.length_map List.length_cons List.length_nil List.getD_cons_zero List.getD_cons_succ List.drop_zero List.drop_succ_cons List.take_zero List.take_succ_cons List.take_nil List.drop_nil List.nil_append List.cons_append List.append_nil List.set_cons_zero List.set_cons_succ Option.bind_some Option.map_some Option.map_none Option.isSome_some Option.isSome_none List.all_cons List.all_nil Bool.and_true Bool.true_and Bool.and_self Bool.not_true Bool.not_false cond_true cond_false Option.some.injEq Bool.false_eq_true decide_true decide_false Nat.zero_le Bool.cond_false_right Bool.cond_true_left Bool.cond_true_right Bool.cond_false_left Array.size_empty List.size_toArray Nat.zero_add Nat.add_zero ne_eq not_false_eq_true not_true_eq_false false_and and_false false_or or_false or_true true_or implies_true imp_self Bool.or_true Bool.true_or Bool.or_false Bool.false_or Bool.or_self Bool.false_and Bool.and_false and_self Int.natCast_zero
