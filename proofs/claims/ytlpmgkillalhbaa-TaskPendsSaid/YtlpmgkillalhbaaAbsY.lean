/-
  The abstract layer, drawn regions, copies and addresses first. Over whatever program; no program in sight.
-/
import Derived.Test.YtlpmgkillalhbaaAbsZ
import Derived.OrdersHeld

set_option linter.unusedSimpArgs false
set_option linter.unusedVariables false
set_option linter.constructorNameAsVariable false

namespace Go.AL
open Go.RowKit
set_option linter.unusedSimpArgs false
set_option linter.unusedVariables false

variable {P : Program} {n : Nat}

/-! ### a drawn region: copies and addresses are taken first, the others in each order -/
def isPW : Op → Bool
  | .move _ => true
  | .fieldAddr _ _ _ => true
  | _ => false
inductive Plan
  | stop
  | take (i : Nat) (p : Plan)
  | alt (i : Nat) (p r : Plan)
def Plan.alts : Plan → List Nat
  | .alt i _ r => i :: r.alts
  | _ => []
def takeF (ops : Array Oper) (listed : Array Bool) (i : Nat) : Bool :=
  match ops[i]? with
  | some o => isPW o.op && Region.free .any ops listed i && (Region.ready .any ops listed).contains i
  | none => false
def Plan.chk (ops : Array Oper) : Plan → Nat → Bool → Array Bool → Bool
  | .stop, _, top, listed => !top || (Region.ready .any ops listed).isEmpty
  | .take i p, fuel + 1, top, listed => top && takeF ops listed i && p.chk ops fuel true (listed.setIfInBounds i true)
  | .alt i p r, fuel + 1, top, listed => (!top || (i :: r.alts) == Region.ready .any ops listed) && p.chk ops fuel true (listed.setIfInBounds i true) && r.chk ops (fuel + 1) false listed
  | .take _ _, 0, _, _ => false
  | .alt _ _ _, 0, _, _ => false
def stepA (P : Program) (n : Nat) (gs : Nat → Option Nat) (o : Oper) (st : ASt) (K : ASt → Prop) : Prop := aop P n gs o st K ∨ aopG P n gs o st K
def AP (P : Program) (n : Nat) (gs : Nat → Option Nat) (l : List Oper) (K : ASt → Prop) : Plan → ASt → Prop
  | .stop, st => K st
  | .take i p, st => ∃ o, l[i]? = some o ∧ stepA P n gs o st fun st' => AP P n gs l K p st'
  | .alt i p r, st => (∃ o, l[i]? = some o ∧ stepA P n gs o st fun st' => AP P n gs l K p st') ∧ (r = .stop ∨ AP P n gs l K r st)

theorem astep_pw {st : ASt} {op : Op} {K : AV → ASt → Prop} (hpw : isPW op = true) (h : astep P st op K) : apure P st true op fun v => K v st := by
  cases op <;> simp only [isPW, Bool.false_eq_true] at hpw <;> exact h
theorem pw_run {w0 : World} {S0 : Nat → Prop} {st : ASt} {a : Act} {w : World} {S : Nat → Prop} {γ : List Nat} {ρ : List Value} (h : RelAt w0 S0 n st a w S γ ρ) {o : Oper} (hpw : isPW o.op = true) {K : AV → Prop} (hp : apure P st true o.op K) :
    ∃ v u, K v ∧ (∀ w', (execOp a.eval o).run P w' = .ok (.value u) w') ∧ V w S γ ρ false v u := by
  obtain ⟨dst, op, ty, pos, after, guard⟩ := o
  simp only at hpw hp
  cases op <;> simp only [isPW, Bool.false_eq_true] at hpw
  case move x =>
    obtain ⟨hu, _, hK⟩ := hp
    refine ⟨_, a.eval x, hK, fun w' => by simp [execOp], ?_⟩
    exact (h.ev x).un rfl (uoks_mem hu x (by simp [Op.operands]))
  case fieldAddr s x f =>
    obtain ⟨hu, hr, hK⟩ := hp
    have hr := hr rfl
    have hv := (h.ev x).un rfl (uoks_mem hu x (by simp [Op.operands]))
    have lift : ∀ (w' : World) (s : Sem Value) (u : Value), s.run P w' = .ok u w' → (do pure (.value (← s)) : Sem Next).run P w' = .ok (.value u) w' := by
      intro w' s u hs; simp [hs]
    have key : ∃ u, (∀ w' : World, (Instr.fieldAt s (a.eval x) f).run P w' = .ok u w') ∧ V w S γ ρ false (rFA (fldO P s f) (un (evA st.env x))).1 u := by
      simp only [ares] at hr
      generalize un (evA st.env x) = y at *
      generalize a.eval x = ux at *
      cases ho : fldO P s f with
      | none => rw [ho] at hr; cases y <;> simp [rFA] at hr
      | some off =>
        rw [ho] at hr
        cases y <;> try (simp [rFA] at hr; done)
        case rop cs =>
          cases hv with
          | rop U hS hc hv => exact ⟨_, fun w' => run_fieldAt ho _, by simp only [rFA]; exact V.rop_add (.rop U hS hc hv)⟩
        case rp r sz i g =>
          cases hv with
          | rp hρ => exact ⟨_, fun w' => run_fieldAt ho _, by simp only [rFA]; rw [addr_add, Nat.add_assoc]; exact .rp hρ⟩
        case bp b off =>
          cases hv with
          | bp hγ => exact ⟨_, fun w' => run_fieldAt ho _, by simp only [rFA]; rw [addr_add]; exact .bp hγ⟩
    obtain ⟨u, h1, h2⟩ := key
    exact ⟨_, u, hK, fun w' => by simp only [execOp]; exact lift w' _ _ (h1 w'), h2⟩

/-- such an operation yields the same in whatever world -/
theorem stepA_yields {w0 : World} {S0 : Nat → Prop} {all : List Oper} {o : Oper} {st : ASt} {a : Act} {w : World} {K : ASt → Prop} (h : Rel w0 S0 n st a w) (hpw : isPW o.op = true) (hp : stepA P n (gslot all) o st K) :
    ∃ v st', K st' ∧ YieldsIf P all.toArray (fun _ => True) o v a ∧ Rel w0 S0 n st' (a.put o.dst v) w := by
  obtain ⟨S, γ, ρ, h⟩ := h
  rcases hp with ⟨hd, hp⟩ | ⟨hd, hp⟩
  · have hd := dok_spec hd
    cases hg : o.guard with
    | none =>
      rw [hg] at hp
      obtain ⟨v, u, hK, hr, hv⟩ := pw_run h hpw (astep_pw hpw hp)
      have hw : Region.wanted o (yielded all.toArray a.tmps) = true := by simp [Region.wanted, hg]
      exact ⟨u, _, hK, .inl ⟨hw, fun w' _ => hr w'⟩, S, γ, ρ, h.put hd hv⟩
    | some jw =>
      obtain ⟨j, want⟩ := jw
      rw [hg] at hp
      simp only at hp
      cases hs : gslot all j with
      | none => rw [hs] at hp; exact hp.elim
      | some g =>
        rw [hs] at hp
        simp only at hp
        cases hc : gcond want (eget st.env g) with
        | none => rw [hc] at hp; exact hp.elim
        | some c =>
          rw [hc] at hp
          simp only at hp
          have hw := wanted_iff hg hs hc (h.env g)
          cases c
          · have : ∃ v, K (st.put o.dst (.opt false v)) := by
              unfold apure apureE at hp
              split at hp
              · split at hp
                · exact ⟨_, hp.2.2.2.2.2⟩
                · cases hp
              · split at hp
                · obtain ⟨_, _, r, _, _, hK⟩ := hp; exact ⟨r, hK⟩
                · cases hp
              · exact ⟨_, hp.2.2⟩
            obtain ⟨v, hK⟩ := this
            exact ⟨undef, _, hK, .inr ⟨hw, rfl⟩, S, γ, ρ, h.put hd (.opt (fun h => by cases h) (fun _ => rfl))⟩
          · obtain ⟨v, u, hK, hr, hv⟩ := pw_run h hpw hp
            exact ⟨u, _, hK, .inl ⟨hw, fun w' _ => hr w'⟩, S, γ, ρ, h.put hd (.opt (fun _ => hv) (fun h => by cases h))⟩
  · have hd := dok_spec hd
    cases hg : o.guard with
    | none => rw [hg] at hp; exact hp.elim
    | some jw =>
      obtain ⟨j, want⟩ := jw
      rw [hg] at hp
      simp only at hp
      cases hs : gslot all j with
      | none => rw [hs] at hp; exact hp.elim
      | some g =>
        rw [hs] at hp
        simp only at hp
        rcases hp with ⟨hc, hK⟩ | ⟨hc, hp⟩
        · have hw := wanted_iff hg hs hc (h.env g)
          exact ⟨undef, _, hK, .inr ⟨hw, rfl⟩, S, γ, ρ, h.put hd (.opt (fun h => by cases h) (fun _ => rfl))⟩
        · have hw := wanted_iff hg hs hc (h.env g)
          obtain ⟨v, u, hK, hr, hv⟩ := pw_run h hpw (astep_pw hpw hp)
          exact ⟨u, _, hK, .inl ⟨hw, fun w' _ => hr w'⟩, S, γ, ρ, h.put hd (.opt (fun _ => hv) (fun h => by cases h))⟩

/-- one operation, as one of those that may come up -/
theorem stepA_wpOp {w0 : World} {S0 : Nat → Prop} {all : List Oper} {i : Nat} {o : Oper} {st : ASt} {a : Act} {w : World} {K : ASt → Prop} {Q : Exit → Act → World → Prop} {next : Act → World → Prop} (hi : all[i]? = some o) (h : Rel w0 S0 n st a w)
    (hp : stepA P n (gslot all) o st K) (hn : ∀ st' a' w', K st' → Rel w0 S0 n st' a' w' → next a' w') : wpOp P all.toArray Q i next a w := by
  have key : wpList P all.toArray (fun e => match e with | .normal => next | e => Q e) [o] a w := by
    rcases hp with hp | hp
    · exact aop_sound h hp fun st' a' w' hK hr => by unfold wpList; exact hn st' a' w' hK hr
    · exact aopG_sound h hp fun st' a' w' hK hr => by unfold wpList; exact hn st' a' w' hK hr
  unfold wpOp
  simp only [List.getElem?_toArray, hi]
  unfold wpList at key
  split at key
  · rename_i hw
    rw [if_pos hw]
    rcases key with key | ⟨k1, k2⟩
    · left
      unfold Oper.wp at *
      generalize (execOp a.eval o).run P w = r at *
      cases r with
      | ok x w' =>
        cases x <;> simp only [Oper.upon] at key ⊢ <;> first
          | (unfold wpList at key; exact key)
          | exact Calls.mono key (fun e w'' he => by cases e <;> first | (unfold wpList at he; exact he) | exact he)
          | exact Rows.mono key (fun _ _ he => by unfold wpList at he; exact he)
      | halt x w' => cases x <;> simp only [Oper.upon] at key ⊢ <;> exact key
    · right
      exact ⟨k1, by unfold LetsOut at *; exact k2⟩
  · rename_i hw
    rw [if_neg hw]
    unfold wpList at key
    exact key

theorem plan_sound {w0 : World} {S0 : Nat → Prop} {all : List Oper} {K : ASt → Prop} {Q : Exit → Act → World → Prop} (hs : Region.noSelect all.toArray = true) (hQ : ∀ c a w, ¬ Q (.panic c) a w)
    (hn : ∀ st' a' w', K st' → Rel w0 S0 n st' a' w' → Q .normal a' w') : ∀ (p : Plan),
    (∀ (fuel : Nat) (listed : Array Bool) (st : ASt) (a : Act) (w : World), p.chk all.toArray fuel true listed = true → AP P n (gslot all) all K p st → Rel w0 S0 n st a w → wpAnyH P .any all.toArray Q (fun _ => True) fuel listed a w) ∧
    (∀ (fuel : Nat) (listed : Array Bool) (st : ASt) (a : Act) (w : World) (top : Bool), p.chk all.toArray (fuel + 1) top listed = true → AP P n (gslot all) all K p st → Rel w0 S0 n st a w →
      ∀ i ∈ p.alts, wpOp P all.toArray Q i (fun a' w' => True ∧ wpAnyH P .any all.toArray Q (fun _ => True) fuel (listed.setIfInBounds i true) a' w') a w)
  | .stop => ⟨fun fuel listed st a w hc hp hr => by
      simp only [Plan.chk, Bool.not_true, Bool.false_or, List.isEmpty_iff] at hc
      exact wpAnyH_done hc (hn _ _ _ hp hr) fuel, fun fuel listed st a w top hc hp hr i hi => by cases hi⟩
  | .take i p => ⟨fun fuel listed st a w hc hp hr => by
      cases fuel with
      | zero => simp [Plan.chk] at hc
      | succ fuel =>
        simp only [Plan.chk, Bool.true_and, Bool.and_eq_true] at hc
        obtain ⟨h1, h2⟩ := hc
        obtain ⟨o, ho, hst⟩ := hp
        unfold takeF at h1
        simp only [List.getElem?_toArray, ho, Bool.and_eq_true] at h1
        obtain ⟨v, st', hK, hy, hr'⟩ := stepA_yields hr h1.1.1 hst
        exact wpAnyH_take (oi := o) (by simpa using ho) hs h1.1.2 h1.2 (fun c a w h => absurd h (hQ c _ _)) hy trivial ((plan_sound hs hQ hn p).1 fuel _ st' _ w h2 hK hr'), fun fuel listed st a w top hc hp hr i hi => by cases hi⟩
  | .alt i p r => by
    have second : ∀ (fuel : Nat) (listed : Array Bool) (st : ASt) (a : Act) (w : World) (top : Bool), (Plan.alt i p r).chk all.toArray (fuel + 1) top listed = true → AP P n (gslot all) all K (.alt i p r) st → Rel w0 S0 n st a w →
        ∀ j ∈ (Plan.alt i p r).alts, wpOp P all.toArray Q j (fun a' w' => True ∧ wpAnyH P .any all.toArray Q (fun _ => True) fuel (listed.setIfInBounds j true) a' w') a w := by
      intro fuel listed st a w top hc hp hr j hj
      simp only [Plan.chk, Bool.and_eq_true] at hc
      obtain ⟨⟨_, h2⟩, h3⟩ := hc
      obtain ⟨⟨o, ho, hst⟩, hrest⟩ := hp
      rcases List.mem_cons.1 hj with rfl | hj
      · exact stepA_wpOp ho hr hst fun st' a' w' hK hr' => ⟨trivial, (plan_sound hs hQ hn p).1 fuel _ st' a' w' h2 hK hr'⟩
      · rcases hrest with rfl | hrest
        · cases hj
        · exact (plan_sound hs hQ hn r).2 fuel listed st a w false h3 hrest hr j hj
    refine ⟨fun fuel listed st a w hc hp hr => ?_, second⟩
    cases fuel with
    | zero => simp [Plan.chk] at hc
    | succ fuel =>
      have hc' := hc
      simp only [Plan.chk, Bool.not_true, Bool.false_or, Bool.and_eq_true, beq_iff_eq] at hc
      exact wpAnyH_all (rs := i :: r.alts) hc.1.1.symm (by simp) (second fuel listed st a w true hc' hp hr)

theorem AWp.regionQ {id : Nat} {l : List Oper} {Q : Exit → ASt → Prop} {st : ASt} (F : List Nat) (p : Plan) (hm : P.follows .mixedOrders = true) (hs : Region.noSelect l.toArray = true) (hc : p.chk l.toArray l.length true (Array.replicate l.length false) = true)
    (h : AP P n (gslot l) l (fun s => Q .normal (s.prune F)) p st) : AWp P n (.region id l.toArray true) Q st := by
  refine AWp.mono (Q := fun e s => e = .normal ∧ Q .normal s) (fun w0 S0 a w ⟨S, γ, ρ, hr⟩ => ?_) (fun e s h => by obtain ⟨rfl, h⟩ := h; exact h)
  refine wp_region_held (S := fun _ => True) hm ?_
  have hb : Below w.heap.size w { w with drawn := w.drawn + 1 } := ⟨rfl, rfl, rfl, Nat.le_refl _, fun _ _ => rfl⟩
  have hr2 : Rel w0 S0 n st a { w with drawn := w.drawn + 1 } := ⟨S, γ, ρ, hr.later hb (fun _ h => h) (fun _ h => .inl h)⟩
  have hsz : l.toArray.size = l.length := by simp
  rw [hsz]
  exact (plan_sound (Q := fun e a' w' => ∃ st', (e = .normal ∧ Q .normal st') ∧ Rel w0 S0 n st' a' w') hs (fun c a w ⟨_, ⟨h, _⟩, _⟩ => by cases h) (fun st' a' w' hK hr' => ⟨_, ⟨rfl, hK⟩, hr'.prune F⟩) p).1 _ _ st a _ hc h hr2
theorem AWp.regQ {id : Nat} {l : List Oper} {Q : Exit → ASt → Prop} {st : ASt} (F : Nat → List Nat) (p : Plan) (hm : P.follows .mixedOrders = true) (hs : Region.noSelect l.toArray = true) (hc : p.chk l.toArray l.length true (Array.replicate l.length false) = true)
    (h : ∀ (gs : Nat → Option Nat) (K : ASt → Prop), (∀ j, gs j = gslot l j) → (∀ s, Q .normal (s.prune (F id)) → K s) → AP P n gs l K p st) : AWp P n (.region id l.toArray true) Q st :=
  AWp.regionQ (F id) p hm hs hc (h (gslot l) (fun s => Q .normal (s.prune (F id))) (fun _ => rfl) fun s h => h)
theorem AWp.sregQ {id : Nat} {l : List Oper} {y : Code} {Q : Exit → ASt → Prop} {st : ASt} (F : Nat → List Nat) (p : Plan) (hm : P.follows .mixedOrders = true) (hs : Region.noSelect l.toArray = true) (hc : p.chk l.toArray l.length true (Array.replicate l.length false) = true)
    (h : ∀ (gs : Nat → Option Nat) (K : ASt → Prop), (∀ j, gs j = gslot l j) → (∀ s, AWp P n y Q (s.prune (F id)) → K s) → AP P n gs l K p st) : AWp P n (.seq (.region id l.toArray true) y) Q st :=
  AWp.seq (AWp.regionQ (F id) p hm hs hc (h (gslot l) (fun s => AWp P n y Q (s.prune (F id))) (fun _ => rfl) fun s h => h))
theorem AP_take {gs : Nat → Option Nat} {l : List Oper} {K : ASt → Prop} {i : Nat} {p : Plan} {st : ASt} {o : Oper} (ho : l[i]? = some o) (h : ∀ K' : ASt → Prop, (∀ s, AP P n gs l K p s → K' s) → aop P n gs o st K') : AP P n gs l K (.take i p) st := ⟨o, ho, .inl (h _ fun _ h => h)⟩
theorem AP_last {gs : Nat → Option Nat} {l : List Oper} {K : ASt → Prop} {i : Nat} {p : Plan} {st : ASt} {o : Oper} (ho : l[i]? = some o) (h : ∀ K' : ASt → Prop, (∀ s, AP P n gs l K p s → K' s) → aop P n gs o st K') : AP P n gs l K (.alt i p .stop) st := ⟨⟨o, ho, .inl (h _ fun _ h => h)⟩, .inl rfl⟩
theorem AP_lastG {gs : Nat → Option Nat} {l : List Oper} {K : ASt → Prop} {i : Nat} {p : Plan} {st : ASt} {o : Oper} (ho : l[i]? = some o) (h : ∀ K' : ASt → Prop, (∀ s, AP P n gs l K p s → K' s) → aopG P n gs o st K') : AP P n gs l K (.alt i p .stop) st := ⟨⟨o, ho, .inr (h _ fun _ h => h)⟩, .inl rfl⟩
theorem AP_lastC {gs : Nat → Option Nat} {l : List Oper} {K : ASt → Prop} {i : Nat} {p : Plan} {st : ASt} {dst : Option Nat} {f : Operand} {args : Array Operand} {ts : Array TypeId} {ty : TypeId} {pos : String} {after : Array Edge} {gd : Option (Nat × Bool)}
    (ho : l[i]? = some ⟨dst, .call ⟨.value f, args, ts⟩, ty, pos, after, gd⟩) (h : ∀ K' : ASt → Prop, (∀ s, AP P n gs l K p s → K' s) → aop P n gs ⟨dst, .call ⟨.value f, args, ts⟩, ty, pos, after, gd⟩ st K') : AP P n gs l K (.alt i p .stop) st := AP_last ho h
theorem AP_alt {gs : Nat → Option Nat} {l : List Oper} {K : ASt → Prop} {i j : Nat} {p q r : Plan} {st : ASt} (h1 : AP P n gs l K (.alt i p .stop) st) (h2 : AP P n gs l K (.alt j q r) st) : AP P n gs l K (.alt i p (.alt j q r)) st := ⟨h1.1, .inr h2⟩
theorem AP_stop {gs : Nat → Option Nat} {l : List Oper} {K : ASt → Prop} {st : ASt} (h : K st) : AP P n gs l K .stop st := h
end Go.AL
