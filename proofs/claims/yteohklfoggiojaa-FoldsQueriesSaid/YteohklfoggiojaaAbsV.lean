/-
  The abstract layer, drawn regions that append, where a copied value may speak of rows. Over whatever program; no program in sight.
-/
import Derived.Test.YteohklfoggiojaaAbsJ
set_option linter.unusedSimpArgs false
set_option linter.unusedVariables false
set_option linter.constructorNameAsVariable false
/-! Drawn regions that append, where what is made is read only: as A22, of which this is a variant (gen: see NOTES.md). -/
namespace Go.AL.P3
open Go.AL Go.RowKit
set_option linter.unusedSimpArgs false
set_option linter.unusedVariables false
def isW (op : Op) : Bool := isAp op
def isMv : Op → Bool
  | .move _ => true
  | _ => false
def memQ (op : Op) : Bool := memN op && !isW op && !(isBx op || isMv op)
def pres (P : Program) (R : List (Option Row)) (ev : Operand → AV) : Op → (AV × Option Nat × List (Option Row)) × Prop
  | .call ⟨.builtin .append, args, ts⟩ => match args.toList, ts.toList with
    | [s, x], [t, t'] => match apT P t, elemsOf R (un (ev x)) with
      | some q, some y => match un (ev s) with
        | .own r sz off len => match getRow R r sz with
          | some rw_ => ((.own r sz 0 (len + y.2.length), some r, R.set r (some { rw_ with elems := rw_.elems.take len ++ y.2 })),
              t = t' ∧ uok true (ev s) ∧ uok true (ev x) ∧ (y.1 = q.2.1 ∨ y.2 = []) ∧ off = 0 ∧ sz = q.2.1 ∧ rw_.ty = q.1 ∧ (len + y.2.length) * q.2.2 ≤ 140737488355328)
          | none => ((.any, none, R), False)
        | _ => ((.any, none, R), False)
      | _, _ => ((.any, none, R), False)
    | _, _ => ((.any, none, R), False)
  | _ => ((.any, none, R), False)
variable {P : Program} {n : Nat}
theorem pres_W {R : List (Option Row)} {ev : Operand → AV} {op : Op} (h : (pres P R ev op).2) : isW op = true := by
  unfold pres at h
  split at h
  · rfl
  · exact h.elim
theorem pres_congr {R : List (Option Row)} {ev ev' : Operand → AV} {op : Op} (h : ∀ x ∈ op.operands.toList, ev x = ev' x) : pres P R ev op = pres P R ev' op := by
  unfold pres
  split
  · rename_i args ts
    have hx : ∀ x ∈ args.toList, ev x = ev' x := fun x hx => h x (by simp [Op.operands, Call.operands]; simpa using hx)
    cases hl : args.toList with
    | nil => rfl
    | cons s l =>
      cases l with
      | nil => rfl
      | cons x l =>
        cases l with
        | nil =>
          rw [hl] at hx
          have e1 := hx s (by simp)
          have e2 := hx x (by simp)
          cases ts.toList with
          | nil => rfl
          | cons t l =>
            cases l with
            | nil => rfl
            | cons t' l =>
              cases l with
              | nil => simp only [e1, e2]
              | cons => rfl
        | cons => rfl
  · rfl
def norEv (ev : Operand → AV) : List Operand → Prop
  | [] => True
  | x :: xs => (ev x).nor = true ∧ norEv ev xs
theorem norEv_mem {ev : Operand → AV} : ∀ {xs : List Operand}, norEv ev xs → ∀ x ∈ xs, (ev x).nor = true
  | [], _, x, hx => by cases hx
  | y :: xs, h, x, hx => by
    rcases List.mem_cons.1 hx with rfl | hx
    · exact h.1
    · exact norEv_mem h.2 x hx
theorem norEv_of {ev : Operand → AV} : ∀ {xs : List Operand}, (∀ x ∈ xs, (ev x).nor = true) → norEv ev xs
  | [], _ => trivial
  | y :: xs, h => ⟨h y (by simp), norEv_of fun x hx => h x (by simp [hx])⟩
theorem norEv_congr {ev ev' : Operand → AV} {xs : List Operand} (h : ∀ x ∈ xs, ev' x = ev x) (hl : norEv ev xs) : norEv ev' xs :=
  norEv_of fun x hx => by rw [h x hx]; exact norEv_mem hl x hx
def stepP (P : Program) (n : Nat) (al : Bool × Bool) (all : List Oper) (o : Oper) (s s' : DSt) : Prop :=
  (memQ o.op = true ∧ o.guard = none ∧ norEv (evF s.f) o.op.operands.toList ∧ ∃ v, v.nor = true ∧ stepV P n s.B s.R all o s.f v ∧ s' = ⟨updO s.f o.dst v, s.B, s.R⟩) ∨
  (memQ o.op = false ∧ isW o.op = false ∧ stepM P n al all o s s') ∨
  (o.guard = none ∧ dok n o.dst ∧ (pres P s.R (evF s.f) o.op).2 ∧ s' = ⟨updO (fun t => killO (pres P s.R (evF s.f) o.op).1.2.1 (s.f t)) o.dst (pres P s.R (evF s.f) o.op).1.1, s.B.map (List.map (killO (pres P s.R (evF s.f) o.op).1.2.1)), (pres P s.R (evF s.f) o.op).1.2.2⟩)
def okPairP (al : Bool) (x y : Op) : Bool := memQ x || memQ y || (!isW x && !isW y && okPair al x y)
theorem memQ_spec {op : Op} (h : memQ op = true) : memN op = true ∧ isW op = false ∧ isSt op = false ∧ isAl op = false := by
  unfold memQ at h
  simp only [Bool.and_eq_true, Bool.not_eq_true'] at h
  refine ⟨h.1.1, h.1.2, ?_, ?_⟩
  · have := h.1.1; revert this; cases op <;> simp [memN, isSt]
  · have := h.1.1; revert this; cases op <;> simp [memN, isAl]
theorem evF_kill {f : Nat → AV} (r : Option Nat) (x : Operand) : evF (fun t => killO r (f t)) x = killO r (evF f x) := by
  cases x with
  | tmp t => rfl
  | const v => exact (killO_lit r v).symm
  | global g => exact (killO_any r).symm
  | func g => exact (killO_lit r _).symm
theorem stepV_evs {B : List (List AV)} {R : List (Option Row)} {all : List Oper} {o : Oper} {f f' : Nat → AV} {v : AV} (hg : o.guard = none) (h : ∀ x ∈ o.op.operands.toList, evF f x = evF f' x) (hs : stepV P n B R all o f v) : stepV P n B R all o f' v := by
  obtain ⟨h1, h2⟩ := hs
  refine ⟨h1, ?_⟩
  rw [hg] at h2 ⊢
  exact apureD_congr h h2
theorem updO_kill (r : Option Nat) (f : Nat → AV) (d : Option Nat) {v : AV} (hv : v.nor = true) : (fun t => killO r (updO f d v t)) = updO (fun t => killO r (f t)) d v := by
  funext s
  cases d with
  | none => rfl
  | some d =>
    simp only [updO]
    split
    · exact nor_killO r hv
    · rfl
theorem stepP_comm {al : Bool × Bool} {all : List Oper} {oi oj : Oper} {s s1 s2 : DSt} (hap : oi.apart all.toArray oj = true) (hok : okPairP al.2 oi.op oj.op = true) (hal : isAl oj.op = true → al.1 = true)
    (h1 : stepP P n al all oi s s1) (h2 : stepP P n al all oj s1 s2) : ∃ s', stepP P n al all oj s s' ∧ stepP P n al all oi s' s2 := by
  obtain ⟨a1, a2, a3⟩ := Oper.apart_spec hap
  obtain ⟨f, B, R⟩ := s
  rcases h1 with ⟨qi, gi, ni, v, nv, hv, rfl⟩ | ⟨qi, wi, hi⟩ | ⟨gi, di, pi, rfl⟩
  · obtain ⟨mi, wi, si, ai⟩ := memQ_spec qi
    rcases h2 with ⟨qj, gj, nj, u, nu, hu, rfl⟩ | ⟨qj, wj, hj⟩ | ⟨gj, dj, pj, rfl⟩
    · simp only at *
      refine ⟨⟨updO f oj.dst u, B, R⟩, .inl ⟨qj, gj, norEv_congr (fun x hx => (evF_upd a1 x hx).symm) nj, u, nu, stepV_back a1 hu, rfl⟩, .inl ⟨qi, gi, norEv_congr (evF_upd a3) ni, v, nv, stepV_put a3 hv, ?_⟩⟩
      rw [updO_comm f v u a2]
    · rcases hj with ⟨⟨ns2, na2⟩, hl2, u, hu, rfl⟩ | ⟨hg2, hd2, hw2, rfl⟩
      · simp only at *
        refine ⟨⟨updO f oj.dst u, B, R⟩, .inr (.inl ⟨qj, wj, .inl ⟨⟨ns2, na2⟩, ⟨fun e1 e2 => lowEv_congr (fun x hx => (evF_upd a1 x hx).symm) (hl2.1 e1 e2), fun e1 e2 => lowEv_congr (fun x hx => (evF_upd a1 x hx).symm) (hl2.2 e1 e2)⟩, u, stepV_back a1 hu, rfl⟩⟩),
          .inl ⟨qi, gi, norEv_congr (evF_upd a3) ni, v, nv, stepV_put a3 hv, ?_⟩⟩
        rw [updO_comm f v u a2]
      · simp only at *
        have hc : wres P B R (evF (updO f oi.dst v)) oj.op = wres P B R (evF f) oj.op := wres_congr (evF_upd a1)
        rw [hc] at hw2
        simp only [hc]
        refine ⟨_, .inr (.inl ⟨qj, wj, .inr ⟨hg2, hd2, hw2, rfl⟩⟩), .inl ⟨qi, gi, norEv_congr (evF_upd a3) ni, v, nv, stepV_memN mi (stepV_put a3 hv), ?_⟩⟩
        simp only
        rw [updO_comm f v _ a2]
    · simp only at *
      have hc : pres P R (evF (updO f oi.dst v)) oj.op = pres P R (evF f) oj.op := pres_congr (evF_upd a1)
      rw [hc] at pj
      simp only [hc]
      have hev : ∀ x ∈ oi.op.operands.toList, evF (updO (fun t => killO (pres P R (evF f) oj.op).1.2.1 (f t)) oj.dst (pres P R (evF f) oj.op).1.1) x = evF f x := fun x hx => by
        rw [evF_upd a3 x hx, evF_kill, nor_killO _ (norEv_mem ni x hx)]
      refine ⟨_, .inr (.inr ⟨gj, dj, pj, rfl⟩), .inl ⟨qi, gi, norEv_congr hev ni, v, nv, stepV_evs gi (fun x hx => (hev x hx).symm) (stepV_memN mi hv), ?_⟩⟩
      simp only
      rw [updO_kill _ f oi.dst nv, updO_comm _ v _ a2]
  · rcases h2 with ⟨qj, gj, nj, u, nu, hu, rfl⟩ | ⟨qj, wj, hj⟩ | ⟨gj, dj, pj, rfl⟩
    · obtain ⟨mj, wj, sj, aj⟩ := memQ_spec qj
      rcases hi with ⟨⟨ns, na⟩, hl, v, hv, rfl⟩ | ⟨hg, hd, hw, rfl⟩
      · simp only at *
        refine ⟨⟨updO f oj.dst u, B, R⟩, .inl ⟨qj, gj, norEv_congr (fun x hx => (evF_upd a1 x hx).symm) nj, u, nu, stepV_back a1 hu, rfl⟩,
          .inr (.inl ⟨qi, wi, .inl ⟨⟨ns, na⟩, ⟨fun e1 e2 => lowEv_congr (evF_upd a3) (hl.1 e1 e2), fun e1 e2 => lowEv_congr (evF_upd a3) (hl.2 e1 e2)⟩, v, stepV_put a3 hv, ?_⟩⟩)⟩
        rw [updO_comm f v u a2]
      · simp only at *
        have hc : wres P B R (evF (updO f oj.dst u)) oi.op = wres P B R (evF f) oi.op := wres_congr (evF_upd a3)
        refine ⟨⟨updO f oj.dst u, B, R⟩, .inl ⟨qj, gj, norEv_congr (fun x hx => (evF_upd a1 x hx).symm) nj, u, nu, stepV_memN mj (stepV_back a1 hu), rfl⟩, .inr (.inl ⟨qi, wi, .inr ⟨hg, hd, by simp only; rw [hc]; exact hw, ?_⟩⟩)⟩
        simp only [hc]
        rw [updO_comm f _ u a2]
    · have hokp : okPair al.2 oi.op oj.op = true := by
        simp only [okPairP, qi, qj, wi, wj] at hok
        simpa using hok
      obtain ⟨s', e1, e2⟩ := stepM_comm hap hokp hal hi hj
      exact ⟨s', .inr (.inl ⟨qj, wj, e1⟩), .inr (.inl ⟨qi, wi, e2⟩)⟩
    · have wj := pres_W pj
      have : memQ oj.op = false := by unfold memQ; rw [wj]; simp
      simp [okPairP, qi, this, wj] at hok
  · have wi := pres_W pi
    have qi : memQ oi.op = false := by unfold memQ; rw [wi]; simp
    rcases h2 with ⟨qj, gj, nj, u, nu, hu, rfl⟩ | ⟨qj, wj, hj⟩ | ⟨gj, dj, pj, rfl⟩
    · obtain ⟨mj, wj, sj, aj⟩ := memQ_spec qj
      simp only at *
      have hev : ∀ x ∈ oj.op.operands.toList, evF (updO (fun t => killO (pres P R (evF f) oi.op).1.2.1 (f t)) oi.dst (pres P R (evF f) oi.op).1.1) x = evF f x := fun x hx => by
        have h3 := norEv_mem nj x hx
        rw [evF_upd a1 x hx, evF_kill] at h3 ⊢
        exact killO_nor _ h3
      have hc : pres P R (evF (updO f oj.dst u)) oi.op = pres P R (evF f) oi.op := pres_congr (evF_upd a3)
      refine ⟨⟨updO f oj.dst u, B, R⟩, .inl ⟨qj, gj, norEv_congr (fun x hx => (hev x hx).symm) nj, u, nu, stepV_evs gj hev (stepV_memN mj hu), rfl⟩, .inr (.inr ⟨gi, di, by simp only; rw [hc]; exact pi, ?_⟩)⟩
      simp only [hc]
      rw [updO_kill _ f oj.dst nu, updO_comm _ _ u a2]
    · simp [okPairP, qi, qj, wi] at hok
    · have wj := pres_W pj
      have qj : memQ oj.op = false := by unfold memQ; rw [wj]; simp
      simp [okPairP, qi, qj, wi] at hok
def reachB (all : Array Oper) (i : Nat) : Nat → Nat → Bool
  | 0, _ => false
  | f + 1, j => match all[j]? with
    | some o => o.after.any fun e => Region.binds .any e && (e.on == i || reachB all i f e.on)
    | none => false
def Closed (all : Array Oper) (listed : Array Bool) : Prop := ∀ (j : Nat) (o : Oper), all[j]? = some o → listed.getD j false = true → ∀ e ∈ o.after, Region.binds .any e = true → listed.getD e.on false = true
theorem reach_listed {all : Array Oper} {listed : Array Bool} {i : Nat} (hc : Closed all listed) : ∀ (f j : Nat) (o : Oper), all[j]? = some o → (∀ e ∈ o.after, Region.binds .any e = true → listed.getD e.on false = true) → reachB all i f j = true → listed.getD i false = true
  | 0, j, o, _, _, h => by simp [reachB] at h
  | f + 1, j, o, ho, hp, h => by
    simp only [reachB, ho] at h
    obtain ⟨e, he, hb⟩ := Array.any_eq_true'.1 h
    simp only [Bool.and_eq_true, Bool.or_eq_true, beq_iff_eq] at hb
    have hl := hp e he hb.1
    rcases hb.2 with h1 | h1
    · rw [← h1]; exact hl
    · cases hk : all[e.on]? with
      | none =>
        cases f with
        | zero => simp [reachB] at h1
        | succ f => simp [reachB, hk] at h1
      | some o2 => exact reach_listed hc f e.on o2 hk (hc e.on o2 hk hl) h1
def memBP (al : Bool × Bool) (ops : Array Oper) : Bool :=
  ((List.range ops.size).all fun i => match ops[i]? with
    | some oi => al.1 || !isAl oi.op
    | none => true) &&
  (List.range ops.size).all fun i => (List.range ops.size).all fun j => match ops[i]?, ops[j]? with
    | some oi, some oj => Nat.ble j i || reachB ops i ops.size j || okPairP al.2 oi.op oj.op
    | _, _ => true
theorem memBP_al {al : Bool × Bool} {ops : Array Oper} (h : memBP al ops = true) {i : Nat} {oi : Oper} (hi : ops[i]? = some oi) (ha : isAl oi.op = true) : al.1 = true := by
  simp only [memBP, Bool.and_eq_true, List.all_eq_true, List.mem_range] at h
  have := h.1 i (Array.getElem?_eq_some_iff.1 hi).1
  rw [hi] at this
  simpa [ha] using this
theorem memBP_pair {al : Bool × Bool} {ops : Array Oper} (h : memBP al ops = true) {i j : Nat} {oi oj : Oper} (hi : ops[i]? = some oi) (hj : ops[j]? = some oj) (hij : i < j)
    (hno : reachB ops i ops.size j ≠ true) : okPairP al.2 oi.op oj.op = true := by
  simp only [memBP, Bool.and_eq_true, List.all_eq_true, List.mem_range] at h
  have := h.2 i (Array.getElem?_eq_some_iff.1 hi).1 j (Array.getElem?_eq_some_iff.1 hj).1
  rw [hi, hj] at this
  simp only [Bool.or_eq_true] at this
  rcases this with (h1 | h1) | h1
  · exact absurd (Nat.le_of_ble_eq_true h1) (by omega)
  · exact absurd h1 hno
  · exact h1
def qP (P : Program) (n : Nat) (al : Bool × Bool) (all : List Oper) (i : Nat) (K : DSt → Prop) (s : DSt) : Prop :=
  match all[i]? with
  | none => K s
  | some o => ∃ s', stepP P n al all o s s' ∧ K s'
def wpAnyP (P : Program) (n : Nat) (al : Bool × Bool) (all : List Oper) (Q : DSt → Prop) : Nat → Array Bool → DSt → Prop
  | 0, listed, s => Region.ready .any all.toArray listed = [] ∧ Q s
  | fuel + 1, listed, s =>
    (Region.ready .any all.toArray listed = [] → Q s) ∧
    ∀ i ∈ Region.ready .any all.toArray listed, qP P n al all i (wpAnyP P n al all Q fuel (listed.setIfInBounds i true)) s
theorem closed_set {all : Array Oper} {listed : Array Bool} {i : Nat} (hc : Closed all listed) (hi : i ∈ Region.ready .any all listed) : Closed all (listed.setIfInBounds i true) := by
  intro j o ho hl e he hb
  refine getD_set_true ?_
  by_cases hij : i = j
  · subst hij
    obtain ⟨_, o', ho', hall⟩ := mem_ready.1 hi
    rw [ho] at ho'
    cases ho'
    exact hall e he hb
  · rw [getD_set_ne false hij] at hl
    exact hc j o ho hl e he hb
theorem getD_tf {listed : Array Bool} {i : Nat} (h0 : listed.getD i true = false) (h1 : listed.getD i false = true) : False := by
  rcases Nat.lt_or_ge i listed.size with h' | h'
  · simp [h'] at h0 h1; rw [h0] at h1; cases h1
  · simp [Array.getElem?_eq_none h'] at h1
theorem wpAnyP_first {al : Bool × Bool} {all : List Oper} {Q : DSt → Prop} {i : Nat} {oi : Oper} (hi : all[i]? = some oi) (hal : ∀ (j : Nat) (o : Oper), all[j]? = some o → isAl o.op = true → al.1 = true) :
    ∀ (fuel : Nat) (listed : Array Bool) (s s1 : DSt), Closed all.toArray listed →
      (∀ j oj, all.toArray[j]? = some oj → j ≠ i → listed.getD j true = false → reachB all.toArray i all.toArray.size j ≠ true → (∀ e ∈ oj.after, Region.binds .any e = true → e.on ≠ i) → oi.apart all.toArray oj = true ∧ okPairP al.2 oi.op oj.op = true) →
      i ∈ Region.ready .any all.toArray listed → stepP P n al all oi s s1 →
      wpAnyP P n al all Q fuel (listed.setIfInBounds i true) s1 → wpAnyP P n al all Q (fuel + 1) listed s := by
  have take : ∀ {K : DSt → Prop} {s s1 : DSt}, stepP P n al all oi s s1 → K s1 → qP P n al all i K s := by
    intro K s s1 hy h
    unfold qP
    simp only [hi]
    exact ⟨s1, hy, h⟩
  intro fuel
  induction fuel with
  | zero =>
    intro listed s s1 hc _ hr hy H
    refine ⟨fun h => (by rw [h] at hr; cases hr), fun j hj => ?_⟩
    by_cases hji : j = i
    · subst hji; exact take hy H
    · have := ready_mono hj hji
      rw [H.1] at this
      cases this
  | succ fuel ih =>
    intro listed s s1 hc hfree hr hy H
    refine ⟨fun h => (by rw [h] at hr; cases hr), fun j hj => ?_⟩
    by_cases hji : j = i
    · subst hji; exact take hy H
    · have h1 := H.2 j (ready_mono hj hji)
      obtain ⟨hjun, oj, hoj, hall⟩ := mem_ready.1 hj
      have hnot : ∀ e ∈ oj.after, Region.binds .any e = true → e.on ≠ i := fun e he hb heq => by
        have h1 := hall e he hb
        rw [heq] at h1
        exact getD_tf (mem_ready.1 hr).1 h1
      have hnr : reachB all.toArray i all.toArray.size j ≠ true := fun h => getD_tf (mem_ready.1 hr).1 (reach_listed hc _ j oj hoj hall h)
      obtain ⟨hap, hok⟩ := hfree j oj hoj hji hjun hnr hnot
      have hoj' : all[j]? = some oj := by simpa using hoj
      unfold qP at h1 ⊢
      simp only [hoj'] at h1 ⊢
      obtain ⟨s2, hs2, hW⟩ := h1
      obtain ⟨s', hs', hs2'⟩ := stepP_comm hap hok (hal j oj hoj') hy hs2
      have hfree' : ∀ k ok, all.toArray[k]? = some ok → k ≠ i → (listed.setIfInBounds j true).getD k true = false → reachB all.toArray i all.toArray.size k ≠ true →
          (∀ e ∈ ok.after, Region.binds .any e = true → e.on ≠ i) → oi.apart all.toArray ok = true ∧ okPairP al.2 oi.op ok.op = true := fun k ok hk hki hun hrc hno => by
        refine hfree k ok hk hki ?_ hrc hno
        by_cases hjk : j = k
        · subst hjk; exact hjun
        · rw [getD_set_ne true hjk] at hun; exact hun
      refine ⟨s', hs', ih (listed.setIfInBounds j true) s' s2 (closed_set hc hj) hfree' (ready_mono hr (Ne.symm hji)) hs2' ?_⟩
      rw [Array.setIfInBounds_comm _ _ hji]
      exact hW
def wpTextP (P : Program) (n : Nat) (al : Bool × Bool) (all : List Oper) (Q : DSt → Prop) : List Oper → DSt → Prop
  | [], s => Q s
  | o :: l, s => ∃ s', stepP P n al all o s s' ∧ wpTextP P n al all Q l s'
theorem wpAnyP_lex {al : Bool × Bool} {all : List Oper} {Q : DSt → Prop} (hm : memBP al all.toArray = true) : ∀ (l : List Oper) (k : Nat) (listed : Array Bool) (s : DSt), (∀ j : Nat, l[j]? = all[k + j]?) → Closed all.toArray listed →
    (∀ j, j < k → listed.getD j true = true) →
    Region.lexFrom .any all.toArray l.length k listed = true → wpTextP P n al all Q l s → wpAnyP P n al all Q l.length listed s
  | [], _, _, _, _, _, _, hB, h => ⟨by simpa [Region.lexFrom] using hB, h⟩
  | o :: l, k, listed, s, hl, hc, hlt, hB, h => by
    have h0 : all[k]? = some o := by simpa using (hl 0).symm
    simp only [List.length_cons, Region.lexFrom, Bool.and_eq_true] at hB
    obtain ⟨⟨hr, hf⟩, hB'⟩ := hB
    obtain ⟨s', hy, hK⟩ := h
    have h0' : all.toArray[k]? = some o := by simpa using h0
    refine wpAnyP_first h0 (fun j oj hj ha => memBP_al hm (by simpa using hj) ha) l.length listed s s' hc (fun j oj hj hne hun hrc hno => ⟨Region.free_spec h0' hf j oj hj hne hun hno, ?_⟩) (by simpa using hr) hy
      (wpAnyP_lex hm l (k + 1) _ _ (fun j => by have := hl (j + 1); simpa [Nat.add_assoc, Nat.add_comm 1 j] using this) (closed_set hc (by simpa using hr)) (fun j hj => ?_) hB' hK)
    · have hjk : k < j := by
        rcases Nat.lt_trichotomy j k with h | h | h
        · rw [hlt j h] at hun; cases hun
        · exact absurd h hne
        · exact h
      exact memBP_pair hm h0' hj hjk hrc
    · by_cases hjk : k = j
      · subst hjk
        simp only [Array.getD_eq_getD_getElem?, Array.getElem?_setIfInBounds]
        simp
        split <;> simp
      · rw [getD_set_ne true hjk]; exact hlt j (by omega)
/-! ### what it says of memory -/
theorem eget_killE (r s : Nat) : ∀ env, eget (killE r env) s = (eget env s).kill r
  | [] => by simp [killE, eget, AV.kill]
  | (k, v) :: t => by
    have ih := eget_killE r s t
    simp only [killE, List.map_cons, eget] at ih ⊢
    split
    · rfl
    · exact ih
def killSt (r : Option Nat) (env : List (Nat × AV)) : List (Nat × AV) := match r with
  | none => env
  | some r => killE r env
theorem eget_killSt (r : Option Nat) (s : Nat) (env : List (Nat × AV)) : eget (killSt r env) s = killO r (eget env s) := by
  cases r with
  | none => rfl
  | some r => exact eget_killE r s env
theorem pres_astep {B : List (List AV)} {R : List (Option Row)} {env : List (Nat × AV)} {op : Op} (h : (pres P R (evA env) op).2) :
    astep P ⟨env, B, R⟩ op (fun v st' => v = (pres P R (evA env) op).1.1 ∧ st' = ⟨killSt (pres P R (evA env) op).1.2.1 env, B.map (List.map (killO (pres P R (evA env) op).1.2.1)), (pres P R (evA env) op).1.2.2⟩) := by
  unfold pres at h ⊢
  split at h
  · rename_i args ts
    unfold astep
    simp only
    cases hl : args.toList with
    | nil => rw [hl] at h; exact h.elim
    | cons s l =>
      cases l with
      | nil => rw [hl] at h; exact h.elim
      | cons x l =>
        cases l with
        | cons => rw [hl] at h; exact h.elim
        | nil =>
          cases ht : ts.toList with
          | nil => rw [hl, ht] at h; exact h.elim
          | cons t l =>
            cases l with
            | nil => rw [hl, ht] at h; exact h.elim
            | cons t' l =>
              cases l with
              | cons => rw [hl, ht] at h; exact h.elim
              | nil =>
                rw [hl, ht] at h
                simp only at h ⊢
                cases e1 : apT P t with
                | none => rw [e1] at h; exact h.elim
                | some q =>
                  cases e2 : elemsOf R (un (evA env x)) with
                  | none => rw [e1, e2] at h; exact h.elim
                  | some y =>
                    rw [e1, e2] at h
                    simp only at h ⊢
                    cases e3 : un (evA env s) <;> rw [e3] at h <;> try exact h.elim
                    rename_i r sz off len
                    simp only at h ⊢
                    cases e4 : getRow R r sz with
                    | none => rw [e4] at h; exact h.elim
                    | some rw_ =>
                      rw [e4] at h
                      simp only at h ⊢
                      obtain ⟨h1, h2, h3, h4, h5, h6, h7, h8⟩ := h
                      exact ⟨h1, h2, h3, h4, h5, h6, h7, h8, trivial, rfl⟩
  · exact h.elim
theorem wpAny_of_P {w0 : World} {S0 : Stab} {al : Bool × Bool} {all : List Oper} {Q : DSt → Prop} {Q' : Exit → Act → World → Prop}
    (hQ : ∀ (s : DSt) a w S γ ρ, RelF w0 S0 n s.f s.B s.R a w S γ ρ → Q s → Q' .normal a w) : ∀ (fuel : Nat) (listed : Array Bool) (s : DSt) (a : Act) (w : World) (S : Nat → Prop) (γ : List Nat) (ρ : List Value),
    RelF w0 S0 n s.f s.B s.R a w S γ ρ → wpAnyP P n al all Q fuel listed s → wpAny P .any all.toArray Q' fuel listed a w
  | 0, _, s, a, w, S, γ, ρ, hr, h => ⟨h.1, hQ _ _ _ _ _ _ hr h.2⟩
  | fuel + 1, listed, s, a, w, S, γ, ρ, hr, h => ⟨fun h0 => hQ _ _ _ _ _ _ hr (h.1 h0), fun i hi => by
    have h1 := h.2 i hi
    unfold qP at h1
    unfold wpOp
    simp only [List.getElem?_toArray]
    cases ho : all[i]? with
    | none => rw [ho] at h1; simp only at h1 ⊢; exact wpAny_of_P hQ fuel _ s a w S γ ρ hr h1
    | some o =>
      rw [ho] at h1
      simp only at h1 ⊢
      obtain ⟨s', hst, hK⟩ := h1
      obtain ⟨f, B, R⟩ := s
      simp only at hr
      -- an operation that writes memory of the call's own: the state behind it
      have wr : ∀ (v : AV) (f2 : List (Nat × AV) → List (Nat × AV)) (kl : AV → AV) (B' : List (List AV)) (R' : List (Option Row)), o.guard = none → dok n o.dst → kl .any = .any → (∀ env s, eget (f2 env) s = kl (eget env s)) →
          (∀ (a : AV) (u : Value) {w w' : World} {S S' : Nat → Prop} {γ γ' : List Nat} {ρ ρ' : List Value}, V w S γ ρ false a u → u = Go.undef → V w' S' γ' ρ' false (kl a) u) →
          (∀ env : List (Nat × AV), (∀ x ∈ o.op.operands.toList, evF f x = evA env x) → astep P ⟨env, B, R⟩ o.op (fun v' st' => v' = v ∧ st' = ⟨f2 env, B', R'⟩)) →
          wpAnyP P n al all Q fuel (listed.setIfInBounds i true) ⟨updO (fun t => kl (f t)) o.dst v, B', R'⟩ →
          (if Region.wanted o (yielded all.toArray a.tmps) = true then o.wp P a w (wpAny P .any all.toArray Q' fuel (listed.setIfInBounds i true)) Q' ∨ o.asks P a w ∧ LetsOut Q' else wpAny P .any all.toArray Q' fuel (listed.setIfInBounds i true) (a.put o.dst undef) w) := by
        intro v f2 kl B' R' hg hd hka hget hund hstep hK
        have hd := dok_spec hd
        have hwt : Region.wanted o (yielded all.toArray a.tmps) = true := by simp [Region.wanted, hg]
        rw [if_pos hwt]
        left
        obtain ⟨L, hL⟩ : ∃ L : List Nat, L = (o.op.operands.toList.filterMap fun | .tmp t => some t | _ => none) ++ List.range n := ⟨_, rfl⟩
        have hev : ∀ x ∈ o.op.operands.toList, evF f x = evA (L.map fun s => (s, f s)) x := fun x hx => by
          cases x <;> try rfl
          rename_i t
          simp only [evF, evA]
          rw [eget_map, if_pos]
          rw [hL]
          exact List.mem_append_left _ (List.mem_filterMap.2 ⟨.tmp t, hx, rfl⟩)
        have hrel : RelAt w0 S0 n ⟨L.map fun s => (s, f s), B, R⟩ a w S γ ρ :=
          ⟨hr.rel.below, hr.rel.s0, hr.rel.sw, hr.rel.heap, hr.rel.size, hr.rel.defs, fun s => by
            simp only [eget_map]
            split
            · exact hr.env s
            · exact .any⟩
        obtain ⟨v', st', ⟨e1, e2⟩, hn⟩ := astep_sound hrel (o := o) (hstep _ hev)
        refine hn _ _ fun u w' S' γ' ρ' hr2 hv => ?_
        rw [e2] at hr2
        rw [e1] at hv
        refine wpAny_of_P hQ fuel _ ⟨_, _, _⟩ _ w' S' γ' ρ' (RelF.put ⟨⟨hr2.below, hr2.s0, hr2.sw, hr2.heap, hr2.size, hr2.defs, fun s => .any⟩, fun s => ?_⟩ hd hv) hK
        have he := hr2.env s
        simp only [hget, eget_map] at he
        by_cases hs : s ∈ L
        · rw [if_pos hs] at he; exact he
        · have hsn : ¬ s < n := fun h => hs (by rw [hL]; exact List.mem_append_right _ (List.mem_range.2 h))
          have hu : a.tmps.getD s Go.undef = Go.undef := by
            have : a.tmps.size ≤ s := by rw [hr.rel.size]; omega
            simp [Array.getD_eq_getD_getElem?, Array.getElem?_eq_none this]
          exact hund _ _ (hr.env s) hu
      have pure_case : ∀ v, stepV P n B R all o f v → wpAnyP P n al all Q fuel (listed.setIfInBounds i true) ⟨updO f o.dst v, B, R⟩ →
          (if Region.wanted o (yielded all.toArray a.tmps) = true then o.wp P a w (wpAny P .any all.toArray Q' fuel (listed.setIfInBounds i true)) Q' ∨ o.asks P a w ∧ LetsOut Q' else wpAny P .any all.toArray Q' fuel (listed.setIfInBounds i true) (a.put o.dst undef) w) := by
        rintro v ⟨hd, hs⟩ hK
        have hd := dok_spec hd
        cases hg : o.guard with
        | none =>
          rw [hg] at hs
          have hw : Region.wanted o (yielded all.toArray a.tmps) = true := by simp [Region.wanted, hg]
          rw [if_pos hw]
          left
          obtain ⟨v', rfl, hn⟩ := apureD_sound hr.rel.heap hr.rel.sw hr.ev hs
          exact hn _ _ fun u w' S' hb hS hS' hv => wpAny_of_P hQ fuel _ ⟨_, _, _⟩ _ w' S' γ ρ ((hr.later hb hS hS').put hd hv) hK
        | some jw =>
          obtain ⟨j, want⟩ := jw
          rw [hg] at hs
          obtain ⟨g, c, x, e1, e2, e3, rfl⟩ := hs
          have hw := wanted_iff hg e1 e2 (hr.env g)
          cases c
          · rw [if_neg (by rw [hw]; simp)]
            exact wpAny_of_P hQ fuel _ ⟨_, _, _⟩ _ w S γ ρ (hr.put hd (.opt (fun h => by cases h) (fun _ => rfl))) hK
          · rw [if_pos hw]
            left
            obtain ⟨v', rfl, hn⟩ := apureD_sound hr.rel.heap hr.rel.sw hr.ev e3
            exact hn _ _ fun u w' S' hb hS hS' hv => wpAny_of_P hQ fuel _ ⟨_, _, _⟩ _ w' S' γ ρ ((hr.later hb hS hS').put hd (.opt (fun _ => hv) (fun h => by cases h))) hK
      rcases hst with ⟨_, _, _, v, _, hv, rfl⟩ | ⟨_, _, hm⟩ | ⟨hg, hd, hp, rfl⟩
      · exact pure_case v hv hK
      · rcases hm with ⟨_, _, v, hv, rfl⟩ | ⟨hg, hd, hw, rfl⟩
        · exact pure_case v hv hK
        · simp only at hw hK
          refine wr _ id id _ _ hg hd rfl (fun _ _ => rfl) (fun a u _ _ _ _ _ _ _ _ h h2 => h.undef h2) (fun env hev => ?_) hK
          have hc : wres P B R (evF f) o.op = wres P B R (evA env) o.op := wres_congr hev
          rw [hc] at hw ⊢
          exact wres_astep hw
      · simp only at hp hK
        refine wr _ (killSt (pres P R (evF f) o.op).1.2.1) (killO (pres P R (evF f) o.op).1.2.1) _ _ hg hd (killO_any _) (fun env s => eget_killSt _ s env) (fun a u _ _ _ _ _ _ _ _ h h2 => ?_) (fun env hev => ?_) hK
        · cases (pres P R (evF f) o.op).1.2.1 with
          | none => exact h.undef h2
          | some r => exact (h.kill r _ (fun _ _ _ h => h)).undef h2
        · have hc : pres P R (evF f) o.op = pres P R (evA env) o.op := pres_congr hev
          rw [hc] at hp ⊢
          exact pres_astep hp⟩
def apureB (P : Program) (st : ASt) (op : Op) (K : AV → Prop) : Prop :=
  match op with
  | .buildSlice t len parts => amem P (evA st.env) (.buildSlice t len parts) K
  | op => apure P st true op K
theorem apureB_D {st : ASt} {op : Op} {K : AV → Prop} (h : apureB P st op K) : apureD P st.boxes st.rows (evA st.env) true op K := by
  unfold apureB at h
  split at h
  · exact .inr (.inr ⟨rfl, h⟩)
  · exact .inr (.inl h)
def aopP (P : Program) (n : Nat) (gs : Nat → Option Nat) (al : Bool × Bool) (o : Oper) (st : ASt) (K : ASt → Prop) : Prop :=
  match isW o.op with
  | true => o.guard = none ∧ dok n o.dst ∧ (pres P st.rows (evA st.env) o.op).2 ∧
      K ⟨((⟨killSt (pres P st.rows (evA st.env) o.op).1.2.1 st.env, [], []⟩ : ASt).put o.dst (pres P st.rows (evA st.env) o.op).1.1).env, st.boxes.map (List.map (killO (pres P st.rows (evA st.env) o.op).1.2.1)), (pres P st.rows (evA st.env) o.op).1.2.2⟩
  | false => match memQ o.op with
    | true => o.guard = none ∧ dok n o.dst ∧ norEv (evA st.env) o.op.operands.toList ∧ apureB P st o.op fun v => v.nor = true ∧ K (st.put o.dst v)
    | false => aopM P n gs al o st K
def aopsP (P : Program) (n : Nat) (gs : Nat → Option Nat) (al : Bool × Bool) : List Oper → ASt → (ASt → Prop) → Prop
  | [], st, K => K st
  | o :: os, st, K => aopP P n gs al o st fun st' => aopsP P n gs al os st' K
theorem aopsP_cons {gs : Nat → Option Nat} {al : Bool × Bool} {o : Oper} {os : List Oper} {st : ASt} {K : ASt → Prop} (h : ∀ K' : ASt → Prop, (∀ s, aopsP P n gs al os s K → K' s) → aopP P n gs al o st K') : aopsP P n gs al (o :: os) st K :=
  h _ fun _ h => h
theorem aopsP_nil {gs : Nat → Option Nat} {al : Bool × Bool} {st : ASt} {K : ASt → Prop} (h : K st) : aopsP P n gs al [] st K := h
theorem aopP_step {al : Bool × Bool} {all : List Oper} {o : Oper} {st : ASt} {K : ASt → Prop} (h : aopP P n (gslot all) al o st K) :
    ∃ st' : ASt, K st' ∧ stepP P n al all o ⟨eget st.env, st.boxes, st.rows⟩ ⟨eget st'.env, st'.boxes, st'.rows⟩ := by
  unfold aopP at h
  split at h
  · obtain ⟨h1, h2, h3, h4⟩ := h
    refine ⟨_, h4, .inr (.inr ⟨h1, h2, by simp only [← evA_evF]; exact h3, ?_⟩)⟩
    simp only [← evA_evF, eget_put]
    congr 2
    funext s
    exact eget_killSt _ s _
  · rename_i hw
    split at h
    · rename_i hq
      obtain ⟨h1, h2, h3, h4⟩ := h
      obtain ⟨v, e1, e2, e3⟩ := apureD_iff (apureB_D h4)
      refine ⟨_, e3, .inl ⟨hq, h1, by simp only [← evA_evF]; exact h3, v, e2, ⟨h2, by rw [h1]; simp only [← evA_evF]; exact e1⟩, ?_⟩⟩
      rw [eget_put, (put_boxes st o.dst v).1, (put_boxes st o.dst v).2]
    · rename_i hq
      obtain ⟨st', h1, h2⟩ := aopM_step h
      exact ⟨st', h1, .inr (.inl ⟨hq, hw, h2⟩)⟩
theorem aopsP_text {al : Bool × Bool} {all : List Oper} {K : ASt → Prop} : ∀ (l : List Oper) (st : ASt), aopsP P n (gslot all) al l st K →
    wpTextP P n al all (fun s => ∃ st', K st' ∧ s = ⟨eget st'.env, st'.boxes, st'.rows⟩) l ⟨eget st.env, st.boxes, st.rows⟩
  | [], st, h => ⟨st, h, rfl⟩
  | o :: l, st, h => by
    obtain ⟨st', h1, h2⟩ := aopP_step h
    exact ⟨_, h2, aopsP_text l st' h1⟩
theorem closed_none (all : Array Oper) (m : Nat) : Closed all (Array.replicate m false) := by
  intro j o ho hl
  exfalso
  rw [Array.getD_eq_getD_getElem?] at hl
  rcases Nat.lt_or_ge j m with h | h
  · simp [h] at hl
  · simp [h] at hl
theorem AWp.regionP {id : Nat} {l : List Oper} {Q : Exit → ASt → Prop} {st : ASt} (F : List Nat) (al : Bool × Bool) (hm : P.follows .mixedOrders = true) (hB : Region.lexB .any l.toArray = true) (hM : memBP al l.toArray = true)
    (h : aopsP P n (gslot l) al l st fun s => Q .normal (s.prune F)) : AWp P n (.region id l.toArray true) Q st := fun w0 S0 a w ⟨S, γ, ρ, hr⟩ => by
  simp only [Region.lexB, Bool.and_eq_true] at hB
  refine wp_region_any hm ?_
  have hb : Below w.heap.size w { w with drawn := w.drawn + 1 } := ⟨rfl, rfl, rfl, Nat.le_refl _, fun _ _ => rfl⟩
  have hr2 : RelF w0 S0 n (eget st.env) st.boxes st.rows a { w with drawn := w.drawn + 1 } S γ ρ := by
    have := hr.later hb (fun _ h => h) (fun _ h => .inl h)
    exact ⟨⟨this.below, this.s0, this.sw, this.heap, this.size, this.defs, fun s => .any⟩, this.env⟩
  have ht := wpAnyP_lex hM l 0 (Array.replicate l.toArray.size false) ⟨eget st.env, st.boxes, st.rows⟩ (by simp) (closed_none _ _) (fun j hj => absurd hj (Nat.not_lt_zero j)) (by simpa using hB.2) (aopsP_text l st h)
  have hQ : ∀ (s : DSt) a' w' S' γ' ρ', RelF w0 S0 n s.f s.B s.R a' w' S' γ' ρ' → (∃ st' : ASt, Q .normal (st'.prune F) ∧ s = ⟨eget st'.env, st'.boxes, st'.rows⟩) →
      ∃ st' : ASt, Q .normal st' ∧ Rel w0 S0 n st' a' w' := fun s a' w' S' γ' ρ' hf ⟨st', hK, e⟩ => by
    subst e
    have hrel : RelAt w0 S0 n st' a' w' S' γ' ρ' := ⟨hf.rel.below, hf.rel.s0, hf.rel.sw, hf.rel.heap, hf.rel.size, hf.rel.defs, hf.env⟩
    exact ⟨_, hK, Rel.prune ⟨S', γ', ρ', hrel⟩ F⟩
  have := wpAny_of_P (P := P) (Q' := fun e a' w' => ∃ st', Q e st' ∧ Rel w0 S0 n st' a' w') hQ l.length _ _ a _ S γ ρ hr2 ht
  simpa using this
theorem AWp.sregP {id : Nat} {l : List Oper} {y : Code} {Q : Exit → ASt → Prop} {st : ASt} (F : Nat → List Nat) (al : Bool × Bool) (hm : P.follows .mixedOrders = true) (hB : Region.lexB .any l.toArray = true) (hM : memBP al l.toArray = true)
    (h : ∀ (gs : Nat → Option Nat) (K : ASt → Prop), (∀ j, gs j = gslot l j) → (∀ s, AWp P n y Q (s.prune (F id)) → K s) → aopsP P n gs al l st K) : AWp P n (.seq (.region id l.toArray true) y) Q st :=
  AWp.seq (AWp.regionP (F id) al hm hB hM (h (gslot l) (fun s => AWp P n y Q (s.prune (F id))) (fun _ => rfl) fun s h => h))
theorem AWp.regP {id : Nat} {l : List Oper} {Q : Exit → ASt → Prop} {st : ASt} (F : Nat → List Nat) (al : Bool × Bool) (hm : P.follows .mixedOrders = true) (hB : Region.lexB .any l.toArray = true) (hM : memBP al l.toArray = true)
    (h : ∀ (gs : Nat → Option Nat) (K : ASt → Prop), (∀ j, gs j = gslot l j) → (∀ s, Q .normal (s.prune (F id)) → K s) → aopsP P n gs al l st K) : AWp P n (.region id l.toArray true) Q st :=
  AWp.regionP (F id) al hm hB hM (h (gslot l) (fun s => Q .normal (s.prune (F id))) (fun _ => rfl) fun s h => h)
theorem jregionP {m : Nat} {ro : Option Nat} {w0 : World} {S0 : Stab} {G : Array Value} {id : Nat} {l : List Oper} {Q : Exit → ASt → Prop} {st : ASt} (F : List Nat) (al : Bool × Bool) (hm : P.follows .mixedOrders = true) (hB : Region.lexB .any l.toArray = true) (hM : memBP al l.toArray = true)
    (h : aopsP P n (gslot l) al l st fun s => Q .normal (s.prune F)) (hs : smallL m l = true := by rfl) : Go.AL.J.AWp P m n ro w0 S0 G (.region id l.toArray true) Q st := fun a w hsz ⟨S, γ, ρ, hr⟩ => by
  simp only [Region.lexB, Bool.and_eq_true] at hB
  refine wpIn_region_any hm ?_
  have hb : Below w.heap.size w { w with drawn := w.drawn + 1 } := ⟨rfl, rfl, rfl, Nat.le_refl _, fun _ _ => rfl⟩
  have hr2 : RelF w0 S0 n (eget st.env) st.boxes st.rows (Act.jn a G) { w with drawn := w.drawn + 1 } S γ ρ := by
    have := hr.later hb (fun _ h => h) (fun _ h => .inl h)
    exact ⟨⟨this.below, this.s0, this.sw, this.heap, this.size, this.defs, fun s => .any⟩, this.env⟩
  have ht := wpAnyP_lex hM l 0 (Array.replicate l.toArray.size false) ⟨eget st.env, st.boxes, st.rows⟩ (by simp) (closed_none _ _) (fun j hj => absurd hj (Nat.not_lt_zero j)) (by simpa using hB.2) (aopsP_text l st h)
  have hQ : ∀ (s : DSt) a' w' S' γ' ρ', RelF w0 S0 n s.f s.B s.R a' w' S' γ' ρ' → (∃ st' : ASt, Q .normal (st'.prune F) ∧ s = ⟨eget st'.env, st'.boxes, st'.rows⟩) →
      ∃ st' : ASt, Q .normal st' ∧ Rel w0 S0 n st' a' w' := fun s a' w' S' γ' ρ' hf ⟨st', hK, e⟩ => by
    subst e
    have hrel : RelAt w0 S0 n st' a' w' S' γ' ρ' := ⟨hf.rel.below, hf.rel.s0, hf.rel.sw, hf.rel.heap, hf.rel.size, hf.rel.defs, hf.env⟩
    exact ⟨_, hK, Rel.prune ⟨S', γ', ρ', hrel⟩ F⟩
  have := wpAny_of_P (P := P) (Q' := fun e a' w' => e = .normal ∧ ∃ st', Q .normal st' ∧ Rel w0 S0 n st' a' w') (fun s a w S γ ρ h1 h2 => ⟨rfl, hQ s a w S γ ρ h1 h2⟩) l.length _ _ (Act.jn a G) _ S γ ρ hr2 ht
  have h3 := wpAny_jnIn (ro := ro) (k := 0) (Q := fun e a' w' => e = .normal ∧ ∃ st', Q .normal st' ∧ Rel w0 S0 n st' a' w') (Q' := fun e a' w' => a'.tmps.size = m ∧ ∃ st', Q e st' ∧ Rel w0 S0 n st' (Act.jn a' G) w') (fun ⟨_, _, h, _⟩ => by cases h) (fun e a' w' hm' h' => ⟨hm', by rw [h'.1]; exact h'.2⟩) (by simpa using hs) l.length _ a _ hsz this
  simpa using h3
theorem jregP {m : Nat} {ro : Option Nat} {w0 : World} {S0 : Stab} {G : Array Value} {id : Nat} {l : List Oper} {Q : Exit → ASt → Prop} {st : ASt} (F : Nat → List Nat) (al : Bool × Bool) (hm : P.follows .mixedOrders = true) (hB : Region.lexB .any l.toArray = true) (hM : memBP al l.toArray = true)
    (h : ∀ (gs : Nat → Option Nat) (K : ASt → Prop), (∀ j, gs j = gslot l j) → (∀ s, Q .normal (s.prune (F id)) → K s) → aopsP P n gs al l st K) (hs : smallL m l = true := by rfl) : Go.AL.J.AWp P m n ro w0 S0 G (.region id l.toArray true) Q st :=
  jregionP (F id) al hm hB hM (h (gslot l) (fun s => Q .normal (s.prune (F id))) (fun _ => rfl) fun s h => h) hs
end Go.AL.P3
/-! A frame's slots laid aside: pointers to boxes under the names of their blocks. -/
namespace Go.AL
open Go.RowKit
set_option linter.unusedSimpArgs false
set_option linter.unusedVariables false
variable {P : Program} {m n : Nat} {ro : Option Nat}
def frontE (n : Nat) : List (Nat × AV) → List (Nat × AV)
  | [] => []
  | (k, v) :: t => if k < n then (k, v) :: frontE n t else frontE n t
theorem eget_frontE (n : Nat) : ∀ (env : List (Nat × AV)) (s : Nat), eget (frontE n env) s = if s < n then eget env s else .any
  | [], s => by simp [frontE, eget]
  | (k, v) :: t, s => by
    simp only [frontE]
    by_cases h : k < n
    · rw [if_pos h]
      simp only [eget, eget_frontE n t s]
      by_cases h2 : k = s
      · rw [if_pos h2, if_pos h2, if_pos (by omega)]
      · rw [if_neg h2, if_neg h2]
    · rw [if_neg h, eget_frontE n t s]
      simp only [eget]
      by_cases h2 : s < n
      · rw [if_pos h2, if_pos h2, if_neg (by omega)]
      · rw [if_neg h2, if_neg h2]
def ASt.front (n : Nat) (st : ASt) : ASt := ⟨frontE n st.env, st.boxes, st.rows⟩
theorem eget_appE : ∀ (x y : List (Nat × AV)) (s : Nat), (∀ k v, (k, v) ∈ x → k ≠ s) → eget (appE x y) s = eget y s
  | [], _, _, _ => rfl
  | (k, v) :: t, y, s, h => by
    simp only [appE, eget]
    rw [if_neg (h k v (by simp)), eget_appE t y s fun k v hm => h k v (by simp [hm])]
theorem eget_appE_l : ∀ (x y : List (Nat × AV)) (s : Nat), eget (appE x y) s = eget x s ∨ eget (appE x y) s = eget y s
  | [], _, _ => .inr rfl
  | (k, v) :: t, y, s => by
    simp only [appE, eget]
    by_cases h : k = s
    · rw [if_pos h, if_pos h]; exact .inl rfl
    · rw [if_neg h, if_neg h]; exact eget_appE_l t y s
theorem AWp.snap {c : Code} {Q : Exit → ASt → Prop} {st : ASt} (hlt : st.env.all (fun p => Nat.blt p.1 n) = true)
    (h : ∀ (w0 : World) (S0 : Stab) (G : Array Value), (∀ s k off, eget st.env s = .bp k off → ∃ g, G.getD s undef = .pointer (some ⟨g, off, none⟩)) →
      J.AWp P n (n + n) none w0 S0 G c (fun e s' => Q e (s'.front n)) ⟨appE st.env (shE n st.env), st.boxes, st.rows⟩) : AWp P n c Q st := by
  rintro w0 ⟨S0, hS⟩ a w ⟨S, γ, ρ, hr⟩
  refine (wpIn_wide (n := 0)).1 ?_
  have hsz := hr.size
  refine wpIn_mono (h w0 S0 a.tmps (fun s k off e => ?_) a w hsz ⟨S, γ, ρ, hr.below, hr.s0, hr.sw, hr.heap, ?_, hr.defs, fun s => ?_⟩) ?_
  · have := hr.env s
    rw [e] at this
    generalize a.tmps.getD s undef = u at this ⊢
    cases this
    exact ⟨_, rfl⟩
  · show (a.tmps ++ a.tmps).size = n + n
    rw [Array.size_append, hsz]
  · show V w S γ ρ false (eget (appE st.env (shE n st.env)) s) ((a.tmps ++ a.tmps).getD s undef)
    rw [Array.getD_eq_getD_getElem?]
    by_cases hs : s < n
    · rw [Array.getElem?_append_left (by omega), ← Array.getD_eq_getD_getElem?]
      have e2 : eget (shE n st.env) s = .any := by rw [eget_shE, if_neg (by omega)]
      rcases eget_appE_l st.env (shE n st.env) s with e | e
      · rw [e]; exact hr.env s
      · rw [e, e2]; exact .any
    · rw [Array.getElem?_append_right (by omega), hsz, ← Array.getD_eq_getD_getElem?]
      have e1 : eget (appE st.env (shE n st.env)) s = eget (shE n st.env) s := eget_appE _ _ _ fun k v hm => by
        have := List.all_eq_true.1 hlt (k, v) hm
        have : k < n := by simpa [Nat.blt_eq] using this
        omega
      rw [e1, eget_shE, if_pos (by omega)]
      exact hr.env (s - n)
  · rintro e a' w' ⟨hsz', st', hQ, S', γ', ρ', h2⟩
    refine ⟨_, hQ, S', γ', ρ', h2.below, h2.s0, h2.sw, h2.heap, hsz', h2.defs, fun s => ?_⟩
    simp only [ASt.front, eget_frontE]
    by_cases hs : s < n
    · rw [if_pos hs]
      have := h2.env s
      have e1 : (Act.jn a' a.tmps).tmps.getD s undef = a'.tmps.getD s undef := by
        show (a'.tmps ++ a.tmps).getD s undef = _
        simp only [Array.getD_eq_getD_getElem?]
        rw [Array.getElem?_append_left (by omega)]
      rw [e1] at this
      exact this
    · rw [if_neg hs]; exact .any
def WkJ (m n : Nat) (w0 : World) (S0 : Stab) (G : Array Value) (s s' : ASt) : Prop := ∀ a w, a.tmps.size = m → Rel w0 S0 n s (Act.jn a G) w → Rel w0 S0 n s' (Act.jn a G) w
theorem J.AWp.weakenJ {w0 : World} {S0 : Stab} {G : Array Value} {c : Code} {Q : Exit → ASt → Prop} {st st' : ASt} (h : WkJ m n w0 S0 G st st') (hw : J.AWp P m n ro w0 S0 G c Q st') : J.AWp P m n ro w0 S0 G c Q st := fun a w hm hr => hw a w hm (h a w hm hr)
theorem WkJ.trans {w0 : World} {S0 : Stab} {G : Array Value} {s s' s'' : ASt} (h : WkJ m n w0 S0 G s s') (h' : WkJ m n w0 S0 G s' s'') : WkJ m n w0 S0 G s s'' := fun a w hm hr => h' a w hm (h a w hm hr)
theorem WkJ.of {w0 : World} {S0 : Stab} {G : Array Value} {s s' : ASt} (h : Wk s s') : WkJ m n w0 S0 G s s' := fun a w hm hr => h w0 S0 n _ w hr
theorem alias_gen {w0 : World} {S0 : Stab} {G : Array Value} {st : ASt} {p k g s off : Nat} {v : AV} (hG : G.getD p undef = .pointer (some ⟨g, 0, none⟩)) (hp : eget st.env (m + p) = .bp k 0)
    (hv : (eget st.env s = .bp k off ∧ v = .lit (.pointer (some ⟨g, off, none⟩))) ∨ (eget st.env s = .lit (.pointer (some ⟨g, off, none⟩)) ∧ v = .bp k off)) :
    WkJ m n w0 S0 G st ⟨eput st.env s v, st.boxes, st.rows⟩ := by
  rintro a w hm ⟨S, γ, ρ, hr⟩
  have h1 := hr.env (m + p)
  have e1 : (Act.jn a G).tmps.getD (m + p) undef = G.getD p undef := by
    show (a.tmps ++ G).getD (m + p) undef = _
    rw [Array.getD_eq_getD_getElem?, Array.getD_eq_getD_getElem?, Array.getElem?_append_right (by omega)]
    congr 2; omega
  rw [e1, hG, hp] at h1
  have hγ : γ[k]? = some g := by cases h1 with | bp h => exact h
  refine ⟨S, γ, ρ, hr.below, hr.s0, hr.sw, hr.heap, hr.size, hr.defs, fun t => ?_⟩
  show V w S γ ρ false (eget (eput st.env s v) t) _
  rw [eget_eput]
  split
  · rename_i hst
    subst hst
    have h2 := hr.env s
    rcases hv with ⟨e, rfl⟩ | ⟨e, rfl⟩
    · rw [e] at h2
      generalize (Act.jn a G).tmps.getD s undef = u at h2 ⊢
      cases h2 with
      | bp h =>
        rw [hγ] at h
        cases h
        exact .lit
    · rw [e] at h2
      rw [h2.lit_eq]
      exact .bp hγ
  · exact hr.env t
theorem J.AWp.split {w0 : World} {S0 : Stab} {G : Array Value} {st : ASt} {Q : Exit → ASt → Prop} {id : Nat} {o1 o2 : Oper} {l2 : List Oper} (dd2 : List (List Nat)) (hs1 : smallL m [o1, o2] = true) (hs2 : smallL m l2 = true)
    (h : ∀ (gs : Nat → Option Nat) (K' : ASt → Prop), (∀ j, gs j = gslot (o1 :: o2 :: l2) j) →
      (∀ s1, (∃ s2, WkJ m n w0 S0 G s1 s2 ∧ ∀ (gs : Nat → Option Nat) (K : ASt → Prop), (∀ j, gs j = gslot (o1 :: o2 :: l2) j) → (∀ s, Q .normal s → K s) → aops P n gs l2 dd2 s2 K) → K' s1) → aops P n gs [o1, o2] [[], []] st K') :
    J.AWp P m n ro w0 S0 G (.region id (o1 :: o2 :: l2).toArray false) Q st := by
  intro a w hm hr
  refine wpIn_region_lit (id := id) ?_
  refine wpList_jnR (ro := ro) (G := G) (rest := l2) (Q := fun e a' w' => e = .normal ∧ ∃ s1, (∃ s2, WkJ m n w0 S0 G s1 s2 ∧ aops P n (gslot (o1 :: o2 :: l2)) l2 dd2 s2 (Q .normal)) ∧ Rel w0 S0 n s1 a' w') (fun ⟨_, _, h, _⟩ => by cases h) ?_ (fun c a w _ h => by cases h.1) [o1, o2] a w hm hs1
    (aops_sound (all := o1 :: o2 :: l2) (K := fun s1 => ∃ s2, WkJ m n w0 S0 G s1 s2 ∧ aops P n (gslot (o1 :: o2 :: l2)) l2 dd2 s2 (Q .normal)) (fun s1 a' w' h1 h2 => ⟨rfl, s1, h1, h2⟩) [o1, o2] [[], []] st _ w hr (h _ _ (fun _ => rfl) fun s1 ⟨s2, hw, ha⟩ => ⟨s2, hw, ha _ _ (fun _ => rfl) fun _ h => h⟩))
  rintro a1 w1 hm1 ⟨_, s1, ⟨s2, hwk, ha⟩, hr1⟩
  exact wpList_jnIn (Q := fun e a' w' => e = .normal ∧ ∃ st', Q .normal st' ∧ Rel w0 S0 n st' a' w') (fun ⟨_, _, h, _⟩ => by cases h) (fun e a' w' hm' h' => ⟨hm', by rw [h'.1]; exact h'.2⟩) l2 a1 w1 hm1 hs2
    (aops_sound (fun st' a' w' h1 h2 => ⟨rfl, _, h1, h2⟩) l2 dd2 _ _ w1 (hwk a1 w1 hm1 hr1) ha)
end Go.AL
open Go Go.AL in
attribute [go_sem] P3.aopP P3.pres P3.isW P3.isMv P3.memQ P3.apureB P3.norEv P3.killSt frontE ASt.front
