/-
  The abstract layer, contracts that say less or ask more. Over whatever program; no program in sight.
-/
import Derived.Test.YtfmnjgjfkfppkaaAbsP

set_option linter.unusedSimpArgs false
set_option linter.unusedVariables false
set_option linter.constructorNameAsVariable false

namespace Go.AL
open Go.RowKit
set_option linter.unusedSimpArgs false
set_option linter.unusedVariables false

/-! ### contracts: saying less, asking more -/
theorem ACall.mono {P : Program} {f : FuncId} {args args' : List AV} {r r' : AV} (h : ACall P f args r) (ha : AVleL args' args) (hr : AVle r r') : ACall P f args' r' := by
  obtain ⟨hl, hle⟩ := AVleL_spec ha
  refine ⟨h.1, fun w S us h1 h2 h3 => (h.2 w S us h1 (by omega) fun i a u e1 e2 => ?_).mono fun e w' ⟨u, f1, f2, f3⟩ => ⟨u, f1, f2, hr _ _ _ _ _ _ f3⟩⟩
  have hi : i < args'.length := by rw [hl]; exact (List.getElem?_eq_some_iff.1 e1).1
  exact hle i _ a (List.getElem?_eq_getElem hi) e1 _ _ _ _ _ _ (h3 i _ u (List.getElem?_eq_getElem hi) e2)
theorem ACallN.mono {P : Program} {f : FuncId} {args args' : List AV} {r r' : AV} {news : List (Option Row)} (h : ACallN P f args r news) (ha : AVleL args' args) (hr : AVle r r') : ACallN P f args' r' news := by
  obtain ⟨hl, hle⟩ := AVleL_spec ha
  refine ⟨h.1, fun w S us h1 h2 h3 => (h.2 w S us h1 (by omega) fun i a u e1 e2 => ?_).mono fun e w' ⟨u, S', ρ', f1, f2, f3, f4, f5, f6⟩ => ⟨u, S', ρ', f1, f2, f3, f4, f5, hr _ _ _ _ _ _ f6⟩⟩
  have hi : i < args'.length := by rw [hl]; exact (List.getElem?_eq_some_iff.1 e1).1
  exact hle i _ a (List.getElem?_eq_getElem hi) e1 _ _ _ _ _ _ (h3 i _ u (List.getElem?_eq_getElem hi) e2)
theorem ACallN.toCall {P : Program} {f : FuncId} {args : List AV} {r r' : AV} {news : List (Option Row)} (h : ACallN P f args r news) (hr : AVle (r.bor news) r') : ACall P f args r' := by
  refine ⟨h.1, fun w S us h1 h2 h3 => (h.2 w S us h1 h2 h3).mono fun e w' ⟨u, S', ρ', f1, f2, f3, f4, f5, f6⟩ => ⟨u, f1, f2, ?_⟩⟩
  have e3 := hr _ _ _ _ _ _ (f6.bor f5 true)
  refine (e3.closed true).mono (fun _ _ _ h => h) (fun g hg => ?_) (fun _ _ h => h) (fun _ _ h => h)
  rcases hg with hg | ⟨r', rw_, v', g1, g2, g3⟩
  · exact f4 g hg
  · obtain ⟨_, _, _, cells, f4, _⟩ := f5.row r' rw_ v' g1 g2
    exact .inr (f4.lt g g3)
theorem acallN_roNil {P : Program} {f : FuncId} {sz : Nat} {rest : List AV} {r : AV} {news : List (Option Row)} (h : ∀ (A : Option Addr) (c : Nat), ACallN P f (.lit (.slice A 0 c) :: rest) r news) : ACallN P f (.ro sz [] :: rest) r news := by
  refine ⟨(h none 0).1, fun w S us hS hl hv => ?_⟩
  cases us with
  | nil => simp at hl
  | cons x us =>
    have hx := hv 0 _ x rfl rfl
    have hlit : ∃ A c, x = .slice A 0 c := by
      cases hx with
      | ro U hn hc hm hz hA hc2 => exact ⟨_, _, by rw [← hn]; rfl⟩
    obtain ⟨A, c, rfl⟩ := hlit
    refine (h A c).2 w S (.slice A 0 c :: us) hS hl (fun (i : Nat) (a : AV) (u : Value) e1 e2 => ?_)
    cases i with
    | zero =>
      simp only [List.getElem?_cons_zero, Option.some.injEq] at e1 e2
      subst e1; subst e2; exact V.lit
    | succ i => exact hv (i + 1) a u (by simpa using e1) (by simpa using e2)
theorem AVleL.cons {a b : AV} {as bs : List AV} (h : AVle a b) (k : AVleL as bs) : AVleL (a :: as) (b :: bs) := ⟨h, k⟩
theorem AVleL.nil : AVleL [] [] := trivial
theorem AVleL.refl : ∀ (as : List AV), AVleL as as
  | [] => trivial
  | a :: as => ⟨AVle.refl a, AVleL.refl as⟩
end Go.AL

namespace Go.AL
open Go.RowKit
set_option linter.unusedSimpArgs false
set_option linter.unusedVariables false
variable {P : Program} {n : Nat}

/-! ### drawn regions with calls whose results are the caller's own -/
/-- a call of one of these functions -/
def isCN (nf : List Nat) : Op → Bool
  | .call ⟨.value (.func g), _, _⟩ => keepR nf g
  | _ => false
def notRp : AV → Prop
  | .rp _ _ _ _ => False
  | _ => True
/-- nothing that is looked at lies in a row -/
def rowlow (ev : Operand → AV) : Op → Prop
  | .load _ a => notRp (un (ev a))
  | .call ⟨.value f, args, _⟩ => lowEv 0 0 ev (Op.call ⟨.value f, args, #[]⟩).operands.toList
  | _ => True
theorem rowlow_congr {ev ev' : Operand → AV} {op : Op} (h : ∀ x ∈ op.operands.toList, ev' x = ev x) (hl : rowlow ev op) : rowlow ev' op := by
  unfold rowlow at *
  split at hl
  · rename_i t a
    rw [h a (by simp [Op.operands])]; exact hl
  · rename_i f args ts
    exact lowEv_congr h hl
  · trivial
theorem stepV_rows {B : List (List AV)} {R R' : List (Option Row)} {all : List Oper} {o : Oper} {f : Nat → AV} {v : AV} (h : rowlow (evF f) o.op) (hs : stepV P n B R all o f v) : stepV P n B R' all o f v := by
  by_cases hN : memN o.op = true
  · exact stepV_memN hN hs
  obtain ⟨dst, op, ty, pos, after, guard⟩ := o
  simp only at h hN
  cases op <;> first | (exact absurd rfl hN) | skip
  case load t x =>
    have hx : ∀ f' : Nat → AV, notRp (un (evF f' x)) → cellsAt B R' (un (evF f' x)) = cellsAt B R (un (evF f' x)) := fun f' hr => by
      generalize un (evF f' x) = y at hr ⊢
      cases y <;> first | rfl | exact hr.elim
    have key : ∀ {c : Bool} {K : AV → Prop}, apureD P B R (evF f) c (.load t x) K → apureD P B R' (evF f) c (.load t x) K := by
      intro c K hp
      rcases hp with h1 | h1 | ⟨h1, h2⟩
      · exact .inl h1
      · refine .inr (.inl ?_)
        unfold apureE at *
        simp only at *
        simp only [ares] at *
        rw [hx f h]; exact h1
      · exact .inr (.inr ⟨h1, h2⟩)
    obtain ⟨h1, h2⟩ := hs
    refine ⟨h1, ?_⟩
    cases guard with
    | none => exact key h2
    | some jw =>
      obtain ⟨j, want⟩ := jw
      obtain ⟨g, c, y, e1, e2, e3, e4⟩ := h2
      exact ⟨g, c, y, e1, e2, key e3, e4⟩
  case call c =>
    obtain ⟨cal, args, ts⟩ := c
    cases cal with
    | value f' => exact stepV_ro (B' := B) (R' := R') h hs
    | _ => exact absurd rfl hN
  all_goals
    obtain ⟨h1, h2⟩ := hs
    refine ⟨h1, ?_⟩
    have key : ∀ {c : Bool} {op : Op} {K : AV → Prop}, (isSt op = true ∨ isAl op = true) → apureD P B R (evF f) c op K → apureD P B R' (evF f) c op K := by
      intro c op K ho hp
      rcases hp with h1 | h1 | ⟨h1, h2⟩
      · exact .inl h1
      · refine .inr (.inl ?_)
        cases op <;> simp [isSt, isAl] at ho
        all_goals
          unfold apureE at *
          simp only at *
          simp only [ares] at *
          exact h1
      · exact .inr (.inr ⟨h1, h2⟩)
    cases guard with
    | none => exact key (by first | exact .inl rfl | exact .inr rfl) h2
    | some jw =>
      obtain ⟨j, want⟩ := jw
      obtain ⟨g, c, y, e1, e2, e3, e4⟩ := h2
      exact ⟨g, c, y, e1, e2, key (by first | exact .inl rfl | exact .inr rfl) e3, e4⟩

def cN (P : Program) (B : List (List AV)) (R : List (Option Row)) (ev : Operand → AV) (op : Op) (K : AV → List (Option Row) → Prop) : Prop :=
  match op with
  | .call ⟨.value f, args, _⟩ =>
    match fnOf (un (ev f)) with
    | some g => uok true (ev f) ∧ uoks true ev args.toList ∧ ∃ r news, ACallN P g.1 ((args.toList.map fun x => (un (ev x)).lend B R) ++ g.2.map (AV.lend B R)) r news ∧
        (noOwnL (args.toList.map fun x => un (ev x)) && noOwnL g.2) = true ∧ lowEv 0 0 ev args.toList ∧ g.2 = [] ∧ K (r.shift R.length) news
    | none => False
  | _ => False
theorem cN_congr {B : List (List AV)} {R : List (Option Row)} {ev ev' : Operand → AV} {op : Op} {K : AV → List (Option Row) → Prop} (h : ∀ x ∈ op.operands.toList, ev' x = ev x) (hp : cN P B R ev op K) : cN P B R ev' op K := by
  unfold cN at hp ⊢
  split at hp
  · rename_i f args ts
    have hf : ev' f = ev f := h f (by simp [Op.operands, Call.operands])
    have ha : ∀ x ∈ args.toList, ev' x = ev x := fun x hx => h x (by simp [Op.operands, Call.operands]; exact .inr (by simpa using hx))
    have e1 : (args.toList.map fun x => (un (ev' x)).lend B R) = args.toList.map fun x => (un (ev x)).lend B R := List.map_congr_left fun x hx => by rw [ha x hx]
    have e2 : (args.toList.map fun x => un (ev' x)) = args.toList.map fun x => un (ev x) := List.map_congr_left fun x hx => by rw [ha x hx]
    rw [hf, e1, e2]
    split at hp
    · obtain ⟨h1, h2, r, news, h3, h4, h5, h6, h7⟩ := hp
      exact ⟨h1, uoks_congr (fun x hx => (ha x hx).symm) h2, r, news, h3, h4, lowEv_congr ha h5, h6, h7⟩
    · exact hp.elim
  · exact hp.elim

def okNW (nf : List Nat) (z : Op) : Bool := !isCN nf z && !isSt z && !isAl z
def okPairR (nf : List Nat) (x y : Op) : Bool := (isCN nf x && okNW nf y) || (okNW nf x && isCN nf y) || (!isCN nf x && !isCN nf y && okPair false x y)

def stepR (P : Program) (n : Nat) (nf : List Nat) (all : List Oper) (o : Oper) (s s' : DSt) : Prop :=
  (isCN nf o.op = false ∧ rowlow (evF s.f) o.op ∧ stepM P n (false, false) all o s s') ∨
  (isCN nf o.op = true ∧ o.guard = none ∧ dok n o.dst ∧ cN P s.B s.R (evF s.f) o.op fun v news => s' = ⟨updO s.f o.dst v, s.B, s.R ++ news⟩)

theorem stepM_nw {al : Bool × Bool} {all : List Oper} {o : Oper} {s s' : DSt} (h : stepM P n al all o s s') (h1 : isSt o.op = false) (h2 : isAl o.op = false) : ∃ v, stepV P n s.B s.R all o s.f v ∧ s' = ⟨updO s.f o.dst v, s.B, s.R⟩ := by
  rcases h with ⟨_, _, v, hv, e⟩ | ⟨_, _, hw, _⟩
  · exact ⟨v, hv, e⟩
  · rcases wres_kind hw with hk | hk
    · rw [h1] at hk; cases hk
    · rw [h2] at hk; cases hk
theorem stepM_f {al : Bool × Bool} {all : List Oper} {o : Oper} {s s' : DSt} (h : stepM P n al all o s s') : ∃ v, s'.f = updO s.f o.dst v := by
  rcases h with ⟨_, _, v, hv, rfl⟩ | ⟨_, _, hw, rfl⟩
  · exact ⟨v, rfl⟩
  · exact ⟨_, rfl⟩
theorem stepR_comm {nf : List Nat} {all : List Oper} {oi oj : Oper} {s s1 s2 : DSt} (hap : oi.apart all.toArray oj = true) (hok : okPairR nf oi.op oj.op = true) (hal : isAl oj.op = true → False)
    (h1 : stepR P n nf all oi s s1) (h2 : stepR P n nf all oj s1 s2) : ∃ s', stepR P n nf all oj s s' ∧ stepR P n nf all oi s' s2 := by
  obtain ⟨a1, a2, a3⟩ := Oper.apart_spec hap
  rcases h1 with ⟨ci, li, hi⟩ | ⟨ci, gi, di, hi⟩
  · rcases h2 with ⟨cj, lj, hj⟩ | ⟨cj, gj, dj, hj⟩
    · have hokp : okPair false oi.op oj.op = true := by
        simp only [okPairR, ci, cj] at hok
        simpa using hok
      obtain ⟨s', e1, e2⟩ := stepM_comm (al := (false, false)) hap hokp (fun h => (hal h).elim) hi hj
      obtain ⟨v1, f1⟩ := stepM_f hi
      obtain ⟨v2, f2⟩ := stepM_f e1
      refine ⟨s', .inl ⟨cj, ?_, e1⟩, .inl ⟨ci, ?_, e2⟩⟩
      · rw [f1] at lj
        exact rowlow_congr (fun x hx => (evF_upd a1 x hx).symm) lj
      · rw [f2]
        exact rowlow_congr (evF_upd a3) li
    · have hz : isSt oi.op = false ∧ isAl oi.op = false := by
        simp only [okPairR, ci, cj, okNW] at hok
        simpa using hok
      obtain ⟨v, hv, rfl⟩ := stepM_nw hi hz.1 hz.2
      obtain ⟨f, B, R⟩ := s
      simp only at *
      have hj2 := cN_congr (fun x hx => (evF_upd a1 x hx).symm) hj
      have hexp : ∃ w news, cN P B R (evF f) oj.op (fun v news' => v = w ∧ news' = news) ∧ s2 = ⟨updO (updO f oi.dst v) oj.dst w, B, R ++ news⟩ := by
        unfold cN at hj2 ⊢
        split at hj2
        · split at hj2
          · rename_i g hg
            obtain ⟨q1, q2, r, news, q3, q4, q5, q6, q7⟩ := hj2
            exact ⟨_, news, by simp only [hg]; exact ⟨q1, q2, r, news, q3, q4, q5, q6, rfl, rfl⟩, q7⟩
          · exact hj2.elim
        · exact hj2.elim
      obtain ⟨w, news, hw, rfl⟩ := hexp
      refine ⟨⟨updO f oj.dst w, B, R ++ news⟩, .inr ⟨cj, gj, dj, ?_⟩, .inl ⟨ci, rowlow_congr (evF_upd a3) li, .inl ⟨hz, ⟨fun h => absurd h Bool.false_ne_true, fun h => absurd h Bool.false_ne_true⟩, v, ?_, ?_⟩⟩⟩
      · unfold cN at hw ⊢
        split at hw
        · split at hw
          · rename_i g hg
            obtain ⟨q1, q2, r, news', q3, q4, q5, q6, e1, e2⟩ := hw
            simp only [hg]
            exact ⟨q1, q2, r, news', q3, q4, q5, q6, by rw [e1, e2]⟩
          · exact hw.elim
        · exact hw.elim
      · exact stepV_rows (rowlow_congr (evF_upd a3) li) (stepV_put a3 hv)
      · simp only
        rw [updO_comm f v w a2]
  · rcases h2 with ⟨cj, lj, hj⟩ | ⟨cj, gj, dj, hj⟩
    · have hz : isSt oj.op = false ∧ isAl oj.op = false := by
        simp only [okPairR, ci, cj, okNW] at hok
        simpa using hok
      obtain ⟨f, B, R⟩ := s
      simp only at *
      have hexp : ∃ w news, cN P B R (evF f) oi.op (fun v news' => v = w ∧ news' = news) ∧ s1 = ⟨updO f oi.dst w, B, R ++ news⟩ := by
        unfold cN at hi ⊢
        split at hi
        · split at hi
          · rename_i g hg
            obtain ⟨q1, q2, r, news, q3, q4, q5, q6, q7⟩ := hi
            exact ⟨_, news, by simp only [hg]; exact ⟨q1, q2, r, news, q3, q4, q5, q6, rfl, rfl⟩, q7⟩
          · exact hi.elim
        · exact hi.elim
      obtain ⟨w, news, hw, rfl⟩ := hexp
      obtain ⟨u, hu, rfl⟩ := stepM_nw hj hz.1 hz.2
      simp only at *
      have lj2 := rowlow_congr (fun x hx => (evF_upd a1 x hx).symm) lj
      refine ⟨⟨updO f oj.dst u, B, R⟩, .inl ⟨cj, lj2, .inl ⟨hz, ⟨fun h => absurd h Bool.false_ne_true, fun h => absurd h Bool.false_ne_true⟩, u, stepV_rows lj2 (stepV_back a1 hu), rfl⟩⟩, .inr ⟨ci, gi, di, ?_⟩⟩
      refine cN_congr (ev := evF f) (evF_upd a3) ?_
      unfold cN at hw ⊢
      split at hw
      · split at hw
        · rename_i g hg
          obtain ⟨q1, q2, r, news', q3, q4, q5, q6, e1, e2⟩ := hw
          simp only [hg]
          exact ⟨q1, q2, r, news', q3, q4, q5, q6, by rw [e1, e2, updO_comm f w u a2]⟩
        · exact hw.elim
      · exact hw.elim
    · simp [okPairR, ci, cj, okNW] at hok

def memBR (nf : List Nat) (ops : Array Oper) : Bool :=
  ((List.range ops.size).all fun i => match ops[i]? with
    | some oi => !isAl oi.op
    | none => true) &&
  (List.range ops.size).all fun i => (List.range ops.size).all fun j => match ops[i]?, ops[j]? with
    | some oi, some oj => Nat.ble j i || reachB ops i ops.size j || okPairR nf oi.op oj.op
    | _, _ => true
theorem memBR_al {nf : List Nat} {ops : Array Oper} (h : memBR nf ops = true) {i : Nat} {oi : Oper} (hi : ops[i]? = some oi) (ha : isAl oi.op = true) : False := by
  simp only [memBR, Bool.and_eq_true, List.all_eq_true, List.mem_range] at h
  have := h.1 i (Array.getElem?_eq_some_iff.1 hi).1
  rw [hi] at this
  simp [ha] at this
theorem memBR_pair {nf : List Nat} {ops : Array Oper} (h : memBR nf ops = true) {i j : Nat} {oi oj : Oper} (hi : ops[i]? = some oi) (hj : ops[j]? = some oj) (hij : i < j)
    (hno : reachB ops i ops.size j ≠ true) : okPairR nf oi.op oj.op = true := by
  simp only [memBR, Bool.and_eq_true, List.all_eq_true, List.mem_range] at h
  have := h.2 i (Array.getElem?_eq_some_iff.1 hi).1 j (Array.getElem?_eq_some_iff.1 hj).1
  rw [hi, hj] at this
  simp only [Bool.or_eq_true] at this
  rcases this with (h1 | h1) | h1
  · exact absurd (Nat.le_of_ble_eq_true h1) (by omega)
  · exact absurd h1 hno
  · exact h1
def qR (P : Program) (n : Nat) (nf : List Nat) (all : List Oper) (i : Nat) (K : DSt → Prop) (s : DSt) : Prop :=
  match all[i]? with
  | none => K s
  | some o => ∃ s', stepR P n nf all o s s' ∧ K s'
def wpAnyR (P : Program) (n : Nat) (nf : List Nat) (all : List Oper) (Q : DSt → Prop) : Nat → Array Bool → DSt → Prop
  | 0, listed, s => Region.ready .any all.toArray listed = [] ∧ Q s
  | fuel + 1, listed, s =>
    (Region.ready .any all.toArray listed = [] → Q s) ∧
    ∀ i ∈ Region.ready .any all.toArray listed, qR P n nf all i (wpAnyR P n nf all Q fuel (listed.setIfInBounds i true)) s
theorem wpAnyR_first {nf : List Nat} {all : List Oper} {Q : DSt → Prop} {i : Nat} {oi : Oper} (hi : all[i]? = some oi) (hal : ∀ (j : Nat) (o : Oper), all[j]? = some o → isAl o.op = true → False) :
    ∀ (fuel : Nat) (listed : Array Bool) (s s1 : DSt), Closed all.toArray listed →
      (∀ j oj, all.toArray[j]? = some oj → j ≠ i → listed.getD j true = false → reachB all.toArray i all.toArray.size j ≠ true → (∀ e ∈ oj.after, Region.binds .any e = true → e.on ≠ i) → oi.apart all.toArray oj = true ∧ okPairR nf oi.op oj.op = true) →
      i ∈ Region.ready .any all.toArray listed → stepR P n nf all oi s s1 →
      wpAnyR P n nf all Q fuel (listed.setIfInBounds i true) s1 → wpAnyR P n nf all Q (fuel + 1) listed s := by
  have take : ∀ {K : DSt → Prop} {s s1 : DSt}, stepR P n nf all oi s s1 → K s1 → qR P n nf all i K s := by
    intro K s s1 hy h
    unfold qR
    simp only [hi]
    exact ⟨s1, hy, h⟩
  intro fuel
  induction fuel with
  | zero =>
    intro listed s s1 hc _ hr hy H
    refine ⟨fun h => (by rw [h] at hr; cases hr), fun j hj => ?_⟩
    by_cases hji : j = i
    · subst hji; exact take hy H
    · have := ready_mono hj hji
      rw [H.1] at this
      cases this
  | succ fuel ih =>
    intro listed s s1 hc hfree hr hy H
    refine ⟨fun h => (by rw [h] at hr; cases hr), fun j hj => ?_⟩
    by_cases hji : j = i
    · subst hji; exact take hy H
    · have h1 := H.2 j (ready_mono hj hji)
      obtain ⟨hjun, oj, hoj, hall⟩ := mem_ready.1 hj
      have hnot : ∀ e ∈ oj.after, Region.binds .any e = true → e.on ≠ i := fun e he hb heq => by
        have h1 := hall e he hb
        rw [heq] at h1
        exact getD_tf (mem_ready.1 hr).1 h1
      have hnr : reachB all.toArray i all.toArray.size j ≠ true := fun h => getD_tf (mem_ready.1 hr).1 (reach_listed hc _ j oj hoj hall h)
      obtain ⟨hap, hok⟩ := hfree j oj hoj hji hjun hnr hnot
      have hoj' : all[j]? = some oj := by simpa using hoj
      unfold qR at h1 ⊢
      simp only [hoj'] at h1 ⊢
      obtain ⟨s2, hs2, hW⟩ := h1
      obtain ⟨s', hs', hs2'⟩ := stepR_comm hap hok (hal j oj hoj') hy hs2
      have hfree' : ∀ k ok, all.toArray[k]? = some ok → k ≠ i → (listed.setIfInBounds j true).getD k true = false → reachB all.toArray i all.toArray.size k ≠ true →
          (∀ e ∈ ok.after, Region.binds .any e = true → e.on ≠ i) → oi.apart all.toArray ok = true ∧ okPairR nf oi.op ok.op = true := fun k ok hk hki hun hrc hno => by
        refine hfree k ok hk hki ?_ hrc hno
        by_cases hjk : j = k
        · subst hjk; exact hjun
        · rw [getD_set_ne true hjk] at hun; exact hun
      refine ⟨s', hs', ih (listed.setIfInBounds j true) s' s2 (closed_set hc hj) hfree' (ready_mono hr (Ne.symm hji)) hs2' ?_⟩
      rw [Array.setIfInBounds_comm _ _ hji]
      exact hW
def wpTextR (P : Program) (n : Nat) (nf : List Nat) (all : List Oper) (Q : DSt → Prop) : List Oper → DSt → Prop
  | [], s => Q s
  | o :: l, s => ∃ s', stepR P n nf all o s s' ∧ wpTextR P n nf all Q l s'
theorem wpAnyR_lex {nf : List Nat} {all : List Oper} {Q : DSt → Prop} (hm : memBR nf all.toArray = true) : ∀ (l : List Oper) (k : Nat) (listed : Array Bool) (s : DSt), (∀ j : Nat, l[j]? = all[k + j]?) → Closed all.toArray listed →
    (∀ j, j < k → listed.getD j true = true) →
    Region.lexFrom .any all.toArray l.length k listed = true → wpTextR P n nf all Q l s → wpAnyR P n nf all Q l.length listed s
  | [], _, _, _, _, _, _, hB, h => ⟨by simpa [Region.lexFrom] using hB, h⟩
  | o :: l, k, listed, s, hl, hc, hlt, hB, h => by
    have h0 : all[k]? = some o := by simpa using (hl 0).symm
    simp only [List.length_cons, Region.lexFrom, Bool.and_eq_true] at hB
    obtain ⟨⟨hr, hf⟩, hB'⟩ := hB
    obtain ⟨s', hy, hK⟩ := h
    have h0' : all.toArray[k]? = some o := by simpa using h0
    refine wpAnyR_first h0 (fun j oj hj ha => memBR_al hm (by simpa using hj) ha) l.length listed s s' hc (fun j oj hj hne hun hrc hno => ⟨Region.free_spec h0' hf j oj hj hne hun hno, ?_⟩) (by simpa using hr) hy
      (wpAnyR_lex hm l (k + 1) _ _ (fun j => by have := hl (j + 1); simpa [Nat.add_assoc, Nat.add_comm 1 j] using this) (closed_set hc (by simpa using hr)) (fun j hj => ?_) hB' hK)
    · have hjk : k < j := by
        rcases Nat.lt_trichotomy j k with h | h | h
        · rw [hlt j h] at hun; cases hun
        · exact absurd h hne
        · exact h
      exact memBR_pair hm h0' hj hjk hrc
    · by_cases hjk : k = j
      · subst hjk
        simp only [Array.getD_eq_getD_getElem?, Array.getElem?_setIfInBounds]
        simp
        split <;> simp
      · rw [getD_set_ne true hjk]; exact hlt j (by omega)

theorem wpAny_of_R {w0 : World} {S0 : Nat → Prop} {nf : List Nat} {all : List Oper} {Q : DSt → Prop} {Q' : Exit → Act → World → Prop}
    (hQ : ∀ (s : DSt) a w S γ ρ, RelF w0 S0 n s.f s.B s.R a w S γ ρ → Q s → Q' .normal a w) : ∀ (fuel : Nat) (listed : Array Bool) (s : DSt) (a : Act) (w : World) (S : Nat → Prop) (γ : List Nat) (ρ : List Value),
    RelF w0 S0 n s.f s.B s.R a w S γ ρ → wpAnyR P n nf all Q fuel listed s → wpAny P .any all.toArray Q' fuel listed a w
  | 0, _, s, a, w, S, γ, ρ, hr, h => ⟨h.1, hQ _ _ _ _ _ _ hr h.2⟩
  | fuel + 1, listed, s, a, w, S, γ, ρ, hr, h => ⟨fun h0 => hQ _ _ _ _ _ _ hr (h.1 h0), fun i hi => by
    have h1 := h.2 i hi
    unfold qR at h1
    unfold wpOp
    simp only [List.getElem?_toArray]
    cases ho : all[i]? with
    | none => rw [ho] at h1; simp only at h1 ⊢; exact wpAny_of_R hQ fuel _ s a w S γ ρ hr h1
    | some o =>
      rw [ho] at h1
      simp only at h1 ⊢
      obtain ⟨s', hst, hK⟩ := h1
      obtain ⟨f, B, R⟩ := s
      simp only at hr
      obtain ⟨L, hL⟩ : ∃ L : List Nat, L = (o.op.operands.toList.filterMap fun | .tmp t => some t | _ => none) ++ List.range n := ⟨_, rfl⟩
      have hev : ∀ x ∈ o.op.operands.toList, evA (L.map fun s => (s, f s)) x = evF f x := fun x hx => by
        cases x <;> try rfl
        rename_i t
        simp only [evF, evA]
        rw [eget_map, if_pos]
        rw [hL]
        exact List.mem_append_left _ (List.mem_filterMap.2 ⟨.tmp t, hx, rfl⟩)
      have hrel : RelAt w0 S0 n ⟨L.map fun s => (s, f s), B, R⟩ a w S γ ρ :=
        ⟨hr.rel.below, hr.rel.s0, hr.rel.sw, hr.rel.heap, hr.rel.size, hr.rel.defs, fun s => by
          simp only [eget_map]
          split
          · exact hr.env s
          · exact .any⟩
      rcases hst with ⟨_, _, hm⟩ | ⟨_, hg, hd, hc⟩
      · rcases hm with ⟨_, _, v, ⟨hd, hs⟩, rfl⟩ | ⟨hg, hd, hw, rfl⟩
        · have hd := dok_spec hd
          cases hg : o.guard with
          | none =>
            rw [hg] at hs
            have hw : Region.wanted o (yielded all.toArray a.tmps) = true := by simp [Region.wanted, hg]
            rw [if_pos hw]
            left
            obtain ⟨v', rfl, hn⟩ := apureD_sound hr.rel.heap hr.rel.sw hr.ev hs
            exact hn _ _ fun u w' S' hb hS hS' hv => wpAny_of_R hQ fuel _ ⟨_, _, _⟩ _ w' S' γ ρ ((hr.later hb hS hS').put hd hv) hK
          | some jw =>
            obtain ⟨j, want⟩ := jw
            rw [hg] at hs
            obtain ⟨g, c, x, e1, e2, e3, rfl⟩ := hs
            have hw := wanted_iff hg e1 e2 (hr.env g)
            cases c
            · rw [if_neg (by rw [hw]; simp)]
              exact wpAny_of_R hQ fuel _ ⟨_, _, _⟩ _ w S γ ρ (hr.put hd (.opt (fun h => by cases h) (fun _ => rfl))) hK
            · rw [if_pos hw]
              left
              obtain ⟨v', rfl, hn⟩ := apureD_sound hr.rel.heap hr.rel.sw hr.ev e3
              exact hn _ _ fun u w' S' hb hS hS' hv => wpAny_of_R hQ fuel _ ⟨_, _, _⟩ _ w' S' γ ρ ((hr.later hb hS hS').put hd (.opt (fun _ => hv) (fun h => by cases h))) hK
        · have hd := dok_spec hd
          have hwt : Region.wanted o (yielded all.toArray a.tmps) = true := by simp [Region.wanted, hg]
          rw [if_pos hwt]
          left
          simp only at hw hK
          have hc : wres P B R (evF f) o.op = wres P B R (evA (L.map fun s => (s, f s))) o.op := wres_congr fun x hx => (hev x hx).symm
          rw [hc] at hw hK
          obtain ⟨v, st', ⟨e1, e2⟩, hn⟩ := astep_sound hrel (o := o) (wres_astep hw)
          refine hn _ _ fun u w' S' γ' ρ' hr2 hv => ?_
          rw [e2] at hr2
          rw [e1] at hv
          refine wpAny_of_R hQ fuel _ ⟨_, _, _⟩ _ w' S' γ' ρ' (RelF.put ⟨⟨hr2.below, hr2.s0, hr2.sw, hr2.heap, hr2.size, hr2.defs, fun s => .any⟩, fun s => ?_⟩ hd hv) hK
          have he := hr2.env s
          simp only [eget_map] at he
          by_cases hs : s ∈ L
          · rw [if_pos hs] at he; exact he
          · have hsn : ¬ s < n := fun h => hs (by rw [hL]; exact List.mem_append_right _ (List.mem_range.2 h))
            have hu : a.tmps.getD s Go.undef = Go.undef := by
              have : a.tmps.size ≤ s := by rw [hr.rel.size]; omega
              simp [Array.getD_eq_getD_getElem?, Array.getElem?_eq_none this]
            exact (hr.env s).undef hu
      · -- a call whose results are the caller's own
        have hwt : Region.wanted o (yielded all.toArray a.tmps) = true := by simp [Region.wanted, hg]
        rw [if_pos hwt]
        left
        have hc2 := cN_congr hev hc
        clear hc
        obtain ⟨dst, op, ty, pos, after, guard⟩ := o
        simp only at hc2 hg hd hK
        subst hg
        unfold cN at hc2
        split at hc2
        · rename_i fo args tys _
          split at hc2
          · rename_i g hfn
            obtain ⟨huf, hu, r, news, ⟨hca, hcall⟩, hno, _, _, rfl⟩ := hc2
            obtain ⟨cu, hrun, hcl, hcv⟩ := call_run hrel huf hfn hca dst args tys ty pos after
            obtain ⟨hno1, hno2⟩ := Bool.and_eq_true_iff.1 hno
            unfold Oper.wp
            rw [hrun, Oper.upon_enter]
            have := hcall w S (args.toList.map a.eval ++ cu) hrel.sw (by simp [hcl]) (args_get hrel.ev hu hcv (AV.lend B R) (fun a => a.noOwn = true) (fun y hy => noOwnL_mem hno1 _ (List.mem_map.2 ⟨y, hy, rfl⟩)) (fun y hy => noOwnL_mem hno2 y hy)
              fun a u hn hv => (hv.noOwn_lend B R hn true).closed true)
            refine this.mono fun e w' ⟨u, S', ρ', he, hb, hS, hS', hR, hv⟩ => ?_
            subst he
            have hrl := Rel.calledN (st := ⟨[], B, R⟩) hr.rel hb hS hS' hR
            refine wpAny_of_R hQ fuel _ ⟨_, _, _⟩ _ w' S' γ (ρ ++ ρ') (RelF.put ⟨⟨hrl.below, hrl.s0, hrl.sw, hrl.heap, hrl.size, hrl.defs, fun s => .any⟩, fun s => ?_⟩ (dok_spec hd) ?_) hK
            · have h2 := hr.later hb hS hS'
              exact (h2.env s).mono (fun p _ x hx => hx) (fun _ h => h) (fun _ _ h => h) (fun k g hg => by
                rw [List.getElem?_append_left (List.getElem?_eq_some_iff.1 hg).1]; exact hg)
            · rw [← hrel.heap.nr]
              exact hv.shift
          · exact hc2.elim
        · exact hc2.elim⟩

/-- one operation of such a region -/
def aopR (P : Program) (n : Nat) (gs : Nat → Option Nat) (nf : List Nat) (o : Oper) (st : ASt) (K : ASt → Prop) : Prop :=
  match isCN nf o.op with
  | true => o.guard = none ∧ dok n o.dst ∧ cN P st.boxes st.rows (evA st.env) o.op fun v news => K ⟨(st.put o.dst v).env, st.boxes, st.rows ++ news⟩
  | false => rowlow (evA st.env) o.op ∧ aopM P n gs (false, false) o st K
def aopsR (P : Program) (n : Nat) (gs : Nat → Option Nat) (nf : List Nat) : List Oper → ASt → (ASt → Prop) → Prop
  | [], st, K => K st
  | o :: os, st, K => aopR P n gs nf o st fun st' => aopsR P n gs nf os st' K
theorem aopsR_cons {gs : Nat → Option Nat} {nf : List Nat} {o : Oper} {os : List Oper} {st : ASt} {K : ASt → Prop} (h : ∀ K' : ASt → Prop, (∀ s, aopsR P n gs nf os s K → K' s) → aopR P n gs nf o st K') : aopsR P n gs nf (o :: os) st K :=
  h _ fun _ h => h
theorem aopsR_nil {gs : Nat → Option Nat} {nf : List Nat} {st : ASt} {K : ASt → Prop} (h : K st) : aopsR P n gs nf [] st K := h
theorem aopR_step {nf : List Nat} {all : List Oper} {o : Oper} {st : ASt} {K : ASt → Prop} (h : aopR P n (gslot all) nf o st K) :
    ∃ st' : ASt, K st' ∧ stepR P n nf all o ⟨eget st.env, st.boxes, st.rows⟩ ⟨eget st'.env, st'.boxes, st'.rows⟩ := by
  unfold aopR at h
  split at h
  · rename_i hc
    obtain ⟨h1, h2, h3⟩ := h
    unfold cN at h3
    split at h3
    · rename_i f args ts hop
      split at h3
      · rename_i g hg
        obtain ⟨q1, q2, r, news, q3, q4, q5, q6, q7⟩ := h3
        refine ⟨_, q7, .inr ⟨hc, h1, h2, ?_⟩⟩
        rw [hop]
        unfold cN
        simp only [← evA_evF, hg]
        refine ⟨q1, q2, r, news, q3, q4, q5, q6, ?_⟩
        rw [eget_put]
      · exact h3.elim
    · exact h3.elim
  · rename_i hc
    obtain ⟨st', h1, h2⟩ := aopM_step h.2
    exact ⟨st', h1, .inl ⟨hc, by simp only [← evA_evF]; exact h.1, h2⟩⟩
theorem aopsR_text {nf : List Nat} {all : List Oper} {K : ASt → Prop} : ∀ (l : List Oper) (st : ASt), aopsR P n (gslot all) nf l st K →
    wpTextR P n nf all (fun s => ∃ st', K st' ∧ s = ⟨eget st'.env, st'.boxes, st'.rows⟩) l ⟨eget st.env, st.boxes, st.rows⟩
  | [], st, h => ⟨st, h, rfl⟩
  | o :: l, st, h => by
    obtain ⟨st', h1, h2⟩ := aopR_step h
    exact ⟨_, h2, aopsR_text l st' h1⟩
theorem AWp.regionR {id : Nat} {l : List Oper} {Q : Exit → ASt → Prop} {st : ASt} (F : List Nat) (nf : List Nat) (hm : P.follows .mixedOrders = true) (hB : Region.lexB .any l.toArray = true) (hM : memBR nf l.toArray = true)
    (h : aopsR P n (gslot l) nf l st fun s => Q .normal (s.prune F)) : AWp P n (.region id l.toArray true) Q st := fun w0 S0 a w ⟨S, γ, ρ, hr⟩ => by
  simp only [Region.lexB, Bool.and_eq_true] at hB
  refine wp_region_any hm ?_
  have hb : Below w.heap.size w { w with drawn := w.drawn + 1 } := ⟨rfl, rfl, rfl, Nat.le_refl _, fun _ _ => rfl⟩
  have hr2 : RelF w0 S0 n (eget st.env) st.boxes st.rows a { w with drawn := w.drawn + 1 } S γ ρ := by
    have := hr.later hb (fun _ h => h) (fun _ h => .inl h)
    exact ⟨⟨this.below, this.s0, this.sw, this.heap, this.size, this.defs, fun s => .any⟩, this.env⟩
  have ht := wpAnyR_lex hM l 0 (Array.replicate l.toArray.size false) ⟨eget st.env, st.boxes, st.rows⟩ (by simp) (closed_none _ _) (fun j hj => absurd hj (Nat.not_lt_zero j)) (by simpa using hB.2) (aopsR_text l st h)
  have hQ : ∀ (s : DSt) a' w' S' γ' ρ', RelF w0 S0 n s.f s.B s.R a' w' S' γ' ρ' → (∃ st' : ASt, Q .normal (st'.prune F) ∧ s = ⟨eget st'.env, st'.boxes, st'.rows⟩) →
      ∃ st' : ASt, Q .normal st' ∧ Rel w0 S0 n st' a' w' := fun s a' w' S' γ' ρ' hf ⟨st', hK, e⟩ => by
    subst e
    have hrel : RelAt w0 S0 n st' a' w' S' γ' ρ' := ⟨hf.rel.below, hf.rel.s0, hf.rel.sw, hf.rel.heap, hf.rel.size, hf.rel.defs, hf.env⟩
    exact ⟨_, hK, Rel.prune ⟨S', γ', ρ', hrel⟩ F⟩
  have := wpAny_of_R (P := P) (Q' := fun e a' w' => ∃ st', Q e st' ∧ Rel w0 S0 n st' a' w') hQ l.length _ _ a _ S γ ρ hr2 ht
  simpa using this
theorem AWp.regR {id : Nat} {l : List Oper} {Q : Exit → ASt → Prop} {st : ASt} (F : Nat → List Nat) (nf : List Nat) (hm : P.follows .mixedOrders = true) (hB : Region.lexB .any l.toArray = true) (hM : memBR nf l.toArray = true)
    (h : ∀ (gs : Nat → Option Nat) (K : ASt → Prop), (∀ j, gs j = gslot l j) → (∀ s, Q .normal (s.prune (F id)) → K s) → aopsR P n gs nf l st K) : AWp P n (.region id l.toArray true) Q st :=
  AWp.regionR (F id) nf hm hB hM (h (gslot l) (fun s => Q .normal (s.prune (F id))) (fun _ => rfl) fun s h => h)
theorem AWp.sregR {id : Nat} {l : List Oper} {y : Code} {Q : Exit → ASt → Prop} {st : ASt} (F : Nat → List Nat) (nf : List Nat) (hm : P.follows .mixedOrders = true) (hB : Region.lexB .any l.toArray = true) (hM : memBR nf l.toArray = true)
    (h : ∀ (gs : Nat → Option Nat) (K : ASt → Prop), (∀ j, gs j = gslot l j) → (∀ s, AWp P n y Q (s.prune (F id)) → K s) → aopsR P n gs nf l st K) : AWp P n (.seq (.region id l.toArray true) y) Q st :=
  AWp.seq (AWp.regionR (F id) nf hm hB hM (h (gslot l) (fun s => AWp P n y Q (s.prune (F id))) (fun _ => rfl) fun s h => h))
end Go.AL

open Go Go.AL in
attribute [go_sem] aopR cN isCN rowlow notRp
