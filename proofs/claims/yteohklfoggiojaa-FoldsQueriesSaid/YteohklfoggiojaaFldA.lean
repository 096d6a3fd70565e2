/-
  The walks over constant expressions: of the program and of the reference.
-/
import Derived.Test.YteohklfoggiojaaEvalW
import Derived.Test.YteohklfoggiojaaFoldM
namespace Go.Proofs.Yteohklfoggiojaa
open Go.AL Go.RowKit
set_option linter.unusedSimpArgs false
set_option linter.unusedVariables false
set_option maxRecDepth 10000
set_option maxHeartbeats 4000000
def fldB (x : Node) : Bool := decide ((x.kind = 2 ∨ x.kind = 3 ∨ x.kind = 4) ∧ x.n = 0 ∧ x.a = 0 ∧ x.b = 0)
def dd55 : Nat → List (List Nat)
  | 0 => [[], [0], [2]]
  | 1 => [[], [], [3]]
  | 2 => [[], [], [], [4, 5], [6], [], [], [8, 9], [7, 10], [11], [1], [], [13, 14], [12, 15], [16]]
  | _ => []
theorem field_c (x : Node) : ACall Try.prog 55 [.agg x.cells] (.lit (.bool (fldB x))) := by
  obtain ⟨kd, nn, xa, xb, xp⟩ := x
  unfold Node.cells
  simp only
  refine acall_of (n := 17) (rs := [.tmp 2]) Try.func55 rfl (by kernel_rfl) rfl rfl rfl ?_; simp only [argsE, Nat.reduceAdd]
  repeat (any_goals (first | (refine aops_cons (fun K' h' => ?_); simp only [go_sem, simprocAttr, hgs, Node.cells]; (try ((first | refine ⟨_, hF, ?_⟩ | refine ⟨_, fun _ => hF, ?_⟩); (try simp only [go_sem, simprocAttr, hgs, Node.cells]))); (try simp (disch := omega) only [wrap_id, getD_map_in, Int.toNat_natCast, Node.cells]); (repeat (refine And.intro (by (first | omega | (simp; done) | (simp; omega) | assumption)) ?_)); refine h' _ ?_; clear h' K') | (refine aops_nil (hK _ ?_); clear hK K hgs gs; try simp only [aThen, aBlock]) | ((first | refine AWp.sreg (id := 2) dd55 rfl (fun gs K hgs hK => ?_) | refine AWp.reg (id := 2) dd55 rfl (fun gs K hgs hK => ?_)); replace hgs : gs 3 = some 7 ∧ gs 8 = some 12 := ⟨hgs 3, hgs 8⟩) | (refine AWp.sreg  dd55 rfl (fun gs K hgs hK => ?_); replace hgs : Nat.succ 0 = 1 := rfl) | refine AWp.seq ?_ | refine ARounds.step ?_ | refine AWp.block ?_ | refine AWp.label ?_ | (refine AWp.ret ?_; try simp only [aThen, aBlock]) | (refine AWp.skip ?_; try simp only [aThen, aBlock]) | (refine AWp.exit ?_; try simp only [aThen, aBlock, Nat.reduceEqDiff, reduceIte]) | (refine AWp.reg  dd55 rfl (fun gs K hgs hK => ?_); replace hgs : Nat.succ 0 = 1 := rfl) | (refine aops_consG (fun K' h' => ?_); simp only [go_sem, simprocAttr, hgs, Node.cells]; (try simp (disch := omega) only [wrap_id, getD_map_in, Int.toNat_natCast, Node.cells]); (repeat (refine And.intro (by (first | omega | (simp; done) | (simp; omega) | assumption)) ?_)); refine h' _ ?_; clear h' K') | (refine AWp.cond rfl (fun h => ?_) (fun h => ?_) <;> (try simp only [decide_eq_true_eq, decide_eq_false_iff_not, beq_iff_eq, bne_iff_ne, ne_eq, Bool.not_eq_true', Bool.not_eq_false', beq_eq_false_iff_ne, Bool.true_eq_false, Bool.false_eq_true, Int.not_le, Int.not_lt, Bool.and_eq_true, Bool.and_eq_false_iff, Bool.or_eq_true, Bool.or_eq_false_iff, bne_eq_false_iff_eq, reduceCtorEq] at h) <;> (try first | contradiction | (exfalso; omega) | (exfalso; revert h; simp; done) | (exfalso; revert h; simp; omega)))))
  all_goals simp only [Out, outA, outL, resA, go_sem, simprocAttr]
  refine AVle.of_eq (congrArg (fun b => AV.lit (.bool b)) ?_)
  rw [Bool.eq_iff_iff]
  simp [fldB]
  omega
theorem Ex.anyF : ∀ (e : Ex) (o : Nat), e.wf → (e.fl o).any fldB = !e.fixed
  | .leaf x, o, h => by
    have := h.1.k1
    have := h.1.n1
    have := h.2
    simp only [Ex.fl, Hd.node, List.any_cons, List.any_nil, Bool.or_false, Ex.fixed, fldB, and_true]
    by_cases h1 : x.kind = 1
    · rw [decide_eq_true h1, decide_eq_false (by omega)]; rfl
    · rw [decide_eq_false h1, decide_eq_true (by omega)]; rfl
  | .un x g, o, h => by
    have := g.anyF o h.2.2.2
    have h1 := h.2.1
    simp only [Ex.fl, List.any_append, this, List.any_cons, List.any_nil, Hd.node, Ex.fixed, fldB, and_true]
    rw [decide_eq_false (by omega)]; simp
  | .bin x g k, o, h => by
    have e1 := g.anyF o h.2.2.1
    have e2 := k.anyF (o + g.sz) h.2.2.2
    have h1 := h.2.1
    simp only [Ex.fl, List.any_append, e1, e2, List.any_cons, List.any_nil, Hd.node, Ex.fixed, fldB, and_true]
    rw [decide_eq_false (by omega)]; simp
theorem any_fix {l : List Node} {e : Ex} (h : IsEx l e) : l.any fldB = !fixL l := by rw [h.2, e.anyF 0 h.1, e.fixL_fl 0 h.1]
def idxI (l : List Node) : Int := if l.findIdx fldB < l.length then (l.findIdx fldB : Int) else -1
theorem idxI_pos (l : List Node) : decide (0 ≤ idxI l) = l.any fldB := by
  unfold idxI
  cases h : l.any fldB
  · have : l.findIdx fldB = l.length := List.findIdx_eq_length.2 (by simpa using h)
    rw [if_neg (by omega)]; rfl
  · have : l.findIdx fldB < l.length := List.findIdx_lt_length.2 (by simpa using h)
    rw [if_pos this]; simp
def dd80 : Nat → List (List Nat)
  | 0 => [[], [4]]
  | 1 => [[], [], [6], []]
  | 2 => [[], []]
  | 3 => [[9], [], [10]]
  | 4 => [[], [], [], [], [12, 13], [14], [11, 15]]
  | 5 => [[0, 1, 7, 8, 16], [5], [17]]
  | 6 => [[5, 16], [8], [18]]
  | 7 => [[0, 1, 7, 8, 9], []]
  | _ => []
theorem fIndex_c (l : List Node) (hl : l.length ≤ 1000) : ACall Try.prog 80 [nodesV l, .lit (.func (.func 55) #[] #[])] (.lit (.int .i64 (idxI l))) := by
  unfold nodesV
  refine acall_of (n := 19) (rs := [.tmp 4]) Try.func80 rfl (by kernel_rfl) rfl rfl rfl ?_; simp only [argsE, Nat.reduceAdd]
  repeat (any_goals (first | (refine aops_cons (fun K' h' => ?_); simp only [go_sem, simprocAttr, Node.cells]; (try ((first | refine ⟨_, hF, ?_⟩ | refine ⟨_, fun _ => hF, ?_⟩); (try simp only [go_sem, simprocAttr, Node.cells]))); (try simp (disch := omega) only [wrap_id, getD_map_in, Int.toNat_natCast, Node.cells]); (repeat (refine And.intro (by (first | omega | (simp; done) | (simp; omega) | assumption)) ?_)); refine h' _ ?_; clear h' K') | (refine aops_nil (hK _ ?_); clear hK K gs; try simp only [aThen, aBlock]) | (refine AWp.sreg  dd80 rfl (fun gs K hgs hK => ?_); clear hgs) | refine AWp.seq ?_ | refine ARounds.step ?_ | refine AWp.block ?_ | refine AWp.label ?_ | (refine AWp.ret ?_; try simp only [aThen, aBlock]) | (refine AWp.skip ?_; try simp only [aThen, aBlock]) | (refine AWp.exit ?_; try simp only [aThen, aBlock, Nat.reduceEqDiff, reduceIte]) | (refine AWp.reg  dd80 rfl (fun gs K hgs hK => ?_); clear hgs) | (refine AWp.cond rfl (fun h => ?_) (fun h => ?_) <;> (try simp only [decide_eq_true_eq, decide_eq_false_iff_not, beq_iff_eq, bne_iff_ne, ne_eq, Bool.not_eq_true', Bool.not_eq_false', beq_eq_false_iff_ne, Bool.true_eq_false, Bool.false_eq_true, Int.not_le, Int.not_lt, Bool.and_eq_true, Bool.and_eq_false_iff, Bool.or_eq_true, Bool.or_eq_false_iff, bne_eq_false_iff_eq, reduceCtorEq] at h) <;> (try first | contradiction | (exfalso; omega) | (exfalso; revert h; simp; done) | (exfalso; revert h; simp; omega)))))
  refine AWp.loopN l.length (fun k => fldB (l.getD k default) = false) (fun k => ⟨[(0, .ro 5 (l.map Node.cells)), (1, .lit (.func (.func 55) #[] #[])), (7, .lit (.int .i64 (l.length : Int))), (8, .lit (.int .i64 (k : Int)))], [], []⟩) ?_ ?_
  · refine Wk.ofCut 0 0 rfl rfl ?_
    simp [subE, eget, ASt.drop, dropE, keepR, lowE, AV.lowB, lowL, Nat.blt, Nat.ble]
  · intro k hk hall
    obtain ⟨y, hy⟩ : ∃ y, l.getD k default = y := ⟨_, rfl⟩
    have hF := field_c y
    obtain ⟨o, ho⟩ : ∃ o, fldB y = o := ⟨_, rfl⟩
    rw [ho] at hF
    have hall2 : ∀ j (hj : j < l.length), j < k → fldB l[j] = false := fun j hj hjk => by
      have := hall j hjk
      rwa [List.getD_eq_getElem?_getD, List.getElem?_eq_getElem hj, Option.getD_some] at this
    have hyk : ∀ hkk : k < l.length, l[k] = y := fun hkk => by rw [← hy, List.getD_eq_getElem?_getD, List.getElem?_eq_getElem hkk, Option.getD_some]
    obtain ⟨kd, nn, xa, xb, xp⟩ := y
    unfold Node.cells at hF
    simp only at hF
    repeat (any_goals (first | (refine aops_cons (fun K' h' => ?_); simp only [go_sem, simprocAttr, Node.cells, hy]; (try ((first | refine ⟨_, hF, ?_⟩ | refine ⟨_, fun _ => hF, ?_⟩); (try simp only [go_sem, simprocAttr, Node.cells, hy]))); (try simp (disch := omega) only [wrap_id, getD_map_in, Int.toNat_natCast, Node.cells, hy]); (repeat (refine And.intro (by (first | omega | (simp; done) | (simp; omega) | assumption)) ?_)); refine h' _ ?_; clear h' K') | (refine aops_nil (hK _ ?_); clear hK K gs; try simp only [aThen, aBlock]) | (refine AWp.sreg  dd80 rfl (fun gs K hgs hK => ?_); clear hgs) | refine AWp.seq ?_ | refine ARounds.step ?_ | refine AWp.block ?_ | refine AWp.label ?_ | (refine AWp.ret ?_; try simp only [aThen, aBlock]) | (refine AWp.skip ?_; try simp only [aThen, aBlock]) | (refine AWp.exit ?_; try simp only [aThen, aBlock, Nat.reduceEqDiff, reduceIte]) | (refine AWp.reg  dd80 rfl (fun gs K hgs hK => ?_); clear hgs) | (refine AWp.cond rfl (fun h => ?_) (fun h => ?_) <;> (try simp only [decide_eq_true_eq, decide_eq_false_iff_not, beq_iff_eq, bne_iff_ne, ne_eq, Bool.not_eq_true', Bool.not_eq_false', beq_eq_false_iff_ne, Bool.true_eq_false, Bool.false_eq_true, Int.not_le, Int.not_lt, Bool.and_eq_true, Bool.and_eq_false_iff, Bool.or_eq_true, Bool.or_eq_false_iff, bne_eq_false_iff_eq, reduceCtorEq] at h) <;> (try first | contradiction | (exfalso; omega) | (exfalso; revert h; simp; done) | (exfalso; revert h; simp; omega)))))
    · simp only [Out, outA, outL, resA, go_sem, simprocAttr]
      subst h
      have hkk : k < l.length := by omega
      have : l.findIdx fldB = k := (List.findIdx_eq hkk).2 ⟨by rw [hyk hkk]; exact ho, fun j hj => hall2 j (by omega) hj⟩
      unfold idxI
      rw [this, if_pos hkk]
      exact AVle.refl _
    · refine ⟨by omega, by rw [hy, ho]; assumption, Wk.ofCut 0 0 rfl rfl ?_⟩
      first
        | (simp [subE, eget, ASt.drop, dropE, keepR, lowE, AV.lowB, lowL, Nat.blt, Nat.ble]; done)
        | (simp [subE, eget, ASt.drop, dropE, keepR, lowE, AV.lowB, lowL, Nat.blt, Nat.ble]; omega)
    · obtain rfl : k = l.length := by omega
      simp only [Out, outA, outL, resA, go_sem, simprocAttr]
      have : l.findIdx fldB = l.length := List.findIdx_eq_length.2 fun x hx => by
        obtain ⟨j, hj, rfl⟩ := List.mem_iff_getElem.1 hx
        exact hall2 j hj hj
      unfold idxI
      rw [this, if_neg (by omega)]
      exact AVle.refl _
def dd56 : Nat → List (List Nat)
  | 0 => [[], [4]]
  | 1 => [[], [0], [1], [5, 6], [7], [8]]
  | _ => []
theorem fContains_c (l : List Node) (hl : l.length ≤ 1000) : ACall Try.prog 56 [nodesV l, .lit (.func (.func 55) #[] #[])] (.lit (.bool (l.any fldB))) := by
  have hI := fIndex_c l hl
  rw [← idxI_pos]
  generalize idxI l = oi at *
  unfold nodesV at *
  refine acall_of (n := 9) (rs := [.tmp 4]) Try.func56 rfl (by kernel_rfl) rfl rfl rfl ?_; simp only [argsE, Nat.reduceAdd]
  repeat (any_goals (first | (refine aops_cons (fun K' h' => ?_); simp only [go_sem, simprocAttr, Node.cells]; (try ((first | refine ⟨_, hF, ?_⟩ | refine ⟨_, fun _ => hF, ?_⟩ | refine ⟨_, hI, ?_⟩ | refine ⟨_, fun _ => hI, ?_⟩); (try simp only [go_sem, simprocAttr, Node.cells]))); (try simp (disch := omega) only [wrap_id, getD_map_in, Int.toNat_natCast, Node.cells]); (repeat (refine And.intro (by (first | omega | (simp; done) | (simp; omega) | assumption)) ?_)); refine h' _ ?_; clear h' K') | (refine aops_nil (hK _ ?_); clear hK K gs; try simp only [aThen, aBlock]) | (refine AWp.sreg  dd56 rfl (fun gs K hgs hK => ?_); clear hgs) | refine AWp.seq ?_ | refine ARounds.step ?_ | refine AWp.block ?_ | refine AWp.label ?_ | (refine AWp.ret ?_; try simp only [aThen, aBlock]) | (refine AWp.skip ?_; try simp only [aThen, aBlock]) | (refine AWp.exit ?_; try simp only [aThen, aBlock, Nat.reduceEqDiff, reduceIte]) | (refine AWp.reg  dd56 rfl (fun gs K hgs hK => ?_); clear hgs) | (refine AWp.cond rfl (fun h => ?_) (fun h => ?_) <;> (try simp only [decide_eq_true_eq, decide_eq_false_iff_not, beq_iff_eq, bne_iff_ne, ne_eq, Bool.not_eq_true', Bool.not_eq_false', beq_eq_false_iff_ne, Bool.true_eq_false, Bool.false_eq_true, Int.not_le, Int.not_lt, Bool.and_eq_true, Bool.and_eq_false_iff, Bool.or_eq_true, Bool.or_eq_false_iff, bne_eq_false_iff_eq, reduceCtorEq] at h) <;> (try first | contradiction | (exfalso; omega) | (exfalso; revert h; simp; done) | (exfalso; revert h; simp; omega)))))
  simp only [Out, outA, outL, resA, go_sem, simprocAttr]
  exact AVle.refl _
noncomputable def conB (l : List Node) : Bool := if errL l = 0 then fixL l else false
def dd23 : Nat → List (List Nat)
  | 0 => [[], [2], [3]]
  | 1 => [[], [], [6], [7]]
  | 2 => [[], [], [8]]
  | 3 => [[0, 9], [4], [], [10]]
  | 4 => [[4, 9], []]
  | 5 => [[], [0], [5], [11, 12], [13], [14], []]
  | _ => []
theorem constant_c (l : List Node) (hl : l.length ≤ 1000) : ACall Try.prog 23 [nodesV l] (.tup [.lit (.bool (conB l)), .lit (.int .i64 (errL l))]) := by
  have hN := nCheck_c l hl
  have hC := fContains_c l hl
  have hb : errL l = 0 → l.any fldB = !fixL l := fun h => by
    obtain ⟨e, _, hx, _⟩ := errL_ok h
    exact any_fix hx
  unfold conB
  generalize errL l = e at *
  generalize l.any fldB = b at *
  unfold nodesV at *
  refine acall_of (n := 15) (rs := [.tmp 2, .tmp 3]) Try.func23 rfl (by kernel_rfl) rfl rfl rfl ?_; simp only [argsE, Nat.reduceAdd]
  repeat (any_goals (first | (refine aops_cons (fun K' h' => ?_); simp only [go_sem, simprocAttr, Node.cells]; (try ((first | refine ⟨_, hF, ?_⟩ | refine ⟨_, fun _ => hF, ?_⟩ | refine ⟨_, hC, ?_⟩ | refine ⟨_, fun _ => hC, ?_⟩ | refine ⟨_, hN, ?_⟩ | refine ⟨_, fun _ => hN, ?_⟩); (try simp only [go_sem, simprocAttr, Node.cells]))); (try simp (disch := omega) only [wrap_id, getD_map_in, Int.toNat_natCast, Node.cells]); (repeat (refine And.intro (by (first | omega | (simp; done) | (simp; omega) | assumption)) ?_)); refine h' _ ?_; clear h' K') | (refine aops_nil (hK _ ?_); clear hK K gs; try simp only [aThen, aBlock]) | (refine AWp.sreg  dd23 rfl (fun gs K hgs hK => ?_); clear hgs) | refine AWp.seq ?_ | refine ARounds.step ?_ | refine AWp.block ?_ | refine AWp.label ?_ | (refine AWp.ret ?_; try simp only [aThen, aBlock]) | (refine AWp.skip ?_; try simp only [aThen, aBlock]) | (refine AWp.exit ?_; try simp only [aThen, aBlock, Nat.reduceEqDiff, reduceIte]) | (refine AWp.reg  dd23 rfl (fun gs K hgs hK => ?_); clear hgs) | (refine AWp.cond rfl (fun h => ?_) (fun h => ?_) <;> (try simp only [decide_eq_true_eq, decide_eq_false_iff_not, beq_iff_eq, bne_iff_ne, ne_eq, Bool.not_eq_true', Bool.not_eq_false', beq_eq_false_iff_ne, Bool.true_eq_false, Bool.false_eq_true, Int.not_le, Int.not_lt, Bool.and_eq_true, Bool.and_eq_false_iff, Bool.or_eq_true, Bool.or_eq_false_iff, bne_eq_false_iff_eq, reduceCtorEq] at h) <;> (try first | contradiction | (exfalso; omega) | (exfalso; revert h; simp; done) | (exfalso; revert h; simp; omega)))))
  all_goals simp only [Out, outA, outL, resA, go_sem, simprocAttr]
  · rw [if_neg (by assumption)]
    exact AVle.refl _
  · subst h
    rw [if_pos rfl, hb rfl, Bool.not_not]
    exact AVle.refl _
noncomputable def vB (l : List Node) : Bool := decide (ofE l = 0) && fixL l
noncomputable def vI (l : List Node) : Int := if vB l = true then valAt rc0 l (l.length - 1) else 0
def dd14 : Nat → List (List Nat)
  | 0 => [[], [2], [3], [4]]
  | 1 => [[], [], [11], [12], [], [], [10], [5, 13], [6, 14], [15]]
  | 2 => [[], [], [16]]
  | 3 => [[0, 17], [7], [], [], [18]]
  | 4 => [[7, 17], [], [20], [21], [], [19], [22], [23]]
  | 5 => [[], [], [24], [25], [8], [27], [26, 28]]
  | 6 => [[0, 29], [9], [], [], [30]]
  | 7 => [[9, 29], [0], [], [32, 33], [34], [], [31], [35], [36]]
  | 8 => [[], [2], [], [38], [4], [37], [39], [40]]
  | _ => []
theorem value_c (l : List Node) (hl : l.length ≤ 1000) (hn : nodesB l) : ACall Try.prog 14 [nodesV l] (.tup [.lit (.int .i64 (vI l)), .lit (.bool (vB l)), .lit (.int .i64 (ofE l))]) := by
  have hO := kOf_c l hl
  have hCo := constant_c l hl
  have hE := eOf_c l rc0 hl rc0_B hn
  have h1 : ofE l = 0 → errL l = 0 := fun h => (ofE_0 h).1
  unfold vI vB
  unfold conB at hCo
  unfold ofV at hE
  have hrc : rc0.cells = [.lit (.int .i64 0), .lit (.int .i64 0), .lit (.int .i64 0)] := rfl
  rw [hrc] at hE
  generalize valAt rc0 l (l.length - 1) = v at *
  generalize ofE l = oe at *
  generalize ofN l = on at *
  generalize ofB l = ob at *
  by_cases h0 : oe = 0
  · rw [h1 h0] at hCo
    rw [if_pos rfl] at hCo
    subst h0
    rw [if_pos rfl] at hE
    clear h1
    generalize fixL l = fx at *
    unfold nodesV at *
    cases fx
    all_goals
      refine acall_of (n := 41) (rs := [.tmp 2, .tmp 3, .tmp 4]) Try.func14 rfl (by kernel_rfl) rfl rfl rfl ?_; simp only [argsE, Nat.reduceAdd]
      repeat (any_goals (first | (refine aops_cons (fun K' h' => ?_); simp only [go_sem, simprocAttr, hgs, Node.cells]; (try ((first | refine ⟨_, hF, ?_⟩ | refine ⟨_, fun _ => hF, ?_⟩ | refine ⟨_, hO, ?_⟩ | refine ⟨_, fun _ => hO, ?_⟩ | refine ⟨_, hCo, ?_⟩ | refine ⟨_, fun _ => hCo, ?_⟩ | refine ⟨_, hE, ?_⟩ | refine ⟨_, fun _ => hE, ?_⟩); (try simp only [go_sem, simprocAttr, hgs, Node.cells]))); (try simp (disch := omega) only [wrap_id, getD_map_in, Int.toNat_natCast, Node.cells]); (repeat (refine And.intro (by (first | omega | (simp; done) | (simp; omega) | assumption)) ?_)); refine h' _ ?_; clear h' K') | (refine aops_nil (hK _ ?_); clear hK K hgs gs; try simp only [aThen, aBlock]) | ((first | refine AWp.sreg (id := 5) dd14 rfl (fun gs K hgs hK => ?_) | refine AWp.reg (id := 5) dd14 rfl (fun gs K hgs hK => ?_)); replace hgs : gs 2 = some 26 := hgs 2) | (refine AWp.sreg  dd14 rfl (fun gs K hgs hK => ?_); replace hgs : Nat.succ 0 = 1 := rfl) | refine AWp.seq ?_ | refine ARounds.step ?_ | refine AWp.block ?_ | refine AWp.label ?_ | (refine AWp.ret ?_; try simp only [aThen, aBlock]) | (refine AWp.skip ?_; try simp only [aThen, aBlock]) | (refine AWp.exit ?_; try simp only [aThen, aBlock, Nat.reduceEqDiff, reduceIte]) | (refine AWp.reg  dd14 rfl (fun gs K hgs hK => ?_); replace hgs : Nat.succ 0 = 1 := rfl) | (refine AWp.cond rfl (fun h => ?_) (fun h => ?_) <;> (try simp only [decide_eq_true_eq, decide_eq_false_iff_not, beq_iff_eq, bne_iff_ne, ne_eq, Bool.not_eq_true', Bool.not_eq_false', beq_eq_false_iff_ne, Bool.true_eq_false, Bool.false_eq_true, Int.not_le, Int.not_lt, Bool.and_eq_true, Bool.and_eq_false_iff, Bool.or_eq_true, Bool.or_eq_false_iff, bne_eq_false_iff_eq, reduceCtorEq] at h) <;> (try first | contradiction | (exfalso; omega) | (exfalso; revert h; simp; done) | (exfalso; revert h; simp; omega)))))
      all_goals simp only [Out, outA, outL, resA, go_sem, simprocAttr]
      all_goals exact AVle.of_eq (by simp)
  · clear hCo hE h1
    unfold nodesV at *
    refine acall_of (n := 41) (rs := [.tmp 2, .tmp 3, .tmp 4]) Try.func14 rfl (by kernel_rfl) rfl rfl rfl ?_; simp only [argsE, Nat.reduceAdd]
    repeat (any_goals (first | (refine aops_cons (fun K' h' => ?_); simp only [go_sem, simprocAttr, hgs, Node.cells]; (try ((first | refine ⟨_, hF, ?_⟩ | refine ⟨_, fun _ => hF, ?_⟩ | refine ⟨_, hO, ?_⟩ | refine ⟨_, fun _ => hO, ?_⟩ | refine ⟨_, hCo, ?_⟩ | refine ⟨_, fun _ => hCo, ?_⟩ | refine ⟨_, hE, ?_⟩ | refine ⟨_, fun _ => hE, ?_⟩); (try simp only [go_sem, simprocAttr, hgs, Node.cells]))); (try simp (disch := omega) only [wrap_id, getD_map_in, Int.toNat_natCast, Node.cells]); (repeat (refine And.intro (by (first | omega | (simp; done) | (simp; omega) | assumption)) ?_)); refine h' _ ?_; clear h' K') | (refine aops_nil (hK _ ?_); clear hK K hgs gs; try simp only [aThen, aBlock]) | ((first | refine AWp.sreg (id := 5) dd14 rfl (fun gs K hgs hK => ?_) | refine AWp.reg (id := 5) dd14 rfl (fun gs K hgs hK => ?_)); replace hgs : gs 2 = some 26 := hgs 2) | (refine AWp.sreg  dd14 rfl (fun gs K hgs hK => ?_); replace hgs : Nat.succ 0 = 1 := rfl) | refine AWp.seq ?_ | refine ARounds.step ?_ | refine AWp.block ?_ | refine AWp.label ?_ | (refine AWp.ret ?_; try simp only [aThen, aBlock]) | (refine AWp.skip ?_; try simp only [aThen, aBlock]) | (refine AWp.exit ?_; try simp only [aThen, aBlock, Nat.reduceEqDiff, reduceIte]) | (refine AWp.reg  dd14 rfl (fun gs K hgs hK => ?_); replace hgs : Nat.succ 0 = 1 := rfl) | (refine AWp.cond rfl (fun h => ?_) (fun h => ?_) <;> (try simp only [decide_eq_true_eq, decide_eq_false_iff_not, beq_iff_eq, bne_iff_ne, ne_eq, Bool.not_eq_true', Bool.not_eq_false', beq_eq_false_iff_ne, Bool.true_eq_false, Bool.false_eq_true, Int.not_le, Int.not_lt, Bool.and_eq_true, Bool.and_eq_false_iff, Bool.or_eq_true, Bool.or_eq_false_iff, bne_eq_false_iff_eq, reduceCtorEq] at h) <;> (try first | contradiction | (exfalso; omega) | (exfalso; revert h; simp; done) | (exfalso; revert h; simp; omega)))))
    all_goals simp only [Out, outA, outL, resA, go_sem, simprocAttr]
    rw [decide_eq_false h0]
    exact AVle.of_eq (by simp)
end Go.Proofs.Yteohklfoggiojaa
