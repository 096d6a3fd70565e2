/-
  The walk over Fold.
-/
import Derived.Test.YteohklfoggiojaaFldD
import Derived.Test.YteohklfoggiojaaAbsV
namespace Go.Proofs.Yteohklfoggiojaa
open Go.AL Go.RowKit
set_option linter.unusedSimpArgs false
set_option linter.unusedVariables false
set_option maxRecDepth 10000
set_option maxHeartbeats 4000000
theorem _root_.Go.AL.J.AWp.yield2 {P : Program} {n : Nat} {w0 : World} {G : Array Value} {st : ASt} {Q : Exit → ASt → Prop} {mI id : Nat} {o1 o2 o4 : Oper} {d tf : Nat} {xo : Operand} {tys : Array TypeId} {ty : TypeId} {pos : String} {after : Array Edge}
    {s : Nat → Prop} {l D t : Nat} {T : List (Nat × Obj)} {fn : FuncId} {assign body : Code} (ks : List Nat)
    (hG : G.size = n) (ht : t < n) (hks : ks.all (fun s => Nat.blt s n && !(s == t)) = true) (h0 : w0.heap.size ≤ l) (hD : ∀ x ∈ T, x.1 ≠ l) (hd : d < mI) (htf : tf < mI) (hxo : ∀ t, xo = .tmp t → t < mI) (hs1 : smallL mI [o1, o2] = true) (hs2 : smallL mI [o4] = true)
    (h : ∀ (gs : Nat → Option Nat) (K' : ASt → Prop), (∀ j, gs j = gslot [o1, o2, ⟨some d, .call ⟨.value (.tmp tf), #[xo], tys⟩, ty, pos, after, none⟩, o4] j) →
      (∀ s1, (∃ x, evA s1.env (.tmp tf) = .lit (.func (.yield l) #[] #[]) ∧ evA s1.env xo = .lit x ∧ ∀ B,
        J.AWp P n (n + (mI + n)) (some l) w0 ⟨s, recs l T (lrec fn G t assign body D .ready), false⟩ B assign (fun e s' => e = .normal ∧
          J.AWp P n (n + (mI + n)) (some l) w0 ⟨s, recs l T (lrec fn G t assign body D .busy), false⟩ B body (fun e s2 => e = .normal ∧
            ∀ (gs : Nat → Option Nat) (K : ASt → Prop), (∀ j, gs j = gslot [o1, o2, ⟨some d, .call ⟨.value (.tmp tf), #[xo], tys⟩, ty, pos, after, none⟩, o4] j) → (∀ s, Q .normal s → K s) → aops P (mI + n) gs [o4] [[]] ((s2.back n).put (some d) (.lit (.bool true))) K) s') ⟨roundE mI n t x ks s1.env, s1.boxes, s1.rows⟩) → K' s1) →
      aops P (mI + n) gs [o1, o2] [[], []] st K') :
    J.AWp P mI (mI + n) none w0 ⟨s, recs l T (lrec fn G t assign body D .ready), false⟩ G (.region id [o1, o2, ⟨some d, .call ⟨.value (.tmp tf), #[xo], tys⟩, ty, pos, after, none⟩, o4].toArray false) Q st :=
  J.AWp.yield (l1 := [o1, o2]) (l2 := [o4]) ks [[], []] [[]] rfl hG ht hks h0 hD hd htf hxo hs1 hs2 (h _ _ (fun _ => rfl) fun s1 h1 => h1) fun s1 ⟨x, e1, e2, hB⟩ => ⟨x, e1, e2, fun B => (hB B).mono fun e s' ⟨he, hb⟩ => ⟨he, hb.mono fun e s2 ⟨he, ha⟩ => ⟨he, ha _ _ (fun _ => rfl) fun _ h => h⟩⟩⟩
theorem ofE_ty {e : Ex} (hw : e.wf) (h1 : e.sz ≤ 60) (h2 : e.dp ≤ 20) (ht : e.typ = true) : ofE (e.fl 0) = 0 := by
  unfold ofE
  rw [errL_of ⟨hw, rfl⟩ h1 h2, (Ex.typ_iff hw).2 ht]
  simp
def natN (j : Nat) : List AV := [.lit (.int .i64 (j : Int))]
structure LoopI (l : List Node) (e : Ex) (st : List Nat) (fs : List (Option Ex)) : Prop where
  lt : ∀ j ∈ st, j < l.length
  ok : OkAt e (fun i => fs.getD i default) st (l.length - 1)
  len : fs.length = l.length
  old : ∀ i, fs.getD i default = none ∨ fs.getD i default = frm (e.subE i)
  td : todo e st ≤ e.sz
theorem todo_len (e : Ex) : ∀ st : List Nat, st.length ≤ todo e st
  | [] => Nat.zero_le _
  | j :: st => by
    have := todo_len e st
    have := (e.subE j).sz_pos
    simp only [todo, List.map_cons, List.sum_cons, List.length_cons] at *
    omega
theorem LoopI.start {l : List Node} {e : Ex} (hx : IsEx l e) : LoopI l e [l.length - 1] (List.replicate l.length none) := by
  have := hx.len
  have := e.sz_pos
  refine ⟨fun j hj => ?_, .stk (by simp), by simp, fun i => .inl ?_, ?_⟩
  · rw [List.mem_singleton.1 hj]; omega
  · rw [List.getD_eq_getElem?_getD, List.getElem?_replicate]
    split <;> rfl
  · simp only [todo, List.map_cons, List.map_nil, List.sum_cons, List.sum_nil, hx.len, e.subE_end]
    omega
theorem LoopI.step {l : List Node} {e : Ex} {s0 : List Nat} {j : Nat} {fs : List (Option Ex)} (hx : IsEx l e) (h : LoopI l e (s0 ++ [j]) fs) :
    j < l.length ∧ LoopI l e (s0 ++ nextL e j) (fs.set j (frm (e.subE j))) ∧ (fs.set j (frm (e.subE j))).getD j default = frm (e.subE j) ∧ (frm (e.subE j) = none → fs.set j (frm (e.subE j)) = fs) ∧ todo e (s0 ++ nextL e j) < todo e (s0 ++ [j]) := by
  have hle := hx.len
  have hj := h.lt j (by simp)
  have hF : ∀ i, (fs.set j (frm (e.subE j))).getD i default = setF (fun i => fs.getD i default) j (frm (e.subE j)) i := fun i => by
    unfold setF
    simp only [List.getD_eq_getElem?_getD, List.getElem?_set]
    have := h.len
    by_cases hij : j = i
    · subst hij; simp only [reduceIte]; rw [if_pos (by omega)]; rfl
    · rw [if_neg hij, if_neg (fun h => hij h.symm)]
  have hjj : (fs.set j (frm (e.subE j))).getD j default = frm (e.subE j) := by rw [hF]; simp [setF]
  refine ⟨hj, ⟨fun i hi => ?_, ?_, by simp [h.len], fun i => ?_, by have := h.td; have := todo_step (e := e) (st := s0) (j := j) (by omega); omega⟩, hjj, fun hn => ?_, todo_step (by omega)⟩
  · rcases List.mem_append.1 hi with hi | hi
    · exact h.lt i (by simp [hi])
    · have := nextL_lt (e := e) (j := j) (by omega) i hi; omega
  · have := h.ok.step
    rw [show (fun i => (fs.set j (frm (e.subE j))).getD i default) = setF (fun i => fs.getD i default) j (frm (e.subE j)) from funext hF]
    exact this
  · rw [hF]
    unfold setF
    split
    · rename_i hij; subst hij; exact .inr rfl
    · exact h.old i
  · have h1 := h.old j
    rw [hn] at h1 ⊢
    have h1 : fs.getD j default = none := by rcases h1 with h1 | h1 <;> exact h1
    rw [List.getD_eq_getElem?_getD, List.getElem?_eq_getElem (by have := h.len; omega)] at h1
    simp only [Option.getD_some] at h1
    rw [← h1, List.set_getElem_self]
theorem splice_fe (v : Option Ex) (a b : AV) : splice (fe v) 0 [a, b] = [a, b] := by cases v <;> rfl
@[go_sem] theorem ft_ldT_errno : ldT Try.prog 24 = some none := by kernel_rfl
def dd12 : Nat → List (List Nat)
  | 0 => [[], [0], [], []]
  | 1 => [[], [], [14], [15], [], [13], [], [16], [17]]
  | 2 => [[], [], [18]]
  | 3 => [[1, 4, 19], [5], [], [20]]
  | 4 => [[5, 19], [], [21], [22], [], [23]]
  | 5 => [[], [], [], [24, 25]]
  | 6 => [[], [27]]
  | 7 => [[], [], [], [29, 30], [31], [], [28], [32], [33]]
  | 8 => [[], [], [34]]
  | 9 => [[1, 4, 6, 7, 8, 35], [9], [], [36]]
  | 10 => [[2, 3, 9, 35], [8], [38], [39], [], [], [37], [40], [41], [42]]
  | 11 => [[], [12], [43], [44], [11], [45, 46]]
  | 13 => [[4, 26], [], [6], [1], [64], [65], [62, 63, 66], [], [67], [68], [69]]
  | _ => []
def fo12 : Nat → List Nat
  | 12 => []
  | _ => []
def dd40 : Nat → List (List Nat)
  | 0 => [[], [0], [1], [4]]
  | 1 => [[], [2, 3], [5]]
  | _ => []
def dd66 : Nat → List (List Nat)
  | 0 => [[], [], [8], [9], [10], [11]]
  | 1 => [[5, 33, 54], [], [12], [13]]
  | 2 => [[14], [], [], [16], [17], [15, 18], [19], [20]]
  | 3 => [[], [], [4], [22], [23], [21, 24], [25]]
  | 4 => [[], [], [], [26, 27], [28]]
  | 5 => [[29], [], [], [30, 31], [32]]
  | 6 => [[33], [], [], [35, 36], [37], [38], [39], [40], [], [34], [41], [7, 42]]
  | 7 => [[], [6]]
  | 8 => [[], [], [45]]
  | 9 => [[43, 44], [4], [], [5], [47, 48], [49], [50], [51], [46, 52], [53]]
  | 10 => [[44], [43], [55]]
  | _ => []
def foJ66 : Nat → List Nat
  | 11 => [0, 1, 2, 4, 70, 71, 72, 73, 75]
  | _ => []
def foJ12 : Nat → List Nat
  | 12 => [70, 71, 72, 74, 75, 140, 141, 142, 143, 145]
  | _ => []
theorem fold_bad (l : List Node) (hl : l.length ≤ 1000) (h0 : ofE l ≠ 0) : ACall Try.prog 12 [nodesV l] (.tup [nodesV [], .lit (.int .i64 (ofE l))]) := by
  have hA := kAll_c l hl
  rw [show allR l = [] from if_neg h0] at hA
  generalize ofE l = oe at *
  unfold nodesV boolsV at *
  refine acall_of (n := 70) (rs := [.cell 2 22, .cell 3 24]) Try.func12 rfl (by kernel_rfl) rfl rfl rfl ?_; simp only [argsE, Nat.reduceAdd]
  repeat (any_goals (first | ((first | refine aops_cons (fun K' h' => ?_) | refine aopsD_cons (fun K' h' => ?_) | refine aopsM_cons (fun K' h' => ?_)); simp only [go_sem, simprocAttr, hgs, Node.cells]; (try ((first | refine ⟨_, hA, ?_⟩ | refine ⟨_, fun _ => hA, ?_⟩ | refine ⟨_, hPt, ?_⟩ | refine ⟨_, fun _ => hPt, ?_⟩ | refine ⟨_, hV, ?_⟩ | refine ⟨_, fun _ => hV, ?_⟩ | refine ⟨_, hFo, ?_⟩ | refine ⟨_, fun _ => hFo, ?_⟩ | refine ⟨_, hI, ?_⟩ | refine ⟨_, fun _ => hI, ?_⟩); (try simp only [go_sem, simprocAttr, hgs, Node.cells]))); (try simp (disch := omega) only [wrap_id, getD_map_in, Int.toNat_natCast, Node.cells]); (repeat (refine And.intro (by (first | omega | (simp; done) | (simp; omega) | assumption)) ?_)); refine h' _ ?_; clear h' K') | (refine aops_nil (hK _ ?_); clear hK K hgs gs; try simp only [aThen, aBlock]) | (refine aops_consF [] (fun K' h' => ?_); simp only [go_sem, simprocAttr, hgs, Node.cells]; refine ⟨_, hB, ?_⟩; (try simp only [go_sem, simprocAttr, hgs, Node.cells]); (repeat (refine And.intro (by (first | omega | (simp; done) | (simp; omega) | assumption)) ?_)); refine h' _ ?_; clear h' K') | ((first | refine AWp.sreg (id := 11) dd12 rfl (fun gs K hgs hK => ?_) | refine AWp.reg (id := 11) dd12 rfl (fun gs K hgs hK => ?_)); replace hgs : gs 2 = some 45 := hgs 2) | (refine AWp.sreg  dd12 rfl (fun gs K hgs hK => ?_); replace hgs : Nat.succ 0 = 1 := rfl) | refine AWp.seq ?_ | refine ARounds.step ?_ | refine AWp.block ?_ | refine AWp.label ?_ | (refine AWp.ret ?_; try simp only [aThen, aBlock]) | (refine AWp.skip ?_; try simp only [aThen, aBlock]) | (refine AWp.exit ?_; try simp only [aThen, aBlock, Nat.reduceEqDiff, reduceIte]) | (refine AWp.reg  dd12 rfl (fun gs K hgs hK => ?_); replace hgs : Nat.succ 0 = 1 := rfl) | ((first | refine AWp.sregM (id := 12) fo12 (false, false) mo_fact (by kernel_rfl) (by kernel_rfl) (fun gs K hgs hK => ?_) | refine AWp.regM (id := 12) fo12 (false, false) mo_fact (by kernel_rfl) (by kernel_rfl) (fun gs K hgs hK => ?_)); replace hgs : Nat.succ 0 = 1 := rfl) | (refine aopsM_nil (hK _ ?_); clear hK K hgs gs; simp only [fo12]; simp only [ASt.prune, pruneE, keepB, keepR, Bool.or_false, Bool.or_true, Bool.true_or, Bool.false_or, reduceIte, Bool.or_self, Bool.false_eq_true, aThen, aBlock, Nat.reduceEqDiff]) | (refine aops_consG (fun K' h' => ?_); simp only [go_sem, simprocAttr, hgs, Node.cells]; (try simp (disch := omega) only [wrap_id, getD_map_in, Int.toNat_natCast, Node.cells]); (repeat (refine And.intro (by (first | omega | (simp; done) | (simp; omega) | assumption)) ?_)); refine h' _ ?_; clear h' K') | (refine AWp.cond rfl (fun h => ?_) (fun h => ?_) <;> (try simp only [decide_eq_true_eq, decide_eq_false_iff_not, beq_iff_eq, bne_iff_ne, ne_eq, Bool.not_eq_true', Bool.not_eq_false', beq_eq_false_iff_ne, Bool.true_eq_false, Bool.false_eq_true, Int.not_le, Int.not_lt, Bool.and_eq_true, Bool.and_eq_false_iff, Bool.or_eq_true, Bool.or_eq_false_iff, bne_eq_false_iff_eq, reduceCtorEq] at h) <;> (try first | contradiction | (exfalso; omega) | (exfalso; revert h; simp; done) | (exfalso; revert h; simp; omega)))))
  all_goals first
    | (exfalso; exact h0 (by assumption))
    | skip
  all_goals simp only [Out, outA, outL, resA, go_sem, simprocAttr]
  all_goals exact AVle.tup ⟨AVle.nil 5, AVle.refl _, trivial⟩
theorem fold_ok_c {l : List Node} {e : Ex} (h0 : ofE l = 0) (hx : IsEx l e) (h60 : e.sz ≤ 60) (h20 : e.dp ≤ 20) (ht : e.typ = true) (hn : nodesB l) : ACall Try.prog 12 [nodesV l] (.tup [nodesV ((foldE e).fl 0), .lit (.int .i64 0)]) := by
  have hle := hx.len
  have hA := kAll_c l (by omega)
  rw [show allR l = l.map fun x => givesB x.kind from if_pos h0, h0] at hA
  unfold nodesV boolsV at *
  refine acall_of (n := 70) (rs := [.cell 2 22, .cell 3 24]) Try.func12 rfl (by kernel_rfl) rfl rfl rfl ?_; simp only [argsE, Nat.reduceAdd]
  iterate 29 (any_goals (first | ((first | refine aops_cons (fun K' h' => ?_) | refine aopsD_cons (fun K' h' => ?_) | refine aopsM_cons (fun K' h' => ?_)); simp only [go_sem, simprocAttr, hgs, Node.cells]; (try ((first | refine ⟨_, hA, ?_⟩ | refine ⟨_, fun _ => hA, ?_⟩ | refine ⟨_, hPt, ?_⟩ | refine ⟨_, fun _ => hPt, ?_⟩ | refine ⟨_, hV, ?_⟩ | refine ⟨_, fun _ => hV, ?_⟩ | refine ⟨_, hFo, ?_⟩ | refine ⟨_, fun _ => hFo, ?_⟩ | refine ⟨_, hI, ?_⟩ | refine ⟨_, fun _ => hI, ?_⟩); (try simp only [go_sem, simprocAttr, hgs, Node.cells]))); (try simp (disch := omega) only [wrap_id, getD_map_in, Int.toNat_natCast, Node.cells]); (repeat (refine And.intro (by (first | omega | (simp; done) | (simp; omega) | assumption)) ?_)); refine h' _ ?_; clear h' K') | (refine aops_nil (hK _ ?_); clear hK K hgs gs; try simp only [aThen, aBlock]) | (refine aops_consF [] (fun K' h' => ?_); simp only [go_sem, simprocAttr, hgs, Node.cells]; refine ⟨_, hB, ?_⟩; (try simp only [go_sem, simprocAttr, hgs, Node.cells]); (repeat (refine And.intro (by (first | omega | (simp; done) | (simp; omega) | assumption)) ?_)); refine h' _ ?_; clear h' K') | ((first | refine AWp.sreg (id := 11) dd12 rfl (fun gs K hgs hK => ?_) | refine AWp.reg (id := 11) dd12 rfl (fun gs K hgs hK => ?_)); replace hgs : gs 2 = some 45 := hgs 2) | (refine AWp.sreg  dd12 rfl (fun gs K hgs hK => ?_); replace hgs : Nat.succ 0 = 1 := rfl) | refine AWp.seq ?_ | refine ARounds.step ?_ | refine AWp.block ?_ | refine AWp.label ?_ | (refine AWp.ret ?_; try simp only [aThen, aBlock]) | (refine AWp.skip ?_; try simp only [aThen, aBlock]) | (refine AWp.exit ?_; try simp only [aThen, aBlock, Nat.reduceEqDiff, reduceIte]) | (refine AWp.reg  dd12 rfl (fun gs K hgs hK => ?_); replace hgs : Nat.succ 0 = 1 := rfl) | ((first | refine AWp.sregM (id := 12) fo12 (false, false) mo_fact (by kernel_rfl) (by kernel_rfl) (fun gs K hgs hK => ?_) | refine AWp.regM (id := 12) fo12 (false, false) mo_fact (by kernel_rfl) (by kernel_rfl) (fun gs K hgs hK => ?_)); replace hgs : Nat.succ 0 = 1 := rfl) | (refine aopsM_nil (hK _ ?_); clear hK K hgs gs; simp only [fo12]; simp only [ASt.prune, pruneE, keepB, keepR, Bool.or_false, Bool.or_true, Bool.true_or, Bool.false_or, reduceIte, Bool.or_self, Bool.false_eq_true, aThen, aBlock, Nat.reduceEqDiff]) | (refine aops_consG (fun K' h' => ?_); simp only [go_sem, simprocAttr, hgs, Node.cells]; (try simp (disch := omega) only [wrap_id, getD_map_in, Int.toNat_natCast, Node.cells]); (repeat (refine And.intro (by (first | omega | (simp; done) | (simp; omega) | assumption)) ?_)); refine h' _ ?_; clear h' K') | (refine AWp.cond rfl (fun h => ?_) (fun h => ?_) <;> (try simp only [decide_eq_true_eq, decide_eq_false_iff_not, beq_iff_eq, bne_iff_ne, ne_eq, Bool.not_eq_true', Bool.not_eq_false', beq_eq_false_iff_ne, Bool.true_eq_false, Bool.false_eq_true, Int.not_le, Int.not_lt, Bool.and_eq_true, Bool.and_eq_false_iff, Bool.or_eq_true, Bool.or_eq_false_iff, bne_eq_false_iff_eq, reduceCtorEq] at h) <;> (try first | contradiction | (exfalso; omega) | (exfalso; revert h; simp; done) | (exfalso; revert h; simp; omega)))))
  refine AWp.seq ?_
  refine AWp.seq ?_
  refine AWp.inlineV2 (m := 6) Try.func40 rfl (by kernel_rfl) rfl rfl rfl (by simp [dok]) ?_
  intro gs K0 hgs hK
  replace hgs : Nat.succ 0 = 1 := rfl
  simp only [ASt.drop, dropE, keepR, Nat.reduceEqDiff, reduceIte, Bool.or_false, Bool.false_eq_true, Nat.beq, List.any_nil, List.any_cons, cond_true, cond_false]
  iterate 2 (refine aops_cons (fun K' h' => ?_); simp only [go_sem, simprocAttr, hgs, Node.cells]; (try simp (disch := omega) only [wrap_id, getD_map_in, Int.toNat_natCast, Node.cells]); (repeat (refine And.intro (by (first | omega | (simp; done) | (simp; omega) | assumption)) ?_)); refine h' _ ?_; clear h' K')
  refine aops_nil (hK _ ⟨?_, rfl, fun w0 S0 G hm => ?_⟩)
  · simp only [go_sem, simprocAttr, Node.cells]
  · clear hK K0 hgs gs
    simp only [go_sem, simprocAttr, Node.cells]
    repeat (any_goals (first | (refine aops_cons (fun K' h' => ?_); simp only [go_sem, simprocAttr, Node.cells]; (try ((first | refine ⟨_, hI, ?_⟩ | refine ⟨_, fun _ => hI, ?_⟩); (try simp only [go_sem, simprocAttr, Node.cells]))); (try simp (disch := omega) only [wrap_id, getD_map_in, Int.toNat_natCast, Node.cells]); (repeat (refine And.intro (by (first | omega | (simp; done) | (simp; omega) | assumption)) ?_)); refine h' _ ?_; clear h' K') | (refine aops_nil (hK _ ?_); clear hK K gs; try simp only [aThen, aBlock]) | (refine J.AWp.sreg  dd40 rfl (fun gs K hgs hK => ?_); clear hgs) | refine J.AWp.seq ?_ | refine ARounds.step ?_ | refine J.AWp.block ?_ | refine J.AWp.label ?_ | (refine J.AWp.ret ?_; try simp only [aThen, aBlock]) | (refine J.AWp.skip ?_; try simp only [aThen, aBlock]) | (refine J.AWp.exit ?_; try simp only [aThen, aBlock, Nat.reduceEqDiff, reduceIte]) | (refine J.AWp.reg  dd40 rfl (fun gs K hgs hK => ?_); clear hgs) | (refine J.AWp.cond rfl (fun h => ?_) (fun h => ?_) <;> (try simp only [decide_eq_true_eq, decide_eq_false_iff_not, beq_iff_eq, bne_iff_ne, ne_eq, Bool.not_eq_true', Bool.not_eq_false', beq_eq_false_iff_ne, Bool.true_eq_false, Bool.false_eq_true, Int.not_le, Int.not_lt, Bool.and_eq_true, Bool.and_eq_false_iff, Bool.or_eq_true, Bool.or_eq_false_iff, bne_eq_false_iff_eq, reduceCtorEq] at h) <;> (try first | contradiction | (exfalso; omega) | (exfalso; revert h; simp; done) | (exfalso; revert h; simp; omega)))))
    refine ⟨by simp, ?_⟩
    simp only [aThen, ASt.back, backE, ASt.put, eput, eget, Nat.reduceAdd, Nat.reduceSub, Nat.reduceLeDiff, reduceIte, Nat.reduceEqDiff, ASt.drop, dropE, keepR, Nat.beq, List.any_nil, List.any_cons, cond_true, cond_false, Bool.false_eq_true, Bool.or_false, Bool.or_true, Bool.true_or, Bool.or_self]
    refine AWp.block ?_
    refine AWp.rangeFunc (gf := 66) (mI := 69) rfl Try.func66 (by kernel_rfl) rfl rfl rfl (by decide) ?_
    intro w0 s lo D T fn G hG hlo hT
    clear hm S0
    simp only [go_sem, simprocAttr, Node.cells]
    repeat (any_goals (first | ((first | refine aops_cons (fun K' h' => ?_) | refine aopsD_cons (fun K' h' => ?_) | refine aopsM_cons (fun K' h' => ?_) | refine aopsP_cons (fun K' h' => ?_)); simp only [go_sem, simprocAttr, Node.cells]; (try ((first | refine ⟨_, hPs, ?_⟩ | refine ⟨_, fun _ => hPs, ?_⟩ | refine ⟨_, hI, ?_⟩ | refine ⟨_, fun _ => hI, ?_⟩); (try simp only [go_sem, simprocAttr, Node.cells]))); (try simp (disch := omega) only [wrap_id, getD_map_in, Int.toNat_natCast, Node.cells]); (repeat (refine And.intro (by (first | omega | (simp; done) | (simp; omega) | assumption)) ?_)); refine h' _ ?_; clear h' K') | (refine aops_nil (hK _ ?_); clear hK K gs; try simp only [aThen, aBlock, aNoGoto]) | (refine J.AWp.sreg  dd66 rfl (fun gs K hgs hK => ?_); clear hgs) | refine J.AWp.seq ?_ | refine ARounds.step ?_ | refine J.AWp.block ?_ | refine J.AWp.label ?_ | (refine J.AWp.ret ?_; try simp only [aThen, aBlock, aNoGoto]) | (refine J.AWp.skip ?_; try simp only [aThen, aBlock, aNoGoto]) | (refine J.AWp.exit ?_; try simp only [aThen, aBlock, aNoGoto, Nat.reduceEqDiff, reduceIte]) | (refine J.AWp.reg  dd66 rfl (fun gs K hgs hK => ?_); clear hgs) | (refine J.AWp.sregP (id := 11) foJ66 (false, false) mo_fact (by kernel_rfl) (by kernel_rfl) (fun gs K hgs hK => ?_); clear hgs) | (refine J.AWp.regP (id := 11) foJ66 (false, false) mo_fact (by kernel_rfl) (by kernel_rfl) (fun gs K hgs hK => ?_); clear hgs) | (refine aopsP_nil (hK _ ?_); clear hK K gs; simp only [foJ66]; simp only [ASt.prune, pruneE, keepB, keepR, Bool.or_false, Bool.or_true, Bool.true_or, Bool.false_or, reduceIte, Bool.or_self, Bool.false_eq_true, aThen, aBlock, Nat.reduceEqDiff]) | (refine J.AWp.cond rfl (fun h => ?_) (fun h => ?_) <;> (try simp only [decide_eq_true_eq, decide_eq_false_iff_not, beq_iff_eq, bne_iff_ne, ne_eq, Bool.not_eq_true', Bool.not_eq_false', beq_eq_false_iff_ne, Bool.true_eq_false, Bool.false_eq_true, Int.not_le, Int.not_lt, Bool.and_eq_true, Bool.and_eq_false_iff, Bool.or_eq_true, Bool.or_eq_false_iff, bne_eq_false_iff_eq, reduceCtorEq] at h) <;> (try first | contradiction | (exfalso; omega) | (exfalso; revert h; simp; done) | (exfalso; revert h; simp; omega))) | (refine J.AWp.scope ?_)))
    refine J.AWp.loop (I := fun x : List Nat × List Nat × List (Option Ex) => LoopI l e x.1 x.2.2)
      (fun x => ⟨[(0, .lit (.func (.yield lo) #[] #[])), (1, .bp 5 0), (2, .bp 6 0), (4, .own 1 1 0 x.1.length), (70, .bp 0 0), (71, .bp 1 0), (72, .bp 2 0), (73, .bp 3 0), (75, .bp 4 0)],
        [[AV.ro 5 (List.map Node.cells l)], [AV.lit (Value.slice none 0 0)], [AV.lit (Value.int IntKind.i64 0)], [AV.ro 1 (List.map (fun b => [AV.lit (Value.bool b)]) (List.map (fun x => givesB x.kind) l))], [AV.own 0 2 0 l.length], [AV.ro 5 (List.map Node.cells l)], [AV.fn 41 [AV.bp 4 0]]],
        [some ⟨85, 2, x.2.2.map fe⟩, some ⟨3, 1, (x.1 ++ x.2.1).map natN⟩]⟩) (fun x => todo e x.1) ([l.length - 1], [], List.replicate l.length none) (LoopI.start hx) ?_ ?_
    · refine Wk.ofCut 7 2 rfl ?_ ?_
      · have := hx.len
        have := e.sz_pos
        simp [ASt.drop, dropE, keepR, fe, natN]
        omega
      · simp [subE, eget, ASt.drop, dropE, keepR, lowE, AV.lowB, lowL, Nat.blt, Nat.ble]
    · rintro ⟨st, gb, fs⟩ hI
      simp only at hI
      rcases snoc_cases st with rfl | ⟨s0, j, rfl⟩
      · simp only [List.length_nil, List.nil_append]
        have hfs := hI.len
        have hB := build_c hx (by omega) h20 ht hn fs hfs (l.length - 1) (by have := e.sz_pos; omega) hI.ok
        rw [hle, e.subE_end, ← hle, show ((l.length - 1 : Nat) : Int) = (l.length : Int) - 1 by have := e.sz_pos; omega] at hB
        unfold formsV at hB
        generalize Ex.fl 0 (foldE e) = out at *
        generalize hFs : fs.map fe = Fs at *
        have hFl : Fs.length = l.length := by rw [← hFs]; simpa using hfs
        have htk : Fs.take l.length = Fs := List.take_of_length_le (by omega)
        unfold nodesV at hB
        clear hI hA
        repeat (any_goals (first | ((first | refine aops_cons (fun K' h' => ?_) | refine aopsD_cons (fun K' h' => ?_) | refine aopsM_cons (fun K' h' => ?_) | refine aopsP_cons (fun K' h' => ?_)); simp only [go_sem, simprocAttr, Node.cells]; (try ((first | refine ⟨_, hPs, ?_⟩ | refine ⟨_, fun _ => hPs, ?_⟩ | refine ⟨_, hI, ?_⟩ | refine ⟨_, fun _ => hI, ?_⟩); (try simp only [go_sem, simprocAttr, Node.cells]))); (try simp (disch := omega) only [wrap_id, getD_map_in, Int.toNat_natCast, Node.cells]); (repeat (refine And.intro (by (first | omega | (simp; done) | (simp; omega) | assumption)) ?_)); refine h' _ ?_; clear h' K') | (refine aops_nil (hK _ ?_); clear hK K gs; try simp only [aThen, aBlock, aNoGoto]) | (refine J.AWp.sreg  dd66 rfl (fun gs K hgs hK => ?_); clear hgs) | refine J.AWp.seq ?_ | refine ARounds.step ?_ | refine J.AWp.block ?_ | refine J.AWp.label ?_ | (refine J.AWp.ret ?_; try simp only [aThen, aBlock, aNoGoto]) | (refine J.AWp.skip ?_; try simp only [aThen, aBlock, aNoGoto]) | (refine J.AWp.exit ?_; try simp only [aThen, aBlock, aNoGoto, Nat.reduceEqDiff, reduceIte]) | (refine J.AWp.reg  dd66 rfl (fun gs K hgs hK => ?_); clear hgs) | (refine J.AWp.sregP (id := 11) foJ66 (false, false) mo_fact (by kernel_rfl) (by kernel_rfl) (fun gs K hgs hK => ?_); clear hgs) | (refine J.AWp.regP (id := 11) foJ66 (false, false) mo_fact (by kernel_rfl) (by kernel_rfl) (fun gs K hgs hK => ?_); clear hgs) | (refine aopsP_nil (hK _ ?_); clear hK K gs; simp only [foJ66]; simp only [ASt.prune, pruneE, keepB, keepR, Bool.or_false, Bool.or_true, Bool.true_or, Bool.false_or, reduceIte, Bool.or_self, Bool.false_eq_true, aThen, aBlock, Nat.reduceEqDiff]) | (refine J.AWp.cond rfl (fun h => ?_) (fun h => ?_) <;> (try simp only [decide_eq_true_eq, decide_eq_false_iff_not, beq_iff_eq, bne_iff_ne, ne_eq, Bool.not_eq_true', Bool.not_eq_false', beq_eq_false_iff_ne, Bool.true_eq_false, Bool.false_eq_true, Int.not_le, Int.not_lt, Bool.and_eq_true, Bool.and_eq_false_iff, Bool.or_eq_true, Bool.or_eq_false_iff, bne_eq_false_iff_eq, reduceCtorEq] at h) <;> (try first | contradiction | (exfalso; omega) | (exfalso; revert h; simp; done) | (exfalso; revert h; simp; omega))) | (refine J.AWp.scope ?_)))
        refine ⟨by simp, ?_⟩
        simp only [go_sem, simprocAttr, Node.cells, htk]
        repeat (any_goals (first | ((first | refine aops_cons (fun K' h' => ?_) | refine aopsD_cons (fun K' h' => ?_) | refine aopsM_cons (fun K' h' => ?_)); simp only [go_sem, simprocAttr, hgs, Node.cells, htk]; (try ((first | refine ⟨_, hA, ?_⟩ | refine ⟨_, fun _ => hA, ?_⟩ | refine ⟨_, hPt, ?_⟩ | refine ⟨_, fun _ => hPt, ?_⟩ | refine ⟨_, hV, ?_⟩ | refine ⟨_, fun _ => hV, ?_⟩ | refine ⟨_, hFo, ?_⟩ | refine ⟨_, fun _ => hFo, ?_⟩ | refine ⟨_, hI, ?_⟩ | refine ⟨_, fun _ => hI, ?_⟩); (try simp only [go_sem, simprocAttr, hgs, Node.cells, htk]))); (try simp (disch := omega) only [wrap_id, getD_map_in, Int.toNat_natCast, Node.cells, htk]); (repeat (refine And.intro (by (first | omega | (simp; done) | (simp; omega) | assumption)) ?_)); refine h' _ ?_; clear h' K') | (refine aops_nil (hK _ ?_); clear hK K hgs gs; try simp only [aThen, aBlock]) | (refine aops_consF [] (fun K' h' => ?_); simp only [go_sem, simprocAttr, hgs, Node.cells, htk]; refine ⟨_, hB, ?_⟩; (try simp only [go_sem, simprocAttr, hgs, Node.cells, htk]); (repeat (refine And.intro (by (first | omega | (simp; done) | (simp; omega) | assumption)) ?_)); refine h' _ ?_; clear h' K') | ((first | refine AWp.sreg (id := 11) dd12 rfl (fun gs K hgs hK => ?_) | refine AWp.reg (id := 11) dd12 rfl (fun gs K hgs hK => ?_)); replace hgs : gs 2 = some 45 := hgs 2) | (refine AWp.sreg  dd12 rfl (fun gs K hgs hK => ?_); replace hgs : Nat.succ 0 = 1 := rfl) | refine AWp.seq ?_ | refine ARounds.step ?_ | refine AWp.block ?_ | refine AWp.label ?_ | (refine AWp.ret ?_; try simp only [aThen, aBlock]) | (refine AWp.skip ?_; try simp only [aThen, aBlock]) | (refine AWp.exit ?_; try simp only [aThen, aBlock, Nat.reduceEqDiff, reduceIte]) | (refine AWp.reg  dd12 rfl (fun gs K hgs hK => ?_); replace hgs : Nat.succ 0 = 1 := rfl) | ((first | refine AWp.sregM (id := 12) fo12 (false, false) mo_fact (by kernel_rfl) (by kernel_rfl) (fun gs K hgs hK => ?_) | refine AWp.regM (id := 12) fo12 (false, false) mo_fact (by kernel_rfl) (by kernel_rfl) (fun gs K hgs hK => ?_)); replace hgs : Nat.succ 0 = 1 := rfl) | (refine aopsM_nil (hK _ ?_); clear hK K hgs gs; simp only [fo12]; simp only [ASt.prune, pruneE, keepB, keepR, Bool.or_false, Bool.or_true, Bool.true_or, Bool.false_or, reduceIte, Bool.or_self, Bool.false_eq_true, aThen, aBlock, Nat.reduceEqDiff]) | (refine aops_consG (fun K' h' => ?_); simp only [go_sem, simprocAttr, hgs, Node.cells, htk]; (try simp (disch := omega) only [wrap_id, getD_map_in, Int.toNat_natCast, Node.cells, htk]); (repeat (refine And.intro (by (first | omega | (simp; done) | (simp; omega) | assumption)) ?_)); refine h' _ ?_; clear h' K') | (refine AWp.cond rfl (fun h => ?_) (fun h => ?_) <;> (try simp only [decide_eq_true_eq, decide_eq_false_iff_not, beq_iff_eq, bne_iff_ne, ne_eq, Bool.not_eq_true', Bool.not_eq_false', beq_eq_false_iff_ne, Bool.true_eq_false, Bool.false_eq_true, Int.not_le, Int.not_lt, Bool.and_eq_true, Bool.and_eq_false_iff, Bool.or_eq_true, Bool.or_eq_false_iff, bne_eq_false_iff_eq, reduceCtorEq] at h) <;> (try first | contradiction | (exfalso; omega) | (exfalso; revert h; simp; done) | (exfalso; revert h; simp; omega)))))
        simp only [Out, outA, outL, resA, go_sem, simprocAttr]
        exact AVle.refl _
      · obtain ⟨hj, hI2, hv, hsame, hlt⟩ := hI.step hx
        have hfs := hI.len
        have hix : ((s0.length : Int) + 1 - 1).toNat = s0.length := by omega
        have hsl : (s0 ++ [j]).length = s0.length + 1 := by simp
        have hs60 : s0.length < 60 := by have := todo_len e (s0 ++ [j]); have := hI.td; omega
        have hcl : ((s0.length + 1 : Nat) : Int) = (s0.length : Int) + 1 := by omega
        obtain ⟨X, hX⟩ : ∃ X, ((s0 ++ [j]) ++ gb).map natN = X := ⟨_, rfl⟩
        have hXg : X.getD s0.length [] = [.lit (.int .i64 (j : Int))] := by rw [← hX]; simp [List.getD_eq_getElem?_getD, natN]
        have hXl : s0.length < X.length := by rw [← hX]; simp
        have hXt : X.take s0.length = s0.map natN := by rw [← hX]; simp
        simp only [hsl, hX, hcl]
        have P := hx.partAt ht hn hj
        have hab : ∀ x ∈ l, -2000 ≤ x.a ∧ x.a ≤ 2000 ∧ -2000 ≤ x.b ∧ x.b ≤ 2000 := fun x hxm => by
          have := e.ab_bd 0 x (hx.2 ▸ hxm)
          omega
        have he0 := (ofE_0 h0).1
        have htr : ∃ e', treeO l = some e' := by obtain ⟨e', h, _⟩ := errL_ok he0; exact ⟨e', h⟩
        obtain ⟨e', htr⟩ := htr
        have hu := (treeO_some htr).uniq hx
        have hPt := nPart_ok j (by omega) he0 htr hj hab
        rw [hu.1, P.cut] at hPt
        have hV := value_c ((e.subE j).fl 0) (by rw [Ex.fl_length]; have := P.sz; omega) (Ex.nB_fl _ 0 P.wf P.nB)
        have hoe : ofE ((e.subE j).fl 0) = 0 := ofE_ty P.wf (by have := P.sz; omega) (by have := P.dp; omega) P.typ
        have hvB : vB ((e.subE j).fl 0) = (e.subE j).fixed := by
          unfold vB
          rw [hoe, Ex.fixL_fl _ 0 P.wf]; simp
        have hvI : vI ((e.subE j).fl 0) = if (e.subE j).fixed = true then (e.subE j).val rc0 else 0 := by
          unfold vI
          have := (e.subE j).sz_pos
          rw [hvB, Ex.fl_length, Ex.val_at rc0 P.wf _ (by omega), Ex.subE_end]
        rw [hvB, hvI, hoe] at hV
        have hFo := form_c ((e.subE j).val rc0) (givesB (e.subE j).hd.kind) (e.subE j).hd.pos (Ex.val_B rc0_B P.nB) (Ex.hd_ok P.wf).p0 (Ex.hd_ok P.wf).p1
        have hy := P.node
        have hPs := parts_c (e.subE j).hd.kind
        rw [partsE_0 (Ex.hd_ok P.wf).k1 (Ex.hd_ok P.wf).k2] at hPs
        have hI := into_c (fs.set j (frm (e.subE j))) j (by simp; omega)
        rw [hv] at hI
        unfold formsV at hI
        clear htr hu hab he0
        cases hfm : frm (e.subE j)
        case' some g =>
          obtain ⟨hfx, hfo⟩ := frm_fixed hfm
          rw [hfx, if_pos rfl] at hV
          rw [hfo] at hFo
          rw [hfm] at hI2 hv hI
          have hnl : nextL e j = [] := by unfold nextL; rw [hfm]
          rw [hnl, List.append_nil] at hI2 hlt
          obtain ⟨fs', hfs'⟩ : ∃ x, fs.set j (some g) = x := ⟨_, rfl⟩
          have hst : (fs.map fe).set j [nodesV (g.fl 0), .lit (.bool true)] = fs'.map fe := by rw [← hfs', List.map_set]; rfl
          rw [hfs'] at hI2 hv hI
          have hfl' := hI2.len
          have htk : (fs'.map fe).take l.length = fs'.map fe := List.take_of_length_le (by simp; omega)
          simp only [fe] at hFo
          have hk := (e.subE j).nodeA_kind j
          have hp := (e.subE j).nodeA_pos j
          rw [← hk, ← hp] at hFo
          generalize (e.subE j).nodeA j = y at *
          generalize (e.subE j).fl 0 = cl at *
          generalize (e.subE j).val rc0 = v at *
          generalize g.fl 0 = gl at *
          obtain ⟨kd, nn, xa, xb, xp⟩ := y
          simp only at hFo
          have htb : (List.map (fun b => [AV.lit (Value.bool b)]) (List.map (fun x => givesB x.kind) l)).getD j [] = [.lit (.bool (givesB kd))] := by
            have hy2 := hy
            rw [List.getD_eq_getElem?_getD, List.getElem?_eq_getElem hj] at hy2
            simp only [Option.getD_some] at hy2
            rw [List.getD_eq_getElem?_getD, List.getElem?_map, List.getElem?_map, List.getElem?_eq_getElem hj, hy2]; rfl
          clear hk hp hoe hvB hvI hfm hfo hfx hPs P hsame
          unfold nodesV at *
        case' none =>
          have hfd : (e.subE j).fixed = false ∨ ((e.subE j).fixed = true ∧ formE ((e.subE j).val rc0) (givesB (e.subE j).hd.kind) (e.subE j).hd.pos = none) := by
            have h := hfm
            unfold frm at h
            split at h
            · exact .inr ⟨by assumption, h⟩
            · rename_i h'
              exact .inl (by simpa using h')
          have hset := hsame hfm
          rw [hset] at hI2 hv hI
          rw [hfm] at hset hI
          have hst : (fs.map fe).set j [.lit (.slice none 0 0), .lit (.bool false)] = fs.map fe := by
            have := congrArg (List.map fe) hset
            rw [List.map_set] at this
            exact this
          have htk : (fs.map fe).take l.length = fs.map fe := List.take_of_length_le (by simp; omega)
          have hok := Ex.hd_ok P.wf
          have hwf := P.wf
          have htb : (List.map (fun b => [AV.lit (Value.bool b)]) (List.map (fun x => givesB x.kind) l)).getD j [] = [.lit (.bool (givesB (e.subE j).hd.kind))] := by
            have hy2 := hy
            rw [List.getD_eq_getElem?_getD, List.getElem?_eq_getElem hj] at hy2
            simp only [Option.getD_some] at hy2
            rw [List.getD_eq_getElem?_getD, List.getElem?_map, List.getElem?_map, List.getElem?_eq_getElem hj, hy2, Option.map_some, Option.map_some, Ex.nodeA_kind]; rfl
          have hoeL := e.sz_pos
          clear hoe hvB hvI hsame P hset hsl
          generalize Ex.fl 0 (e.subE j) = cl at *
          generalize Ex.val rc0 (e.subE j) = v at *
          generalize (e.subE j).fixed = fx at *
          cases hs : e.subE j
          case' leaf x =>
            have hnl : nextL e j = [] := by unfold nextL; rw [hfm, hs]
            rw [hnl] at hI2 hlt
            rw [List.append_nil] at hI2 hlt
            rw [hs] at hy hwf hPs hFo hfd htb
            rw [show partsN (Ex.leaf x).hd.kind = 0 from partsN_leaf hwf.1 hwf.2] at hPs
            simp only [Ex.nodeA, Hd.node, Ex.hd] at hy hPs hFo hfd htb
            clear hs hfm hnl hwf hok
          case' un x g =>
            have hnl : nextL e j = [j - 1] := by unfold nextL; rw [hfm, hs]
            rw [hnl] at hI2 hlt
            rw [hs] at hy hwf hPs hFo hfd htb
            rw [show partsN (Ex.un x g).hd.kind = 1 from partsN_un hwf.2.1 hwf.2.2.1] at hPs
            simp only [Ex.nodeA, Hd.node, Ex.hd] at hy hPs hFo hfd htb
            clear hs hfm hnl hwf hok
          case' bin x g k =>
            have hnl : nextL e j = [j - 1 - k.sz, j - 1] := by unfold nextL; rw [hfm, hs]
            rw [hnl] at hI2 hlt
            rw [hs] at hy hwf hPs hFo hfd htb
            rw [show partsN (Ex.bin x g k).hd.kind = 2 from partsN_bin hwf.1 hwf.2.1] at hPs
            simp only [Ex.nodeA, Hd.node, Ex.hd] at hy hPs hFo hfd htb
            clear hs hfm hnl hwf hok
          all_goals rcases hfd with hfx | ⟨hfx, hfo⟩
          all_goals rw [hfx] at hV
          all_goals first
            | (rw [if_neg (by decide)] at hV; clear hFo)
            | (rw [if_pos rfl] at hV; rw [hfo] at hFo; simp only [fe] at hFo)
          all_goals
            obtain ⟨kd, nn, xp⟩ := x
            simp only at *
            clear hfx
            unfold nodesV at *
        all_goals
          iterate 27 try (any_goals (first | ((first | refine aops_cons (fun K' h' => ?_) | refine aopsD_cons (fun K' h' => ?_) | refine aopsM_cons (fun K' h' => ?_) | refine aopsP_cons (fun K' h' => ?_)); simp only [go_sem, simprocAttr, Node.cells, hix, hXg, hcl, Nat.sub_zero]; (try ((first | refine ⟨_, hPs, ?_⟩ | refine ⟨_, fun _ => hPs, ?_⟩ | refine ⟨_, hI, ?_⟩ | refine ⟨_, fun _ => hI, ?_⟩); (try simp only [go_sem, simprocAttr, Node.cells, hix, hXg, hcl, Nat.sub_zero]))); (try simp (disch := omega) only [wrap_id, getD_map_in, Int.toNat_natCast, Node.cells, hix, hXg, hcl, Nat.sub_zero]); (repeat (refine And.intro (by (first | omega | (simp; done) | (simp; omega) | assumption)) ?_)); refine h' _ ?_; clear h' K') | (refine aops_nil (hK _ ?_); clear hK K gs; try simp only [aThen, aBlock, aNoGoto]) | (refine J.AWp.sreg  dd66 rfl (fun gs K hgs hK => ?_); clear hgs) | refine J.AWp.seq ?_ | refine ARounds.step ?_ | refine J.AWp.block ?_ | refine J.AWp.label ?_ | (refine J.AWp.ret ?_; try simp only [aThen, aBlock, aNoGoto]) | (refine J.AWp.skip ?_; try simp only [aThen, aBlock, aNoGoto]) | (refine J.AWp.exit ?_; try simp only [aThen, aBlock, aNoGoto, Nat.reduceEqDiff, reduceIte]) | (refine J.AWp.reg  dd66 rfl (fun gs K hgs hK => ?_); clear hgs) | (refine J.AWp.sregP (id := 11) foJ66 (false, false) mo_fact (by kernel_rfl) (by kernel_rfl) (fun gs K hgs hK => ?_); clear hgs) | (refine J.AWp.regP (id := 11) foJ66 (false, false) mo_fact (by kernel_rfl) (by kernel_rfl) (fun gs K hgs hK => ?_); clear hgs) | (refine aopsP_nil (hK _ ?_); clear hK K gs; simp only [foJ66]; simp only [ASt.prune, pruneE, keepB, keepR, Bool.or_false, Bool.or_true, Bool.true_or, Bool.false_or, reduceIte, Bool.or_self, Bool.false_eq_true, aThen, aBlock, Nat.reduceEqDiff]) | (refine J.AWp.cond rfl (fun h => ?_) (fun h => ?_) <;> (try simp only [decide_eq_true_eq, decide_eq_false_iff_not, beq_iff_eq, bne_iff_ne, ne_eq, Bool.not_eq_true', Bool.not_eq_false', beq_eq_false_iff_ne, Bool.true_eq_false, Bool.false_eq_true, Int.not_le, Int.not_lt, Bool.and_eq_true, Bool.and_eq_false_iff, Bool.or_eq_true, Bool.or_eq_false_iff, bne_eq_false_iff_eq, reduceCtorEq] at h) <;> (try first | contradiction | (exfalso; omega) | (exfalso; revert h; simp; done) | (exfalso; revert h; simp; omega))) | (refine J.AWp.scope ?_)))
          refine J.AWp.seq ?_
          refine J.AWp.yield2 [1, 2, 3, 4, 6] hG (by decide) rfl hlo hT (by decide) (by decide) (fun t e => by cases e; decide) rfl rfl ?_
          intro gs K0 hgs hK
          clear hgs
          simp only [ASt.drop, dropE, keepR, Nat.reduceEqDiff, reduceIte, Bool.or_false, Bool.false_eq_true, Nat.beq, List.any_nil, List.any_cons, cond_true, cond_false, Nat.sub_zero]
          iterate 2 (refine aops_cons (fun K' h' => ?_); simp only [go_sem, simprocAttr, Node.cells, hix, hXg, hcl, Nat.sub_zero]; (try simp (disch := omega) only [wrap_id, getD_map_in, Int.toNat_natCast, Node.cells, hix, hXg, hcl, Nat.sub_zero]); (repeat (refine And.intro (by (first | omega | (simp; done) | (simp; omega) | assumption)) ?_)); refine h' _ ?_; clear h' K')
          refine aops_nil (hK _ ⟨_, rfl, rfl, fun B => ?_⟩)
          clear hK K0 gs
          simp only [roundE]
          simp only [go_sem, simprocAttr, Node.cells, hix, hXg, hcl, Nat.sub_zero]
          have hgl := splice_fe (fs.getD j default)
          repeat (any_goals (first | ((first | refine aops_cons (fun K' h' => ?_) | refine aopsD_cons (fun K' h' => ?_) | refine aopsM_cons (fun K' h' => ?_)); simp only [go_sem, simprocAttr, hgs, Node.cells, hy, htk, htb, hst, hgl, Nat.sub_zero]; (try ((first | refine ⟨_, hA, ?_⟩ | refine ⟨_, fun _ => hA, ?_⟩ | refine ⟨_, hPt, ?_⟩ | refine ⟨_, fun _ => hPt, ?_⟩ | refine ⟨_, hV, ?_⟩ | refine ⟨_, fun _ => hV, ?_⟩ | refine ⟨_, hFo, ?_⟩ | refine ⟨_, fun _ => hFo, ?_⟩ | refine ⟨_, hI, ?_⟩ | refine ⟨_, fun _ => hI, ?_⟩); (try simp only [go_sem, simprocAttr, hgs, Node.cells, hy, htk, htb, hst, hgl, Nat.sub_zero]))); (try simp (disch := omega) only [wrap_id, getD_map_in, Int.toNat_natCast, Node.cells, hy, htk, htb, hst, hgl, Nat.sub_zero]); (repeat (refine And.intro (by (first | omega | (simp; done) | (simp; omega) | assumption)) ?_)); refine h' _ ?_; clear h' K') | (refine aops_nil (hK _ ?_); clear hK K hgs gs; try simp only [aThen, aBlock]) | (refine aops_consF [] (fun K' h' => ?_); simp only [go_sem, simprocAttr, hgs, Node.cells, hy, htk, htb, hst, hgl, Nat.sub_zero]; refine ⟨_, hB, ?_⟩; (try simp only [go_sem, simprocAttr, hgs, Node.cells, hy, htk, htb, hst, hgl, Nat.sub_zero]); (repeat (refine And.intro (by (first | omega | (simp; done) | (simp; omega) | assumption)) ?_)); refine h' _ ?_; clear h' K') | ((first | refine J.AWp.sreg (id := 11) dd12 rfl (fun gs K hgs hK => ?_) | refine J.AWp.reg (id := 11) dd12 rfl (fun gs K hgs hK => ?_)); replace hgs : gs 2 = some 45 := hgs 2) | (refine J.AWp.sreg  dd12 rfl (fun gs K hgs hK => ?_); replace hgs : Nat.succ 0 = 1 := rfl) | refine J.AWp.seq ?_ | refine ARounds.step ?_ | refine J.AWp.block ?_ | refine J.AWp.label ?_ | (refine J.AWp.ret ?_; try simp only [aThen, aBlock]) | (refine J.AWp.skip ?_; try simp only [aThen, aBlock]) | (refine J.AWp.exit ?_; try simp only [aThen, aBlock, Nat.reduceEqDiff, reduceIte]) | (refine J.AWp.reg  dd12 rfl (fun gs K hgs hK => ?_); replace hgs : Nat.succ 0 = 1 := rfl) | ((first | refine J.AWp.sregM (id := 12) foJ12 (false, false) mo_fact (by kernel_rfl) (by kernel_rfl) (fun gs K hgs hK => ?_) | refine J.AWp.regM (id := 12) foJ12 (false, false) mo_fact (by kernel_rfl) (by kernel_rfl) (fun gs K hgs hK => ?_)); replace hgs : Nat.succ 0 = 1 := rfl) | (refine aopsM_nil (hK _ ?_); clear hK K hgs gs; simp only [foJ12]; simp only [ASt.prune, pruneE, keepB, keepR, Bool.or_false, Bool.or_true, Bool.true_or, Bool.false_or, reduceIte, Bool.or_self, Bool.false_eq_true, aThen, aBlock, Nat.reduceEqDiff]) | (refine aops_consG (fun K' h' => ?_); simp only [go_sem, simprocAttr, hgs, Node.cells, hy, htk, htb, hst, hgl, Nat.sub_zero]; (try simp (disch := omega) only [wrap_id, getD_map_in, Int.toNat_natCast, Node.cells, hy, htk, htb, hst, hgl, Nat.sub_zero]); (repeat (refine And.intro (by (first | omega | (simp; done) | (simp; omega) | assumption)) ?_)); refine h' _ ?_; clear h' K') | (refine J.AWp.cond rfl (fun h => ?_) (fun h => ?_) <;> (try simp only [decide_eq_true_eq, decide_eq_false_iff_not, beq_iff_eq, bne_iff_ne, ne_eq, Bool.not_eq_true', Bool.not_eq_false', beq_eq_false_iff_ne, Bool.true_eq_false, Bool.false_eq_true, Int.not_le, Int.not_lt, Bool.and_eq_true, Bool.and_eq_false_iff, Bool.or_eq_true, Bool.or_eq_false_iff, bne_eq_false_iff_eq, reduceCtorEq] at h) <;> (try first | contradiction | (exfalso; omega) | (exfalso; revert h; simp; done) | (exfalso; revert h; simp; omega)))))
          refine ⟨by simp, ?_⟩
          repeat (any_goals (first | ((first | refine aops_cons (fun K' h' => ?_) | refine aopsD_cons (fun K' h' => ?_) | refine aopsM_cons (fun K' h' => ?_)); simp only [go_sem, simprocAttr, hgs, Node.cells, hy, htk, htb, hst, hgl, Nat.sub_zero]; (try ((first | refine ⟨_, hA, ?_⟩ | refine ⟨_, fun _ => hA, ?_⟩ | refine ⟨_, hPt, ?_⟩ | refine ⟨_, fun _ => hPt, ?_⟩ | refine ⟨_, hV, ?_⟩ | refine ⟨_, fun _ => hV, ?_⟩ | refine ⟨_, hFo, ?_⟩ | refine ⟨_, fun _ => hFo, ?_⟩ | refine ⟨_, hI, ?_⟩ | refine ⟨_, fun _ => hI, ?_⟩); (try simp only [go_sem, simprocAttr, hgs, Node.cells, hy, htk, htb, hst, hgl, Nat.sub_zero]))); (try simp (disch := omega) only [wrap_id, getD_map_in, Int.toNat_natCast, Node.cells, hy, htk, htb, hst, hgl, Nat.sub_zero]); (repeat (refine And.intro (by (first | omega | (simp; done) | (simp; omega) | assumption)) ?_)); refine h' _ ?_; clear h' K') | (refine aops_nil (hK _ ?_); clear hK K hgs gs; try simp only [aThen, aBlock]) | (refine aops_consF [] (fun K' h' => ?_); simp only [go_sem, simprocAttr, hgs, Node.cells, hy, htk, htb, hst, hgl, Nat.sub_zero]; refine ⟨_, hB, ?_⟩; (try simp only [go_sem, simprocAttr, hgs, Node.cells, hy, htk, htb, hst, hgl, Nat.sub_zero]); (repeat (refine And.intro (by (first | omega | (simp; done) | (simp; omega) | assumption)) ?_)); refine h' _ ?_; clear h' K') | ((first | refine J.AWp.sreg (id := 11) dd12 rfl (fun gs K hgs hK => ?_) | refine J.AWp.reg (id := 11) dd12 rfl (fun gs K hgs hK => ?_)); replace hgs : gs 2 = some 45 := hgs 2) | (refine J.AWp.sreg  dd12 rfl (fun gs K hgs hK => ?_); replace hgs : Nat.succ 0 = 1 := rfl) | refine J.AWp.seq ?_ | refine ARounds.step ?_ | refine J.AWp.block ?_ | refine J.AWp.label ?_ | (refine J.AWp.ret ?_; try simp only [aThen, aBlock]) | (refine J.AWp.skip ?_; try simp only [aThen, aBlock]) | (refine J.AWp.exit ?_; try simp only [aThen, aBlock, Nat.reduceEqDiff, reduceIte]) | (refine J.AWp.reg  dd12 rfl (fun gs K hgs hK => ?_); replace hgs : Nat.succ 0 = 1 := rfl) | ((first | refine J.AWp.sregM (id := 12) foJ12 (false, false) mo_fact (by kernel_rfl) (by kernel_rfl) (fun gs K hgs hK => ?_) | refine J.AWp.regM (id := 12) foJ12 (false, false) mo_fact (by kernel_rfl) (by kernel_rfl) (fun gs K hgs hK => ?_)); replace hgs : Nat.succ 0 = 1 := rfl) | (refine aopsM_nil (hK _ ?_); clear hK K hgs gs; simp only [foJ12]; simp only [ASt.prune, pruneE, keepB, keepR, Bool.or_false, Bool.or_true, Bool.true_or, Bool.false_or, reduceIte, Bool.or_self, Bool.false_eq_true, aThen, aBlock, Nat.reduceEqDiff]) | (refine aops_consG (fun K' h' => ?_); simp only [go_sem, simprocAttr, hgs, Node.cells, hy, htk, htb, hst, hgl, Nat.sub_zero]; (try simp (disch := omega) only [wrap_id, getD_map_in, Int.toNat_natCast, Node.cells, hy, htk, htb, hst, hgl, Nat.sub_zero]); (repeat (refine And.intro (by (first | omega | (simp; done) | (simp; omega) | assumption)) ?_)); refine h' _ ?_; clear h' K') | (refine J.AWp.cond rfl (fun h => ?_) (fun h => ?_) <;> (try simp only [decide_eq_true_eq, decide_eq_false_iff_not, beq_iff_eq, bne_iff_ne, ne_eq, Bool.not_eq_true', Bool.not_eq_false', beq_eq_false_iff_ne, Bool.true_eq_false, Bool.false_eq_true, Int.not_le, Int.not_lt, Bool.and_eq_true, Bool.and_eq_false_iff, Bool.or_eq_true, Bool.or_eq_false_iff, bne_eq_false_iff_eq, reduceCtorEq] at h) <;> (try first | contradiction | (exfalso; omega) | (exfalso; revert h; simp; done) | (exfalso; revert h; simp; omega)))))
          refine ⟨trivial, fun gs K hgs hK => ?_⟩
          clear hgs
          simp only [go_sem, simprocAttr, Node.cells, hy, htk, htb, hst, hgl, Nat.sub_zero]
          (refine aops_cons (fun K' h' => ?_); simp only [go_sem, simprocAttr, Node.cells, hy, htk, htb, hst, hgl, Nat.sub_zero]; (try simp (disch := omega) only [wrap_id, getD_map_in, Int.toNat_natCast, Node.cells, hy, htk, htb, hst, hgl, Nat.sub_zero]); (repeat (refine And.intro (by (first | omega | (simp; done) | (simp; omega) | assumption)) ?_)); refine h' _ ?_; clear h' K')
          refine aops_nil (hK _ ?_)
          clear hK K gs
          repeat (any_goals (first | ((first | refine aops_cons (fun K' h' => ?_) | refine aopsD_cons (fun K' h' => ?_) | refine aopsM_cons (fun K' h' => ?_) | refine aopsP_cons (fun K' h' => ?_)); simp only [go_sem, simprocAttr, Node.cells, hy, htk, htb, hst, hgl, Nat.sub_zero, hXt]; (try ((first | refine ⟨_, hPs, ?_⟩ | refine ⟨_, fun _ => hPs, ?_⟩ | refine ⟨_, hI, ?_⟩ | refine ⟨_, fun _ => hI, ?_⟩); (try simp only [go_sem, simprocAttr, Node.cells, hy, htk, htb, hst, hgl, Nat.sub_zero, hXt]))); (try simp (disch := omega) only [wrap_id, getD_map_in, Int.toNat_natCast, Node.cells, hy, htk, htb, hst, hgl, Nat.sub_zero, hXt]); (repeat (refine And.intro (by (first | omega | (simp; done) | (simp; omega) | assumption)) ?_)); refine h' _ ?_; clear h' K') | (refine aops_nil (hK _ ?_); clear hK K gs; try simp only [aThen, aBlock, aNoGoto]) | (refine J.AWp.sreg  dd66 rfl (fun gs K hgs hK => ?_); clear hgs) | refine J.AWp.seq ?_ | refine ARounds.step ?_ | refine J.AWp.block ?_ | refine J.AWp.label ?_ | (refine J.AWp.ret ?_; try simp only [aThen, aBlock, aNoGoto]) | (refine J.AWp.skip ?_; try simp only [aThen, aBlock, aNoGoto]) | (refine J.AWp.exit ?_; try simp only [aThen, aBlock, aNoGoto, Nat.reduceEqDiff, reduceIte]) | (refine J.AWp.reg  dd66 rfl (fun gs K hgs hK => ?_); clear hgs) | (refine J.AWp.cond rfl (fun h => ?_) (fun h => ?_) <;> (try simp only [decide_eq_true_eq, decide_eq_false_iff_not, beq_iff_eq, bne_iff_ne, ne_eq, Bool.not_eq_true', Bool.not_eq_false', beq_eq_false_iff_ne, Bool.true_eq_false, Bool.false_eq_true, Int.not_le, Int.not_lt, Bool.and_eq_true, Bool.and_eq_false_iff, Bool.or_eq_true, Bool.or_eq_false_iff, bne_eq_false_iff_eq, reduceCtorEq] at h) <;> (try first | contradiction | (exfalso; omega) | (exfalso; revert h; simp; done) | (exfalso; revert h; simp; omega))) | (refine J.AWp.scope ?_)))
          (try (refine P3.jregP foJ66 (false, false) mo_fact (by kernel_rfl) (by kernel_rfl) (fun gs K hgs hK => ?_)
                clear hgs
                (repeat (refine P3.aopsP_cons (fun K' h' => ?_); simp only [go_sem, simprocAttr, Node.cells, hy, htk, htb, hst, hgl, Nat.sub_zero, hXt]; (try simp (disch := omega) only [wrap_id, getD_map_in, Int.toNat_natCast, Node.cells, hy, htk, htb, hst, hgl, Nat.sub_zero, hXt]); (repeat (refine And.intro (by (first | omega | (simp; done) | (simp; omega) | assumption)) ?_)); refine h' _ ?_; clear h' K'))
                refine P3.aopsP_nil (hK _ ?_)
                clear hK K gs
                simp only [foJ66]
                simp only [ASt.prune, pruneE, keepB, keepR, Bool.or_false, Bool.or_true, Bool.true_or, Bool.false_or, reduceIte, Bool.or_self, Bool.false_eq_true, aThen, aBlock, Nat.reduceEqDiff]))
          first
            | (refine ⟨(_, j :: gb, _), hI2, Wk.ofCut 7 2 rfl ?_ ?_, hlt⟩
               · (simp [ASt.drop, ← hX]; done)
               · simp [subE, eget, ASt.drop, dropE, keepR, lowE, AV.lowB, lowL, Nat.blt, Nat.ble])
            | (refine ⟨(_, [], _), hI2, Wk.ofCut 7 2 rfl ?_ ?_, hlt⟩
               · (simp [ASt.drop, natN]; done)
               · simp [subE, eget, ASt.drop, dropE, keepR, lowE, AV.lowB, lowL, Nat.blt, Nat.ble])
theorem fold_c (l : List Node) (hl : l.length ≤ 1000) (hn : nodesB l) : ACall Try.prog 12 [nodesV l] (.tup [nodesV (fldR l), .lit (.int .i64 (ofE l))]) := by
  by_cases h0 : ofE l = 0
  · obtain ⟨e, ht, hx, h2, h3, h4, _⟩ := ofE_tree h0
    rw [fldR_ex h0 ht, h0]
    exact fold_ok_c h0 hx h2 h3 h4 hn
  · rw [show fldR l = [] from if_neg h0]
    exact fold_bad l hl h0
end Go.Proofs.Yteohklfoggiojaa
