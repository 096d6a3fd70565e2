/-
  The walk over filtered30.
-/
import Derived.Test.YtjeehkdepoiegaaGreatFilP
import Derived.Test.YtjeehkdepoiegaaGreatFilD
import Derived.Test.YtjeehkdepoiegaaGreatLatS
namespace Go.Proofs.YtjeehkdepoiegaaGreat
open Go.AL Go.RowKit
set_option linter.unusedSimpArgs false
set_option linter.unusedVariables false
set_option maxRecDepth 10000
set_option maxHeartbeats 8000000
theorem newF0_c : ACall Tryz.prog 29 [.lit (.int .i64 0)] (.tup [.agg (fltC lowM (.lit (.slice none 0 0))), .lit (.int .i64 0)]) := by
  unfold fltC lowM
  refine acall_of (n := 15) (rs := [.cell 2 39, .tmp 3]) Tryz.func29 rfl (by kernel_rfl) rfl rfl rfl ?_; simp only [argsE, Nat.reduceAdd]
  repeat (any_goals (first | (refine aops_cons (fun K' h' => ?_); simp only [go_sem, Nat.reduceLT, Nat.reduceLeDiff, Nat.reduceEqDiff, reduceIte, Nat.reduceAdd, Nat.reduceMul, Nat.reduceSub, Int.reduceLT, Int.reduceLE, Int.reduceToNat, Int.reduceNeg, reduceCtorEq, hgs, aopG, bne_self_eq_false, Bool.not_false, beq_self_eq_true]; (try simp (disch := omega) only [wrap_id, getD_map_in, Int.toNat_natCast, aopG, bne_self_eq_false, Bool.not_false, beq_self_eq_true]); (repeat (refine And.intro (by (omega)) ?_)); refine h' _ ?_; clear h' K') | (refine aops_nil (hK _ ?_); clear hK K hgs gs; try simp only [aThen, aBlock]) | ((refine AWp.sreg (id := 1) dd29 rfl (fun gs K hgs hK => ?_)); replace hgs : gs 2 = some 6 := hgs 2) | (refine AWp.sreg  dd29 rfl (fun gs K hgs hK => ?_); replace hgs : Nat.succ 0 = 1 := rfl) | refine AWp.seq ?_ | (refine AWp.ret ?_; try simp only [aThen, aBlock]) | (refine AWp.skip ?_; try simp only [aThen, aBlock]) | (refine AWp.cond rfl (fun h => ?_) (fun h => ?_) <;> (try simp only [decide_eq_true_eq, decide_eq_false_iff_not, beq_iff_eq, bne_iff_ne, ne_eq, Bool.not_eq_true', Bool.not_eq_false', beq_eq_false_iff_ne, Bool.true_eq_false, Bool.false_eq_true, Int.not_le, Int.not_lt, Bool.and_eq_true, Bool.and_eq_false_iff, Bool.or_eq_true, Bool.or_eq_false_iff, bne_eq_false_iff_eq, reduceCtorEq] at h))))
  all_goals first
    | (exfalso; omega)
    | skip
  all_goals simp only [Out, outA, outL, resA, go_sem, Nat.reduceLT, Nat.reduceLeDiff, Nat.reduceEqDiff, reduceIte, Nat.reduceAdd, Nat.reduceMul, Nat.reduceSub, Int.reduceLT, Int.reduceLE, Int.reduceToNat, Int.reduceNeg, reduceCtorEq]
  all_goals exact AVle.tup ⟨AVle.agg ⟨AVle.refl _, AVle.refl _, AVle.refl _, AVle.refl _, AVle.refl _, AVle.nil 11, AVle.nil 5, AVle.nil 5, AVle.nil 3, trivial⟩, AVle.refl _, trivial⟩
theorem split_mem {b : Bool} {r : Rcd} : ∀ {l : List Ev} {m : Int}, r ∈ splitG b m l → ∃ e ∈ l, e.mark = false ∧ r = evRcd e
  | [], m, h => by cases h
  | x :: l, m, h => by
    simp only [splitG, List.mem_append] at h
    rcases h with h | h
    · unfold oneL at h
      split at h
      · cases h
      · rename_i hm
        split at h
        · simp only [List.mem_singleton] at h
          exact ⟨x, by simp, by simpa using hm, h⟩
        · cases h
    · obtain ⟨e, h1, h2⟩ := split_mem h
      exact ⟨e, by simp [h1], h2⟩
theorem prj_of (q : Qry) (r : Rcd) (hq : q.fit) (ha : accE q = 0) (hr : r.B) (ht : isTimeB r.t = true) : ACall Tryz.prog 35 [.agg q.cells, .agg r.cells] (.tup [.agg (projR q r).cells, .lit (.bool (passB q r)), .lit (.int .i64 0)]) := by
  have h := project_c q r hq hr
  have p1 : prjE q r = 0 := if_pos ⟨ha, ht⟩
  rw [show prjB q r = passB q r by unfold prjB; rw [if_pos p1], show prjR q r = projR q r by unfold prjR; rw [if_pos p1], p1] at h
  exact h
theorem wantF_snoc (q : Qry) (l : List Rcd) (k : Nat) (r : Rcd) (hk : k < l.length) (hr : l.getD k default = r) : wantF q (l.take (k + 1)) = wantF q (l.take k) ++ (if passB q r = true then [projR q r] else []) := by
  have : l.take (k + 1) = l.take k ++ [r] := by
    rw [List.getD_eq_getElem?_getD, List.getElem?_eq_getElem hk] at hr
    rw [← hr]
    simp
  unfold wantF
  rw [this, List.filter_append, List.map_append]
  by_cases h : passB q r = true
  · simp [h]
  · simp [h]
theorem filtered_c (q : Qry) (l : List Ev) (p : Int) (hq : q.fit) (ha : accE q = 0) (hok : ∀ e ∈ l, okE e = true) (hl : l.length ≤ 40) (hB : ∀ e ∈ l, (evRcd e).B) (hp : p = 1 ∨ p = 2 ∨ p = 3) :
    ACall Tryz.prog 13 [.agg q.cells, evsV l, msgsV (l.map told), .lit (.int .i64 p)] (.lit (.bool true)) := by
  have h0 : lateE l = 0 := by unfold lateE; rw [if_neg (by omega), if_pos (List.all_eq_true.2 hok)]
  have hSp := split_c l (by omega) h0
  have hNp := newP_c 0
  rw [show newX 0 = 0 from rfl, show (newT 0).cells = splC (.ro 11 []) from rfl] at hNp
  have hround := fun R L k hk => fround_of q l p R L hq ha hok hl hB hp k hk
  have hPjA : ∀ r ∈ splitG false lowM l, ACall Tryz.prog 35 [.agg q.cells, .agg r.cells] (.tup [.agg (projR q r).cells, .lit (.bool (passB q r)), .lit (.int .i64 0)]) := fun r hr => by
    obtain ⟨e, h1, h2, rfl⟩ := split_mem hr
    have h3 := hok e h1
    unfold okE at h3
    rw [if_neg (by rw [h2]; decide)] at h3
    simp only [Bool.and_eq_true] at h3
    exact prj_of q _ hq ha (hB e h1) h3.2
  have hEvA : ∀ e ∈ l, ACall Tryz.prog 17 [.agg e.cells] (.lit (.int .i64 0)) := fun e he => by
    have := event_c e
    unfold errE at this
    rw [if_pos (hok e he)] at this
    exact this
  have g1 := splitG_len false l lowM
  have g2 := splitG_len true l lowM
  have g3 := wantF_len q (splitG false lowM l)
  have hS1 := sameRs_c (passedF q l) (passedF q l) (by unfold passedF; omega) (by unfold passedF; omega)
  rw [decide_eq_true rfl] at hS1
  have b2 : (asideF q l).length ≤ 40 := by
    unfold asideF
    split
    · omega
    · simp
  have hS2 := sameRs_c (asideF q l) (asideF q l) (by omega) (by omega)
  rw [decide_eq_true rfl] at hS2
  have hwn := fun k r => wantF_snoc q (splitG false lowM l) k r
  have hwl := fun k => Nat.le_trans (wantF_len q ((splitG false lowM l).take k)) (List.length_take_le' k _)
  have hpw : passedF q l = wantF q (splitG false lowM l) := rfl
  have has : ∀ lt, q.late = lt → asideF q l = if lt = 2 then splitG true lowM l else [] := fun lt h => by unfold asideF; rw [h]
  have z1 : asideF q (l.take 0) = [] := by unfold asideF; simp [splitG]
  have z2 : passedF q (l.take 0) = [] := by unfold passedF wantF; simp [splitG]
  have z3 : topMark (l.take 0) = lowM := rfl
  have z4 : raisedG lowM (l.take 0) = 0 := rfl
  have z5 : wantF q ((splitG false lowM l).take 0) = [] := rfl
  clear hq ha
  generalize asideF q = AF at *
  generalize passedF q = PF at *
  generalize wantF q = WF at *
  generalize projR q = pj at *
  generalize passB q = pb at *
  generalize hrs : splitG false lowM l = rs at *
  generalize hls : splitG true lowM l = ls at *
  have hround := hround (rs.map Rcd.cells) (ls.map Rcd.cells)
  obtain ⟨ag, ar, sr, jn, wh, ⟨kd, sz, ev⟩, bk, lt⟩ := q
  have has := has lt rfl
  unfold evsV at hSp ⊢
  unfold msgsV
  unfold fltC splC Qry.cells nodesV intsV at *
  have hNf := newF0_c
  unfold fltC at hNf
  refine acall_of (n := 252) (rs := [.tmp 8]) Tryz.func13 rfl (by kernel_rfl) rfl rfl rfl ?_; simp only [argsE, Nat.reduceAdd]
  repeat (any_goals (first | ((refine aops_cons (fun K' h' => ?_)); simp only [go_sem, Nat.reduceLT, Nat.reduceLeDiff, Nat.reduceEqDiff, reduceIte, Nat.reduceAdd, Nat.reduceMul, Nat.reduceSub, Int.reduceLT, Int.reduceLE, Int.reduceToNat, Int.reduceNeg, reduceCtorEq, hgs, aopG, bne_self_eq_false, Bool.not_false, beq_self_eq_true]; (try ((first | refine ⟨_, hNf, ?_⟩ | refine ⟨_, hNp, ?_⟩ | refine ⟨_, hSp, ?_⟩); (try simp only [go_sem, Nat.reduceLT, Nat.reduceLeDiff, Nat.reduceEqDiff, reduceIte, Nat.reduceAdd, Nat.reduceMul, Nat.reduceSub, Int.reduceLT, Int.reduceLE, Int.reduceToNat, Int.reduceNeg, reduceCtorEq, hgs, aopG, bne_self_eq_false, Bool.not_false, beq_self_eq_true]))); (try simp (disch := omega) only [wrap_id, getD_map_in, Int.toNat_natCast, aopG, bne_self_eq_false, Bool.not_false, beq_self_eq_true]); (repeat (refine And.intro (by (omega)) ?_)); refine h' _ ?_; clear h' K') | (refine aops_nil (hK _ ?_); clear hK K hgs gs; try simp only [aThen, aBlock]) | ((refine AWp.sreg (id := 4) dd13 rfl (fun gs K hgs hK => ?_)); replace hgs : gs 2 = some 54 ∧ gs 6 = some 58 := ⟨hgs 2, hgs 6⟩) | (refine AWp.sreg  dd13 rfl (fun gs K hgs hK => ?_); replace hgs : Nat.succ 0 = 1 := rfl) | refine AWp.seq ?_ | refine AWp.block ?_ | (refine AWp.skip ?_; try simp only [aThen, aBlock]) | (refine AWp.cond rfl (fun h => ?_) (fun h => ?_) <;> (try simp only [decide_eq_true_eq, decide_eq_false_iff_not, beq_iff_eq, bne_iff_ne, ne_eq, Bool.not_eq_true', Bool.not_eq_false', beq_eq_false_iff_ne, Bool.true_eq_false, Bool.false_eq_true, Int.not_le, Int.not_lt, Bool.and_eq_true, Bool.and_eq_false_iff, Bool.or_eq_true, Bool.or_eq_false_iff, bne_eq_false_iff_eq, reduceCtorEq] at h))))
  refine AWp.weaken (Wk.nilOwn 16 55 3 rfl (by decide)) ?_
  refine AWp.weaken (Wk.nilOwn 17 55 3 rfl (by decide)) ?_
  refine AWp.loopN l.length (fun _ => True) (fun k => fInv ⟨ag, ar, sr, jn, wh, ⟨kd, sz, ev⟩, bk, lt⟩ l (l.map told) p (rs.map Rcd.cells) (ls.map Rcd.cells) (AF (l.take k)) (PF (l.take k)) (marksC p (raisedG lowM (l.take k) : Nat)) (topMark (l.take k)) k) ?_ ?_
  · rw [z1, z2, z3, z4]
    unfold fInv fltC splC Qry.cells nodesV intsV marksC lowM
    clear hround
    refine Wk.ofCut 3 3 ?_ ?_ ?_
    · simp [lowBx, ASt.drop, ASt.nilOwn, AV.lowB, lowE]
    · simp [ASt.drop, ASt.nilOwn]
    · simp [ASt.nilOwn, eput, subE, eget, ASt.drop, dropE, keepR, lowE, AV.lowB, lowL, Nat.blt, Nat.ble]
  · intro k hk _
    by_cases hkk : k < l.length
    · have h := hround k hkk
      unfold fRound at h
      refine AWp.mono (c := fBody) h ?_
      rintro e s ⟨rfl, hw⟩
      exact ⟨hkk, trivial, hw⟩
    · obtain rfl : k = l.length := by omega
      clear hround z1 z2
      rw [List.take_length]
      have hst := fend_1 ⟨ag, ar, sr, jn, wh, ⟨kd, sz, ev⟩, bk, lt⟩ l (by omega) hEvA p hp rs ls (AF l) (PF l) pj pb WF (by omega) z5 hwn (fun k => Nat.le_trans (hwl k) (by omega)) hpw hPjA (by omega) (by rw [hpw]; omega) hS1 (by rw [← has]; exact hS2)
      clear hS1 hS2 hPjA hEvA hwn hwl has
      unfold fInv fltC splC Qry.cells nodesV intsV at *
      iterate 9 (any_goals (first | ((refine aops_cons (fun K' h' => ?_)); simp only [go_sem, Nat.reduceLT, Nat.reduceLeDiff, Nat.reduceEqDiff, reduceIte, Nat.reduceAdd, Nat.reduceMul, Nat.reduceSub, Int.reduceLT, Int.reduceLE, Int.reduceToNat, Int.reduceNeg, reduceCtorEq, hgs, aopG, bne_self_eq_false, Bool.not_false, beq_self_eq_true]; (try simp (disch := omega) only [wrap_id, getD_map_in, Int.toNat_natCast, aopG, bne_self_eq_false, Bool.not_false, beq_self_eq_true]); (repeat (refine And.intro (by (omega)) ?_)); refine h' _ ?_; clear h' K') | (refine aops_nil (hK _ ?_); clear hK K hgs gs; try simp only [aThen, aBlock]) | (refine AWp.sreg  dd13 rfl (fun gs K hgs hK => ?_); replace hgs : Nat.succ 0 = 1 := rfl) | refine AWp.seq ?_ | (refine AWp.exit ?_; try simp only [aThen, aBlock, Nat.reduceEqDiff, reduceIte]) | (refine AWp.cond rfl (fun h => ?_) (fun h => ?_) <;> (try simp only [decide_eq_true_eq, decide_eq_false_iff_not, beq_iff_eq, bne_iff_ne, ne_eq, Bool.not_eq_true', Bool.not_eq_false', beq_eq_false_iff_ne, Bool.true_eq_false, Bool.false_eq_true, Int.not_le, Int.not_lt, Bool.and_eq_true, Bool.and_eq_false_iff, Bool.or_eq_true, Bool.or_eq_false_iff, bne_eq_false_iff_eq, reduceCtorEq] at h) <;> (try first | (exfalso; omega)))))
      refine AWp.weaken ?_ hst
      refine Wk.ofCut 1 3 ?_ ?_ ?_
      · simp [lowBx, ASt.drop, AV.lowB, lowE]
      · simp [ASt.drop, marksC, marksP]
      · first
        | (simp [subE, eget, ASt.drop, dropE, keepR, lowE, AV.lowB, lowL, Nat.blt, Nat.ble]; done)
        | (simp [subE, eget, ASt.drop, dropE, keepR, lowE, AV.lowB, lowL, Nat.blt, Nat.ble]; omega)
end Go.Proofs.YtjeehkdepoiegaaGreat
