/-
  The law EvalsMade.
-/
import Derived.Test.YtmdnhmcmnojlkaaVShp
import Derived.Test.YtmdnhmcmnojlkaaMadeW
namespace Go.Proofs.Ytmdnhmcmnojlkaa
open Go.AL Go.RowKit
set_option linter.unusedSimpArgs false
set_option linter.unusedVariables false
set_option maxRecDepth 10000
set_option maxHeartbeats 8000000

theorem made2_val {r : Rcd} {a b : List Node} {e f : Ex} (ha : IsEx a e) (hb : IsEx b f) {k : Int} (h1 : 6 < k) (h2 : k ≤ 19) : valAt r (made2 k 0 0 a b) ((made2 k 0 0 a b).length - 1) = doV k (valAt r a (a.length - 1)) (valAt r b (b.length - 1)) := by
  have la : 0 < a.length := by rw [ha.len]; exact e.sz_pos
  have lb : 0 < b.length := by rw [hb.len]; exact f.sz_pos
  have hlen : (made2 k 0 0 a b).length = a.length + b.length + 1 := by simp [made2, Nat.add_assoc]
  have hy : (made2 k 0 0 a b).getD (a.length + b.length) default = ⟨k, 0, (a.length : Int) - 1, (a.length : Int) + b.length - 1, 0⟩ := by
    unfold made2
    rw [List.getD_eq_getElem?_getD, List.getElem?_append_right (by simp)]
    simp
  rw [hlen, Nat.add_sub_cancel]
  have hv := valAt_bin (r := r) (l := made2 k 0 0 a b) (k := a.length + b.length) (by omega)
  rw [hy] at hv
  simp only at hv
  rw [hv (by omega) (by omega) (by omega) (by omega) (by omega)]
  rw [show ((a.length : Int) - 1).toNat = a.length - 1 by omega, show ((a.length : Int) + b.length - 1).toNat = a.length + (b.length - 1) by omega]
  have h0 : a.map (mvN 0) = a := by rw [show mvN 0 = id from funext fun x => by simp [mvN]]; simp
  have v1 := valAt_mv (r := r) (m := made2 k 0 0 a b) (pre := []) (post := b.map (mvN (a.length : Int)) ++ [⟨k, 0, (a.length : Int) - 1, (a.length : Int) + b.length - 1, 0⟩]) ha (d := 0) (by rw [h0]; simp [made2]) rfl (a.length - 1) (by omega)
  have v2 := valAt_mv (r := r) (m := made2 k 0 0 a b) (pre := a) (post := [⟨k, 0, (a.length : Int) - 1, (a.length : Int) + b.length - 1, 0⟩]) hb (d := (a.length : Int)) rfl rfl (b.length - 1) (by omega)
  simp only [List.length_nil, Nat.zero_add] at v1
  rw [v1, v2]
theorem errL_made {l : List Node} {e : Ex} (h : IsEx l e) (h0 : errL l ≠ 0) : errL l = 4 ∨ errL l = 34 := by
  unfold errL at h0 ⊢
  split
  · exact .inl rfl
  · rename_i g
    rw [if_neg g] at h0
    cases ht : treeO l with
    | none => exact absurd h (treeO_none ht e)
    | some f =>
      rw [ht] at h0
      simp only at h0 ⊢
      split
      · exact .inr rfl
      · rename_i g2; rw [if_neg g2] at h0; exact absurd rfl h0

def dd8 : Nat → List (List Nat)
  | 0 => [[], [3], [8]]
  | 1 => [[], [], [19], [20], [], [22], [21, 23], [24], [], [26], [25, 27], [28], [], [30], [29, 31]]
  | 2 => [[0, 1, 2, 7, 32], [], [33]]
  | 3 => [[32], [], [], [35, 36], [37], [], [34], [38], [39]]
  | 4 => [[], [], [], [41, 42], [43], [], [40], [44], [45]]
  | 5 => [[], [10], [46], [47], [12], [49], [48, 50]]
  | 6 => [[0, 1, 2, 7, 9, 11, 51], [], [52]]
  | 7 => [[51], [], [0], [1], [55, 56], [54, 57], [58], [], [53], [59], [60]]
  | 8 => [[], [], [61]]
  | 9 => [[2, 7, 9, 11, 13, 62], [], [63], [64], [14], [66], [65, 67], [68], [], [69, 70], [71]]
  | 10 => [[14, 62], [13], [7], [73, 74], [75], [], [72], [76], [77]]
  | 11 => [[], [2], [9], [11], [79, 80, 81], [82], [], [78], [83], [84]]
  | 12 => [[], [], [85]]
  | 13 => [[15, 17, 18, 86], [16], [87], [88], [], [89, 90], [91]]
  | 14 => [[16, 86], [18], [92], [93], [15], [17], [95, 96], [94, 97], [98], [], [99, 100], [101]]
  | _ => []
theorem emade_law (a b : List Node) (k : Int) (r : Rcd) (hla : a.length ≤ maxLen) (hlb : b.length ≤ maxLen) (hna : nodesB a) (hnb : nodesB b) (hr : r.B) : ACall Try.prog 8 [nodesV a, nodesV b, .lit (.int .u8 k), .agg r.cells] (.lit (.bool true)) := by
  have hGr := great_c a
  have hGr2 := great_c b
  have hrc : r.cells = [.lit (.int .i64 r.key), .lit (.int .i64 r.t), .lit (.int .i64 r.v)] := rfl
  unfold maxLen at hla hlb
  by_cases hg : a.length ≤ 70 ∧ b.length ≤ 70 ∧ 7 ≤ k ∧ k ≤ 19
  · obtain ⟨g1, g2, g3, g4⟩ := hg
    rw [decide_eq_false (by omega)] at hGr hGr2
    have hO := eOf_c a r (by omega) hr hna
    have hO2 := eOf_c b r (by omega) hr hnb
    by_cases h0 : ofE a = 0 ∧ ofE b = 0
    · obtain ⟨ha0, hb0⟩ := h0
      obtain ⟨e, hx, hlen, hp⟩ := ofE_ex ha0
      obtain ⟨f, hy, hlen2, hp2⟩ := ofE_ex hb0
      obtain ⟨ea, -⟩ := ofE_0 ha0
      obtain ⟨eb, -⟩ := ofE_0 hb0
      have hNd := nNode_2 k 0 0 (by omega) g4 rfl (by omega) (by omega) hx hy ea eb
      have hmx : IsEx (made2 k 0 0 a b) (.bin ⟨k, 0, 0⟩ e f) := IsEx.made2 hx hy (x := ⟨k, 0, 0⟩) ⟨by show 1 ≤ k; omega, g4, Int.le_refl 0, .inl rfl, Int.le_refl 0, by show (0 : Int) ≤ 400; omega⟩ (by show 6 < k; omega)
      have hml : (made2 k 0 0 a b).length = a.length + b.length + 1 := by simp [made2, Nat.add_assoc]
      have hmn : nodesB (made2 k 0 0 a b) := by
        intro x hx'
        unfold made2 at hx'
        simp only [List.mem_append, List.mem_map, List.mem_singleton] at hx'
        rcases hx' with (h | ⟨y, h, rfl⟩) | rfl
        · exact hna x h
        · exact hnb y h
        · show i64B 0
          exact ⟨by decide, by decide⟩
      have hO3 := eOf_c (made2 k 0 0 a b) r (by omega) hr hmn
      have hva : ofV r a = valAt r a (a.length - 1) := if_pos ha0
      have hvb : ofV r b = valAt r b (b.length - 1) := if_pos hb0
      have hD := do_c k (ofV r a) (ofV r b) (by rw [hva]; exact valAt_B hr hna _) (by rw [hvb]; exact valAt_B hr hnb _) (by omega) g4
      rw [ha0] at hO
      rw [hb0] at hO2
      unfold partsV at hNd
      simp only [List.map_cons, List.map_nil] at hNd
      rw [hrc] at *
      by_cases hm : errL (made2 k 0 0 a b) = 0
      · rw [if_pos hm, hm] at hNd
        by_cases hm2 : ofE (made2 k 0 0 a b) = 0
        · have hvm : ofV r (made2 k 0 0 a b) = doV k (ofV r a) (ofV r b) := by
            rw [hva, hvb, ← made2_val hx hy (by omega) g4]; exact if_pos hm2
          rw [hm2, hvm] at hO3
          clear hrc hmx hml hmn hva hvb hvm hm hm2 hna hnb hr hx hy ea eb ha0 hb0
          generalize made2 k 0 0 a b = m at *
          generalize doV k (ofV r a) (ofV r b) = w at *
          generalize ofV r a = va at *
          generalize ofV r b = vb at *
          unfold nodesV at *
          refine acall_of (n := 102) (rs := [.tmp 8]) Try.func8 rfl (by kernel_rfl) rfl rfl rfl ?_; simp only [argsE, Nat.reduceAdd]
          repeat (any_goals (first | (refine aops_cons (fun K' h' => ?_); simp only [go_sem, Nat.reduceLT, Nat.reduceLeDiff, Nat.reduceEqDiff, reduceIte, Nat.reduceAdd, Nat.reduceMul, Nat.reduceSub, Int.reduceLT, Int.reduceLE, Int.reduceToNat, Int.reduceNeg, reduceCtorEq, hgs, Node.cells, intC, aopG, bne_self_eq_false, Bool.not_false, beq_self_eq_true, Option.toArray_none, Option.toArray_some, List.toList_toArray]; (try simp (disch := omega) only [wrap_id, getD_map_in, Int.toNat_natCast, Node.cells, intC, aopG, bne_self_eq_false, Bool.not_false, beq_self_eq_true, Option.toArray_none, Option.toArray_some, List.toList_toArray]); (repeat (refine And.intro (by (first | omega | (simp; done) | (simp; omega) | assumption)) ?_)); refine h' _ ?_; clear h' K') | (refine aops_nil (hK _ ?_); clear hK K hgs gs; try simp only [aThen, aBlock]) | ((first | refine aops_cons (fun K' h' => ?_) | refine aopsD_cons (fun K' h' => ?_)); simp only [go_sem, Nat.reduceLT, Nat.reduceLeDiff, Nat.reduceEqDiff, reduceIte, Nat.reduceAdd, Nat.reduceMul, Nat.reduceSub, Int.reduceLT, Int.reduceLE, Int.reduceToNat, Int.reduceNeg, reduceCtorEq, hgs, Node.cells, intC, aopG, bne_self_eq_false, Bool.not_false, beq_self_eq_true, Option.toArray_none, Option.toArray_some, List.toList_toArray]; (first | refine ⟨_, hGr, ?_⟩ | refine ⟨_, fun _ => hGr, ?_⟩ | refine ⟨_, hGr2, ?_⟩ | refine ⟨_, fun _ => hGr2, ?_⟩ | refine ⟨_, hO, ?_⟩ | refine ⟨_, fun _ => hO, ?_⟩ | refine ⟨_, hO2, ?_⟩ | refine ⟨_, fun _ => hO2, ?_⟩ | refine ⟨_, hO3, ?_⟩ | refine ⟨_, fun _ => hO3, ?_⟩ | refine ⟨_, hNd, ?_⟩ | refine ⟨_, fun _ => hNd, ?_⟩ | refine ⟨_, hD, ?_⟩ | refine ⟨_, fun _ => hD, ?_⟩ | refine ⟨_, alive7_c, ?_⟩ | refine ⟨_, fun _ => alive7_c, ?_⟩); (try simp only [go_sem, Nat.reduceLT, Nat.reduceLeDiff, Nat.reduceEqDiff, reduceIte, Nat.reduceAdd, Nat.reduceMul, Nat.reduceSub, Int.reduceLT, Int.reduceLE, Int.reduceToNat, Int.reduceNeg, reduceCtorEq, hgs, Node.cells, intC, aopG, bne_self_eq_false, Bool.not_false, beq_self_eq_true, Option.toArray_none, Option.toArray_some, List.toList_toArray]); (repeat (refine And.intro (by (first | omega | (simp; done) | (simp; omega) | assumption)) ?_)); refine h' _ ?_; clear h' K') | (refine aops_consF [] (fun K' h' => ?_); simp only [go_sem, Nat.reduceLT, Nat.reduceLeDiff, Nat.reduceEqDiff, reduceIte, Nat.reduceAdd, Nat.reduceMul, Nat.reduceSub, Int.reduceLT, Int.reduceLE, Int.reduceToNat, Int.reduceNeg, reduceCtorEq, hgs, Node.cells, intC, aopG, bne_self_eq_false, Bool.not_false, beq_self_eq_true, Option.toArray_none, Option.toArray_some, List.toList_toArray]; refine ⟨_, hNd, ?_⟩; (try simp only [go_sem, Nat.reduceLT, Nat.reduceLeDiff, Nat.reduceEqDiff, reduceIte, Nat.reduceAdd, Nat.reduceMul, Nat.reduceSub, Int.reduceLT, Int.reduceLE, Int.reduceToNat, Int.reduceNeg, reduceCtorEq, hgs, Node.cells, intC, aopG, bne_self_eq_false, Bool.not_false, beq_self_eq_true, Option.toArray_none, Option.toArray_some, List.toList_toArray]); (repeat (refine And.intro (by (first | omega | (simp; done) | (simp; omega) | assumption)) ?_)); refine h' _ ?_; clear h' K') | (refine AWp.sreg (id := 1) dd8 rfl (fun gs K hgs hK => ?_); replace hgs : gs 2 = some 21 ∧ gs 6 = some 25 ∧ gs 10 = some 29 := ⟨hgs 2, hgs 6, hgs 10⟩) | (refine AWp.sreg (id := 5) dd8 rfl (fun gs K hgs hK => ?_); replace hgs : gs 2 = some 48 := hgs 2) | (refine AWp.sreg (id := 9) dd8 rfl (fun gs K hgs hK => ?_); replace hgs : gs 2 = some 65 ∧ gs 6 = some 69 := ⟨hgs 2, hgs 6⟩) | (refine AWp.sreg (id := 13) dd8 rfl (fun gs K hgs hK => ?_); replace hgs : gs 2 = some 89 := hgs 2) | (refine AWp.sreg (id := 14) dd8 rfl (fun gs K hgs hK => ?_); replace hgs : gs 2 = some 94 ∧ gs 7 = some 99 := ⟨hgs 2, hgs 7⟩) | (refine AWp.reg (id := 1) dd8 rfl (fun gs K hgs hK => ?_); replace hgs : gs 2 = some 21 ∧ gs 6 = some 25 ∧ gs 10 = some 29 := ⟨hgs 2, hgs 6, hgs 10⟩) | (refine AWp.reg (id := 5) dd8 rfl (fun gs K hgs hK => ?_); replace hgs : gs 2 = some 48 := hgs 2) | (refine AWp.reg (id := 9) dd8 rfl (fun gs K hgs hK => ?_); replace hgs : gs 2 = some 65 ∧ gs 6 = some 69 := ⟨hgs 2, hgs 6⟩) | (refine AWp.reg (id := 13) dd8 rfl (fun gs K hgs hK => ?_); replace hgs : gs 2 = some 89 := hgs 2) | (refine AWp.reg (id := 14) dd8 rfl (fun gs K hgs hK => ?_); replace hgs : gs 2 = some 94 ∧ gs 7 = some 99 := ⟨hgs 2, hgs 7⟩) | (refine AWp.sreg  dd8 rfl (fun gs K hgs hK => ?_); replace hgs : Nat.succ 0 = 1 := rfl) | refine AWp.seq ?_ | refine ARounds.step ?_ | refine AWp.block ?_ | refine AWp.label ?_ | (refine AWp.ret ?_; try simp only [aThen, aBlock]) | (refine AWp.skip ?_; try simp only [aThen, aBlock]) | (refine AWp.exit ?_; try simp only [aThen, aBlock, Nat.reduceEqDiff, reduceIte]) | (refine AWp.reg  dd8 rfl (fun gs K hgs hK => ?_); replace hgs : Nat.succ 0 = 1 := rfl) | (refine aops_consG (fun K' h' => ?_); simp only [go_sem, Nat.reduceLT, Nat.reduceLeDiff, Nat.reduceEqDiff, reduceIte, Nat.reduceAdd, Nat.reduceMul, Nat.reduceSub, Int.reduceLT, Int.reduceLE, Int.reduceToNat, Int.reduceNeg, reduceCtorEq, hgs, Node.cells, intC, aopG, bne_self_eq_false, Bool.not_false, beq_self_eq_true, Option.toArray_none, Option.toArray_some, List.toList_toArray]; (try simp (disch := omega) only [wrap_id, getD_map_in, Int.toNat_natCast, Node.cells, intC, aopG, bne_self_eq_false, Bool.not_false, beq_self_eq_true, Option.toArray_none, Option.toArray_some, List.toList_toArray]); (repeat (refine And.intro (by (first | omega | (simp; done) | (simp; omega) | assumption)) ?_)); refine h' _ ?_; clear h' K') | (refine AWp.cond rfl (fun h => ?_) (fun h => ?_) <;> (try simp only [decide_eq_true_eq, decide_eq_false_iff_not, beq_iff_eq, bne_iff_ne, ne_eq, Bool.not_eq_true', Bool.not_eq_false', beq_eq_false_iff_ne, Bool.true_eq_false, Bool.false_eq_true, Int.not_le, Int.not_lt, Bool.and_eq_true, Bool.and_eq_false_iff, Bool.or_eq_true, Bool.or_eq_false_iff, bne_eq_false_iff_eq, reduceCtorEq] at h) <;> (try first | contradiction | (exfalso; omega) | (exfalso; revert h; simp; done) | (exfalso; revert h; simp; omega)))))
          all_goals first
            | (exfalso; omega)
            | skip
          all_goals simp only [Out, outA, outL, resA, go_sem, Nat.reduceLT, Nat.reduceLeDiff, Nat.reduceEqDiff, reduceIte, Nat.reduceAdd, Nat.reduceMul, Nat.reduceSub, Int.reduceLT, Int.reduceLE, Int.reduceToNat, Int.reduceNeg, reduceCtorEq]
          all_goals exact AVle.of_eq (by simp)
        · have h42 : ofE (made2 k 0 0 a b) = 42 := by
            have := wrongL_le (made2 k 0 0 a b)
            have hu : ofE (made2 k 0 0 a b) = if errL (made2 k 0 0 a b) ≠ 0 then errL (made2 k 0 0 a b) else if wrongL (made2 k 0 0 a b) < (made2 k 0 0 a b).length then 42 else 0 := rfl
            rw [if_neg (fun h => h hm)] at hu
            split at hu
            · exact hu
            · exact absurd hu hm2
          rw [h42] at hO3
          clear hrc hmx hml hmn hva hvb hm hm2 h42 hna hnb hr hx hy ea eb ha0 hb0
          generalize ofV r (made2 k 0 0 a b) = vm at *
          generalize made2 k 0 0 a b = m at *
          generalize doV k (ofV r a) (ofV r b) = w at *
          generalize ofV r a = va at *
          generalize ofV r b = vb at *
          unfold nodesV at *
          refine acall_of (n := 102) (rs := [.tmp 8]) Try.func8 rfl (by kernel_rfl) rfl rfl rfl ?_; simp only [argsE, Nat.reduceAdd]
          repeat (any_goals (first | (refine aops_cons (fun K' h' => ?_); simp only [go_sem, Nat.reduceLT, Nat.reduceLeDiff, Nat.reduceEqDiff, reduceIte, Nat.reduceAdd, Nat.reduceMul, Nat.reduceSub, Int.reduceLT, Int.reduceLE, Int.reduceToNat, Int.reduceNeg, reduceCtorEq, hgs, Node.cells, intC, aopG, bne_self_eq_false, Bool.not_false, beq_self_eq_true, Option.toArray_none, Option.toArray_some, List.toList_toArray]; (try simp (disch := omega) only [wrap_id, getD_map_in, Int.toNat_natCast, Node.cells, intC, aopG, bne_self_eq_false, Bool.not_false, beq_self_eq_true, Option.toArray_none, Option.toArray_some, List.toList_toArray]); (repeat (refine And.intro (by (first | omega | (simp; done) | (simp; omega) | assumption)) ?_)); refine h' _ ?_; clear h' K') | (refine aops_nil (hK _ ?_); clear hK K hgs gs; try simp only [aThen, aBlock]) | ((first | refine aops_cons (fun K' h' => ?_) | refine aopsD_cons (fun K' h' => ?_)); simp only [go_sem, Nat.reduceLT, Nat.reduceLeDiff, Nat.reduceEqDiff, reduceIte, Nat.reduceAdd, Nat.reduceMul, Nat.reduceSub, Int.reduceLT, Int.reduceLE, Int.reduceToNat, Int.reduceNeg, reduceCtorEq, hgs, Node.cells, intC, aopG, bne_self_eq_false, Bool.not_false, beq_self_eq_true, Option.toArray_none, Option.toArray_some, List.toList_toArray]; (first | refine ⟨_, hGr, ?_⟩ | refine ⟨_, fun _ => hGr, ?_⟩ | refine ⟨_, hGr2, ?_⟩ | refine ⟨_, fun _ => hGr2, ?_⟩ | refine ⟨_, hO, ?_⟩ | refine ⟨_, fun _ => hO, ?_⟩ | refine ⟨_, hO2, ?_⟩ | refine ⟨_, fun _ => hO2, ?_⟩ | refine ⟨_, hO3, ?_⟩ | refine ⟨_, fun _ => hO3, ?_⟩ | refine ⟨_, hNd, ?_⟩ | refine ⟨_, fun _ => hNd, ?_⟩ | refine ⟨_, hD, ?_⟩ | refine ⟨_, fun _ => hD, ?_⟩ | refine ⟨_, alive7_c, ?_⟩ | refine ⟨_, fun _ => alive7_c, ?_⟩); (try simp only [go_sem, Nat.reduceLT, Nat.reduceLeDiff, Nat.reduceEqDiff, reduceIte, Nat.reduceAdd, Nat.reduceMul, Nat.reduceSub, Int.reduceLT, Int.reduceLE, Int.reduceToNat, Int.reduceNeg, reduceCtorEq, hgs, Node.cells, intC, aopG, bne_self_eq_false, Bool.not_false, beq_self_eq_true, Option.toArray_none, Option.toArray_some, List.toList_toArray]); (repeat (refine And.intro (by (first | omega | (simp; done) | (simp; omega) | assumption)) ?_)); refine h' _ ?_; clear h' K') | (refine aops_consF [] (fun K' h' => ?_); simp only [go_sem, Nat.reduceLT, Nat.reduceLeDiff, Nat.reduceEqDiff, reduceIte, Nat.reduceAdd, Nat.reduceMul, Nat.reduceSub, Int.reduceLT, Int.reduceLE, Int.reduceToNat, Int.reduceNeg, reduceCtorEq, hgs, Node.cells, intC, aopG, bne_self_eq_false, Bool.not_false, beq_self_eq_true, Option.toArray_none, Option.toArray_some, List.toList_toArray]; refine ⟨_, hNd, ?_⟩; (try simp only [go_sem, Nat.reduceLT, Nat.reduceLeDiff, Nat.reduceEqDiff, reduceIte, Nat.reduceAdd, Nat.reduceMul, Nat.reduceSub, Int.reduceLT, Int.reduceLE, Int.reduceToNat, Int.reduceNeg, reduceCtorEq, hgs, Node.cells, intC, aopG, bne_self_eq_false, Bool.not_false, beq_self_eq_true, Option.toArray_none, Option.toArray_some, List.toList_toArray]); (repeat (refine And.intro (by (first | omega | (simp; done) | (simp; omega) | assumption)) ?_)); refine h' _ ?_; clear h' K') | (refine AWp.sreg (id := 1) dd8 rfl (fun gs K hgs hK => ?_); replace hgs : gs 2 = some 21 ∧ gs 6 = some 25 ∧ gs 10 = some 29 := ⟨hgs 2, hgs 6, hgs 10⟩) | (refine AWp.sreg (id := 5) dd8 rfl (fun gs K hgs hK => ?_); replace hgs : gs 2 = some 48 := hgs 2) | (refine AWp.sreg (id := 9) dd8 rfl (fun gs K hgs hK => ?_); replace hgs : gs 2 = some 65 ∧ gs 6 = some 69 := ⟨hgs 2, hgs 6⟩) | (refine AWp.sreg (id := 13) dd8 rfl (fun gs K hgs hK => ?_); replace hgs : gs 2 = some 89 := hgs 2) | (refine AWp.sreg (id := 14) dd8 rfl (fun gs K hgs hK => ?_); replace hgs : gs 2 = some 94 ∧ gs 7 = some 99 := ⟨hgs 2, hgs 7⟩) | (refine AWp.reg (id := 1) dd8 rfl (fun gs K hgs hK => ?_); replace hgs : gs 2 = some 21 ∧ gs 6 = some 25 ∧ gs 10 = some 29 := ⟨hgs 2, hgs 6, hgs 10⟩) | (refine AWp.reg (id := 5) dd8 rfl (fun gs K hgs hK => ?_); replace hgs : gs 2 = some 48 := hgs 2) | (refine AWp.reg (id := 9) dd8 rfl (fun gs K hgs hK => ?_); replace hgs : gs 2 = some 65 ∧ gs 6 = some 69 := ⟨hgs 2, hgs 6⟩) | (refine AWp.reg (id := 13) dd8 rfl (fun gs K hgs hK => ?_); replace hgs : gs 2 = some 89 := hgs 2) | (refine AWp.reg (id := 14) dd8 rfl (fun gs K hgs hK => ?_); replace hgs : gs 2 = some 94 ∧ gs 7 = some 99 := ⟨hgs 2, hgs 7⟩) | (refine AWp.sreg  dd8 rfl (fun gs K hgs hK => ?_); replace hgs : Nat.succ 0 = 1 := rfl) | refine AWp.seq ?_ | refine ARounds.step ?_ | refine AWp.block ?_ | refine AWp.label ?_ | (refine AWp.ret ?_; try simp only [aThen, aBlock]) | (refine AWp.skip ?_; try simp only [aThen, aBlock]) | (refine AWp.exit ?_; try simp only [aThen, aBlock, Nat.reduceEqDiff, reduceIte]) | (refine AWp.reg  dd8 rfl (fun gs K hgs hK => ?_); replace hgs : Nat.succ 0 = 1 := rfl) | (refine aops_consG (fun K' h' => ?_); simp only [go_sem, Nat.reduceLT, Nat.reduceLeDiff, Nat.reduceEqDiff, reduceIte, Nat.reduceAdd, Nat.reduceMul, Nat.reduceSub, Int.reduceLT, Int.reduceLE, Int.reduceToNat, Int.reduceNeg, reduceCtorEq, hgs, Node.cells, intC, aopG, bne_self_eq_false, Bool.not_false, beq_self_eq_true, Option.toArray_none, Option.toArray_some, List.toList_toArray]; (try simp (disch := omega) only [wrap_id, getD_map_in, Int.toNat_natCast, Node.cells, intC, aopG, bne_self_eq_false, Bool.not_false, beq_self_eq_true, Option.toArray_none, Option.toArray_some, List.toList_toArray]); (repeat (refine And.intro (by (first | omega | (simp; done) | (simp; omega) | assumption)) ?_)); refine h' _ ?_; clear h' K') | (refine AWp.cond rfl (fun h => ?_) (fun h => ?_) <;> (try simp only [decide_eq_true_eq, decide_eq_false_iff_not, beq_iff_eq, bne_iff_ne, ne_eq, Bool.not_eq_true', Bool.not_eq_false', beq_eq_false_iff_ne, Bool.true_eq_false, Bool.false_eq_true, Int.not_le, Int.not_lt, Bool.and_eq_true, Bool.and_eq_false_iff, Bool.or_eq_true, Bool.or_eq_false_iff, bne_eq_false_iff_eq, reduceCtorEq] at h) <;> (try first | contradiction | (exfalso; omega) | (exfalso; revert h; simp; done) | (exfalso; revert h; simp; omega)))))
          all_goals first
            | (exfalso; omega)
            | skip
          all_goals simp only [Out, outA, outL, resA, go_sem, Nat.reduceLT, Nat.reduceLeDiff, Nat.reduceEqDiff, reduceIte, Nat.reduceAdd, Nat.reduceMul, Nat.reduceSub, Int.reduceLT, Int.reduceLE, Int.reduceToNat, Int.reduceNeg, reduceCtorEq]
          all_goals exact AVle.of_eq (by simp)
      · rw [if_neg hm] at hNd
        have h4 := errL_made hmx hm
        clear hrc hmx hml hmn hva hvb hm hna hnb hr hx hy ea eb ha0 hb0 hO3 hD
        generalize errL (made2 k 0 0 a b) = em at *
        generalize ofV r a = va at *
        generalize ofV r b = vb at *
        unfold nodesV at *
        rcases h4 with rfl | rfl
        all_goals
          refine acall_of (n := 102) (rs := [.tmp 8]) Try.func8 rfl (by kernel_rfl) rfl rfl rfl ?_; simp only [argsE, Nat.reduceAdd]
          repeat (any_goals (first | (refine aops_cons (fun K' h' => ?_); simp only [go_sem, Nat.reduceLT, Nat.reduceLeDiff, Nat.reduceEqDiff, reduceIte, Nat.reduceAdd, Nat.reduceMul, Nat.reduceSub, Int.reduceLT, Int.reduceLE, Int.reduceToNat, Int.reduceNeg, reduceCtorEq, hgs, Node.cells, intC, aopG, bne_self_eq_false, Bool.not_false, beq_self_eq_true, Option.toArray_none, Option.toArray_some, List.toList_toArray]; (try simp (disch := omega) only [wrap_id, getD_map_in, Int.toNat_natCast, Node.cells, intC, aopG, bne_self_eq_false, Bool.not_false, beq_self_eq_true, Option.toArray_none, Option.toArray_some, List.toList_toArray]); (repeat (refine And.intro (by (first | omega | (simp; done) | (simp; omega) | assumption)) ?_)); refine h' _ ?_; clear h' K') | (refine aops_nil (hK _ ?_); clear hK K hgs gs; try simp only [aThen, aBlock]) | ((first | refine aops_cons (fun K' h' => ?_) | refine aopsD_cons (fun K' h' => ?_)); simp only [go_sem, Nat.reduceLT, Nat.reduceLeDiff, Nat.reduceEqDiff, reduceIte, Nat.reduceAdd, Nat.reduceMul, Nat.reduceSub, Int.reduceLT, Int.reduceLE, Int.reduceToNat, Int.reduceNeg, reduceCtorEq, hgs, Node.cells, intC, aopG, bne_self_eq_false, Bool.not_false, beq_self_eq_true, Option.toArray_none, Option.toArray_some, List.toList_toArray]; (first | refine ⟨_, hGr, ?_⟩ | refine ⟨_, fun _ => hGr, ?_⟩ | refine ⟨_, hGr2, ?_⟩ | refine ⟨_, fun _ => hGr2, ?_⟩ | refine ⟨_, hO, ?_⟩ | refine ⟨_, fun _ => hO, ?_⟩ | refine ⟨_, hO2, ?_⟩ | refine ⟨_, fun _ => hO2, ?_⟩ | refine ⟨_, hO3, ?_⟩ | refine ⟨_, fun _ => hO3, ?_⟩ | refine ⟨_, hNd, ?_⟩ | refine ⟨_, fun _ => hNd, ?_⟩ | refine ⟨_, hD, ?_⟩ | refine ⟨_, fun _ => hD, ?_⟩ | refine ⟨_, alive7_c, ?_⟩ | refine ⟨_, fun _ => alive7_c, ?_⟩); (try simp only [go_sem, Nat.reduceLT, Nat.reduceLeDiff, Nat.reduceEqDiff, reduceIte, Nat.reduceAdd, Nat.reduceMul, Nat.reduceSub, Int.reduceLT, Int.reduceLE, Int.reduceToNat, Int.reduceNeg, reduceCtorEq, hgs, Node.cells, intC, aopG, bne_self_eq_false, Bool.not_false, beq_self_eq_true, Option.toArray_none, Option.toArray_some, List.toList_toArray]); (repeat (refine And.intro (by (first | omega | (simp; done) | (simp; omega) | assumption)) ?_)); refine h' _ ?_; clear h' K') | (refine aops_consF [] (fun K' h' => ?_); simp only [go_sem, Nat.reduceLT, Nat.reduceLeDiff, Nat.reduceEqDiff, reduceIte, Nat.reduceAdd, Nat.reduceMul, Nat.reduceSub, Int.reduceLT, Int.reduceLE, Int.reduceToNat, Int.reduceNeg, reduceCtorEq, hgs, Node.cells, intC, aopG, bne_self_eq_false, Bool.not_false, beq_self_eq_true, Option.toArray_none, Option.toArray_some, List.toList_toArray]; refine ⟨_, hNd, ?_⟩; (try simp only [go_sem, Nat.reduceLT, Nat.reduceLeDiff, Nat.reduceEqDiff, reduceIte, Nat.reduceAdd, Nat.reduceMul, Nat.reduceSub, Int.reduceLT, Int.reduceLE, Int.reduceToNat, Int.reduceNeg, reduceCtorEq, hgs, Node.cells, intC, aopG, bne_self_eq_false, Bool.not_false, beq_self_eq_true, Option.toArray_none, Option.toArray_some, List.toList_toArray]); (repeat (refine And.intro (by (first | omega | (simp; done) | (simp; omega) | assumption)) ?_)); refine h' _ ?_; clear h' K') | (refine AWp.sreg (id := 1) dd8 rfl (fun gs K hgs hK => ?_); replace hgs : gs 2 = some 21 ∧ gs 6 = some 25 ∧ gs 10 = some 29 := ⟨hgs 2, hgs 6, hgs 10⟩) | (refine AWp.sreg (id := 5) dd8 rfl (fun gs K hgs hK => ?_); replace hgs : gs 2 = some 48 := hgs 2) | (refine AWp.sreg (id := 9) dd8 rfl (fun gs K hgs hK => ?_); replace hgs : gs 2 = some 65 ∧ gs 6 = some 69 := ⟨hgs 2, hgs 6⟩) | (refine AWp.sreg (id := 13) dd8 rfl (fun gs K hgs hK => ?_); replace hgs : gs 2 = some 89 := hgs 2) | (refine AWp.sreg (id := 14) dd8 rfl (fun gs K hgs hK => ?_); replace hgs : gs 2 = some 94 ∧ gs 7 = some 99 := ⟨hgs 2, hgs 7⟩) | (refine AWp.reg (id := 1) dd8 rfl (fun gs K hgs hK => ?_); replace hgs : gs 2 = some 21 ∧ gs 6 = some 25 ∧ gs 10 = some 29 := ⟨hgs 2, hgs 6, hgs 10⟩) | (refine AWp.reg (id := 5) dd8 rfl (fun gs K hgs hK => ?_); replace hgs : gs 2 = some 48 := hgs 2) | (refine AWp.reg (id := 9) dd8 rfl (fun gs K hgs hK => ?_); replace hgs : gs 2 = some 65 ∧ gs 6 = some 69 := ⟨hgs 2, hgs 6⟩) | (refine AWp.reg (id := 13) dd8 rfl (fun gs K hgs hK => ?_); replace hgs : gs 2 = some 89 := hgs 2) | (refine AWp.reg (id := 14) dd8 rfl (fun gs K hgs hK => ?_); replace hgs : gs 2 = some 94 ∧ gs 7 = some 99 := ⟨hgs 2, hgs 7⟩) | (refine AWp.sreg  dd8 rfl (fun gs K hgs hK => ?_); replace hgs : Nat.succ 0 = 1 := rfl) | refine AWp.seq ?_ | refine ARounds.step ?_ | refine AWp.block ?_ | refine AWp.label ?_ | (refine AWp.ret ?_; try simp only [aThen, aBlock]) | (refine AWp.skip ?_; try simp only [aThen, aBlock]) | (refine AWp.exit ?_; try simp only [aThen, aBlock, Nat.reduceEqDiff, reduceIte]) | (refine AWp.reg  dd8 rfl (fun gs K hgs hK => ?_); replace hgs : Nat.succ 0 = 1 := rfl) | (refine aops_consG (fun K' h' => ?_); simp only [go_sem, Nat.reduceLT, Nat.reduceLeDiff, Nat.reduceEqDiff, reduceIte, Nat.reduceAdd, Nat.reduceMul, Nat.reduceSub, Int.reduceLT, Int.reduceLE, Int.reduceToNat, Int.reduceNeg, reduceCtorEq, hgs, Node.cells, intC, aopG, bne_self_eq_false, Bool.not_false, beq_self_eq_true, Option.toArray_none, Option.toArray_some, List.toList_toArray]; (try simp (disch := omega) only [wrap_id, getD_map_in, Int.toNat_natCast, Node.cells, intC, aopG, bne_self_eq_false, Bool.not_false, beq_self_eq_true, Option.toArray_none, Option.toArray_some, List.toList_toArray]); (repeat (refine And.intro (by (first | omega | (simp; done) | (simp; omega) | assumption)) ?_)); refine h' _ ?_; clear h' K') | (refine AWp.cond rfl (fun h => ?_) (fun h => ?_) <;> (try simp only [decide_eq_true_eq, decide_eq_false_iff_not, beq_iff_eq, bne_iff_ne, ne_eq, Bool.not_eq_true', Bool.not_eq_false', beq_eq_false_iff_ne, Bool.true_eq_false, Bool.false_eq_true, Int.not_le, Int.not_lt, Bool.and_eq_true, Bool.and_eq_false_iff, Bool.or_eq_true, Bool.or_eq_false_iff, bne_eq_false_iff_eq, reduceCtorEq] at h) <;> (try first | contradiction | (exfalso; omega) | (exfalso; revert h; simp; done) | (exfalso; revert h; simp; omega)))))
          all_goals first
            | (exfalso; omega)
            | skip
          all_goals simp only [Out, outA, outL, resA, go_sem, Nat.reduceLT, Nat.reduceLeDiff, Nat.reduceEqDiff, reduceIte, Nat.reduceAdd, Nat.reduceMul, Nat.reduceSub, Int.reduceLT, Int.reduceLE, Int.reduceToNat, Int.reduceNeg, reduceCtorEq]
          all_goals exact AVle.of_eq (by simp)
    · rw [hrc] at *
      clear hrc hna hnb hr
      generalize ofE a = ea at *
      generalize ofE b = eb at *
      generalize ofV r a = va at *
      generalize ofV r b = vb at *
      unfold nodesV at *
      refine acall_of (n := 102) (rs := [.tmp 8]) Try.func8 rfl (by kernel_rfl) rfl rfl rfl ?_; simp only [argsE, Nat.reduceAdd]
      repeat (any_goals (first | (refine aops_cons (fun K' h' => ?_); simp only [go_sem, Nat.reduceLT, Nat.reduceLeDiff, Nat.reduceEqDiff, reduceIte, Nat.reduceAdd, Nat.reduceMul, Nat.reduceSub, Int.reduceLT, Int.reduceLE, Int.reduceToNat, Int.reduceNeg, reduceCtorEq, hgs, Node.cells, intC, aopG, bne_self_eq_false, Bool.not_false, beq_self_eq_true, Option.toArray_none, Option.toArray_some, List.toList_toArray]; (try simp (disch := omega) only [wrap_id, getD_map_in, Int.toNat_natCast, Node.cells, intC, aopG, bne_self_eq_false, Bool.not_false, beq_self_eq_true, Option.toArray_none, Option.toArray_some, List.toList_toArray]); (repeat (refine And.intro (by (first | omega | (simp; done) | (simp; omega) | assumption)) ?_)); refine h' _ ?_; clear h' K') | (refine aops_nil (hK _ ?_); clear hK K hgs gs; try simp only [aThen, aBlock]) | ((first | refine aops_cons (fun K' h' => ?_) | refine aopsD_cons (fun K' h' => ?_)); simp only [go_sem, Nat.reduceLT, Nat.reduceLeDiff, Nat.reduceEqDiff, reduceIte, Nat.reduceAdd, Nat.reduceMul, Nat.reduceSub, Int.reduceLT, Int.reduceLE, Int.reduceToNat, Int.reduceNeg, reduceCtorEq, hgs, Node.cells, intC, aopG, bne_self_eq_false, Bool.not_false, beq_self_eq_true, Option.toArray_none, Option.toArray_some, List.toList_toArray]; (first | refine ⟨_, hGr, ?_⟩ | refine ⟨_, fun _ => hGr, ?_⟩ | refine ⟨_, hGr2, ?_⟩ | refine ⟨_, fun _ => hGr2, ?_⟩ | refine ⟨_, hO, ?_⟩ | refine ⟨_, fun _ => hO, ?_⟩ | refine ⟨_, hO2, ?_⟩ | refine ⟨_, fun _ => hO2, ?_⟩ | refine ⟨_, hO3, ?_⟩ | refine ⟨_, fun _ => hO3, ?_⟩ | refine ⟨_, hNd, ?_⟩ | refine ⟨_, fun _ => hNd, ?_⟩ | refine ⟨_, hD, ?_⟩ | refine ⟨_, fun _ => hD, ?_⟩ | refine ⟨_, alive7_c, ?_⟩ | refine ⟨_, fun _ => alive7_c, ?_⟩); (try simp only [go_sem, Nat.reduceLT, Nat.reduceLeDiff, Nat.reduceEqDiff, reduceIte, Nat.reduceAdd, Nat.reduceMul, Nat.reduceSub, Int.reduceLT, Int.reduceLE, Int.reduceToNat, Int.reduceNeg, reduceCtorEq, hgs, Node.cells, intC, aopG, bne_self_eq_false, Bool.not_false, beq_self_eq_true, Option.toArray_none, Option.toArray_some, List.toList_toArray]); (repeat (refine And.intro (by (first | omega | (simp; done) | (simp; omega) | assumption)) ?_)); refine h' _ ?_; clear h' K') | (refine aops_consF [] (fun K' h' => ?_); simp only [go_sem, Nat.reduceLT, Nat.reduceLeDiff, Nat.reduceEqDiff, reduceIte, Nat.reduceAdd, Nat.reduceMul, Nat.reduceSub, Int.reduceLT, Int.reduceLE, Int.reduceToNat, Int.reduceNeg, reduceCtorEq, hgs, Node.cells, intC, aopG, bne_self_eq_false, Bool.not_false, beq_self_eq_true, Option.toArray_none, Option.toArray_some, List.toList_toArray]; refine ⟨_, hNd, ?_⟩; (try simp only [go_sem, Nat.reduceLT, Nat.reduceLeDiff, Nat.reduceEqDiff, reduceIte, Nat.reduceAdd, Nat.reduceMul, Nat.reduceSub, Int.reduceLT, Int.reduceLE, Int.reduceToNat, Int.reduceNeg, reduceCtorEq, hgs, Node.cells, intC, aopG, bne_self_eq_false, Bool.not_false, beq_self_eq_true, Option.toArray_none, Option.toArray_some, List.toList_toArray]); (repeat (refine And.intro (by (first | omega | (simp; done) | (simp; omega) | assumption)) ?_)); refine h' _ ?_; clear h' K') | (refine AWp.sreg (id := 1) dd8 rfl (fun gs K hgs hK => ?_); replace hgs : gs 2 = some 21 ∧ gs 6 = some 25 ∧ gs 10 = some 29 := ⟨hgs 2, hgs 6, hgs 10⟩) | (refine AWp.sreg (id := 5) dd8 rfl (fun gs K hgs hK => ?_); replace hgs : gs 2 = some 48 := hgs 2) | (refine AWp.sreg (id := 9) dd8 rfl (fun gs K hgs hK => ?_); replace hgs : gs 2 = some 65 ∧ gs 6 = some 69 := ⟨hgs 2, hgs 6⟩) | (refine AWp.sreg (id := 13) dd8 rfl (fun gs K hgs hK => ?_); replace hgs : gs 2 = some 89 := hgs 2) | (refine AWp.sreg (id := 14) dd8 rfl (fun gs K hgs hK => ?_); replace hgs : gs 2 = some 94 ∧ gs 7 = some 99 := ⟨hgs 2, hgs 7⟩) | (refine AWp.reg (id := 1) dd8 rfl (fun gs K hgs hK => ?_); replace hgs : gs 2 = some 21 ∧ gs 6 = some 25 ∧ gs 10 = some 29 := ⟨hgs 2, hgs 6, hgs 10⟩) | (refine AWp.reg (id := 5) dd8 rfl (fun gs K hgs hK => ?_); replace hgs : gs 2 = some 48 := hgs 2) | (refine AWp.reg (id := 9) dd8 rfl (fun gs K hgs hK => ?_); replace hgs : gs 2 = some 65 ∧ gs 6 = some 69 := ⟨hgs 2, hgs 6⟩) | (refine AWp.reg (id := 13) dd8 rfl (fun gs K hgs hK => ?_); replace hgs : gs 2 = some 89 := hgs 2) | (refine AWp.reg (id := 14) dd8 rfl (fun gs K hgs hK => ?_); replace hgs : gs 2 = some 94 ∧ gs 7 = some 99 := ⟨hgs 2, hgs 7⟩) | (refine AWp.sreg  dd8 rfl (fun gs K hgs hK => ?_); replace hgs : Nat.succ 0 = 1 := rfl) | refine AWp.seq ?_ | refine ARounds.step ?_ | refine AWp.block ?_ | refine AWp.label ?_ | (refine AWp.ret ?_; try simp only [aThen, aBlock]) | (refine AWp.skip ?_; try simp only [aThen, aBlock]) | (refine AWp.exit ?_; try simp only [aThen, aBlock, Nat.reduceEqDiff, reduceIte]) | (refine AWp.reg  dd8 rfl (fun gs K hgs hK => ?_); replace hgs : Nat.succ 0 = 1 := rfl) | (refine aops_consG (fun K' h' => ?_); simp only [go_sem, Nat.reduceLT, Nat.reduceLeDiff, Nat.reduceEqDiff, reduceIte, Nat.reduceAdd, Nat.reduceMul, Nat.reduceSub, Int.reduceLT, Int.reduceLE, Int.reduceToNat, Int.reduceNeg, reduceCtorEq, hgs, Node.cells, intC, aopG, bne_self_eq_false, Bool.not_false, beq_self_eq_true, Option.toArray_none, Option.toArray_some, List.toList_toArray]; (try simp (disch := omega) only [wrap_id, getD_map_in, Int.toNat_natCast, Node.cells, intC, aopG, bne_self_eq_false, Bool.not_false, beq_self_eq_true, Option.toArray_none, Option.toArray_some, List.toList_toArray]); (repeat (refine And.intro (by (first | omega | (simp; done) | (simp; omega) | assumption)) ?_)); refine h' _ ?_; clear h' K') | (refine AWp.cond rfl (fun h => ?_) (fun h => ?_) <;> (try simp only [decide_eq_true_eq, decide_eq_false_iff_not, beq_iff_eq, bne_iff_ne, ne_eq, Bool.not_eq_true', Bool.not_eq_false', beq_eq_false_iff_ne, Bool.true_eq_false, Bool.false_eq_true, Int.not_le, Int.not_lt, Bool.and_eq_true, Bool.and_eq_false_iff, Bool.or_eq_true, Bool.or_eq_false_iff, bne_eq_false_iff_eq, reduceCtorEq] at h) <;> (try first | contradiction | (exfalso; omega) | (exfalso; revert h; simp; done) | (exfalso; revert h; simp; omega)))))
      all_goals first
        | (exfalso; omega)
        | skip
      all_goals simp only [Out, outA, outL, resA, go_sem, Nat.reduceLT, Nat.reduceLeDiff, Nat.reduceEqDiff, reduceIte, Nat.reduceAdd, Nat.reduceMul, Nat.reduceSub, Int.reduceLT, Int.reduceLE, Int.reduceToNat, Int.reduceNeg, reduceCtorEq]
      all_goals first
        | exact AVle.refl _
        | exact AVle.of_eq (by simp)
  · obtain ⟨p1, hp1⟩ : ∃ p, decide (70 < (a.length : Int)) = p := ⟨_, rfl⟩
    obtain ⟨p2, hp2⟩ : ∃ p, decide (70 < (b.length : Int)) = p := ⟨_, rfl⟩
    have hq : p1 = true ∨ p2 = true ∨ k < 7 ∨ 19 < k := by
      rw [← hp1, ← hp2]
      simp only [decide_eq_true_eq]
      omega
    rw [hp1] at hGr
    rw [hp2] at hGr2
    rw [hrc]
    clear hrc hna hnb hr hg hp1 hp2
    unfold nodesV at *
    cases p1 <;> cases p2
    all_goals simp only [Bool.false_eq_true, false_or, true_or] at hq
    all_goals
      refine acall_of (n := 102) (rs := [.tmp 8]) Try.func8 rfl (by kernel_rfl) rfl rfl rfl ?_; simp only [argsE, Nat.reduceAdd]
      repeat (any_goals (first | (refine aops_cons (fun K' h' => ?_); simp only [go_sem, Nat.reduceLT, Nat.reduceLeDiff, Nat.reduceEqDiff, reduceIte, Nat.reduceAdd, Nat.reduceMul, Nat.reduceSub, Int.reduceLT, Int.reduceLE, Int.reduceToNat, Int.reduceNeg, reduceCtorEq, hgs, Node.cells, intC, aopG, bne_self_eq_false, Bool.not_false, beq_self_eq_true, Option.toArray_none, Option.toArray_some, List.toList_toArray]; (try simp (disch := omega) only [wrap_id, getD_map_in, Int.toNat_natCast, Node.cells, intC, aopG, bne_self_eq_false, Bool.not_false, beq_self_eq_true, Option.toArray_none, Option.toArray_some, List.toList_toArray]); (repeat (refine And.intro (by (first | omega | (simp; done) | (simp; omega) | assumption)) ?_)); refine h' _ ?_; clear h' K') | (refine aops_nil (hK _ ?_); clear hK K hgs gs; try simp only [aThen, aBlock]) | ((first | refine aops_cons (fun K' h' => ?_) | refine aopsD_cons (fun K' h' => ?_)); simp only [go_sem, Nat.reduceLT, Nat.reduceLeDiff, Nat.reduceEqDiff, reduceIte, Nat.reduceAdd, Nat.reduceMul, Nat.reduceSub, Int.reduceLT, Int.reduceLE, Int.reduceToNat, Int.reduceNeg, reduceCtorEq, hgs, Node.cells, intC, aopG, bne_self_eq_false, Bool.not_false, beq_self_eq_true, Option.toArray_none, Option.toArray_some, List.toList_toArray]; (first | refine ⟨_, hGr, ?_⟩ | refine ⟨_, fun _ => hGr, ?_⟩ | refine ⟨_, hGr2, ?_⟩ | refine ⟨_, fun _ => hGr2, ?_⟩ | refine ⟨_, hO, ?_⟩ | refine ⟨_, fun _ => hO, ?_⟩ | refine ⟨_, hO2, ?_⟩ | refine ⟨_, fun _ => hO2, ?_⟩ | refine ⟨_, hO3, ?_⟩ | refine ⟨_, fun _ => hO3, ?_⟩ | refine ⟨_, hNd, ?_⟩ | refine ⟨_, fun _ => hNd, ?_⟩ | refine ⟨_, hD, ?_⟩ | refine ⟨_, fun _ => hD, ?_⟩ | refine ⟨_, alive7_c, ?_⟩ | refine ⟨_, fun _ => alive7_c, ?_⟩); (try simp only [go_sem, Nat.reduceLT, Nat.reduceLeDiff, Nat.reduceEqDiff, reduceIte, Nat.reduceAdd, Nat.reduceMul, Nat.reduceSub, Int.reduceLT, Int.reduceLE, Int.reduceToNat, Int.reduceNeg, reduceCtorEq, hgs, Node.cells, intC, aopG, bne_self_eq_false, Bool.not_false, beq_self_eq_true, Option.toArray_none, Option.toArray_some, List.toList_toArray]); (repeat (refine And.intro (by (first | omega | (simp; done) | (simp; omega) | assumption)) ?_)); refine h' _ ?_; clear h' K') | (refine aops_consF [] (fun K' h' => ?_); simp only [go_sem, Nat.reduceLT, Nat.reduceLeDiff, Nat.reduceEqDiff, reduceIte, Nat.reduceAdd, Nat.reduceMul, Nat.reduceSub, Int.reduceLT, Int.reduceLE, Int.reduceToNat, Int.reduceNeg, reduceCtorEq, hgs, Node.cells, intC, aopG, bne_self_eq_false, Bool.not_false, beq_self_eq_true, Option.toArray_none, Option.toArray_some, List.toList_toArray]; refine ⟨_, hNd, ?_⟩; (try simp only [go_sem, Nat.reduceLT, Nat.reduceLeDiff, Nat.reduceEqDiff, reduceIte, Nat.reduceAdd, Nat.reduceMul, Nat.reduceSub, Int.reduceLT, Int.reduceLE, Int.reduceToNat, Int.reduceNeg, reduceCtorEq, hgs, Node.cells, intC, aopG, bne_self_eq_false, Bool.not_false, beq_self_eq_true, Option.toArray_none, Option.toArray_some, List.toList_toArray]); (repeat (refine And.intro (by (first | omega | (simp; done) | (simp; omega) | assumption)) ?_)); refine h' _ ?_; clear h' K') | (refine AWp.sreg (id := 1) dd8 rfl (fun gs K hgs hK => ?_); replace hgs : gs 2 = some 21 ∧ gs 6 = some 25 ∧ gs 10 = some 29 := ⟨hgs 2, hgs 6, hgs 10⟩) | (refine AWp.sreg (id := 5) dd8 rfl (fun gs K hgs hK => ?_); replace hgs : gs 2 = some 48 := hgs 2) | (refine AWp.sreg (id := 9) dd8 rfl (fun gs K hgs hK => ?_); replace hgs : gs 2 = some 65 ∧ gs 6 = some 69 := ⟨hgs 2, hgs 6⟩) | (refine AWp.sreg (id := 13) dd8 rfl (fun gs K hgs hK => ?_); replace hgs : gs 2 = some 89 := hgs 2) | (refine AWp.sreg (id := 14) dd8 rfl (fun gs K hgs hK => ?_); replace hgs : gs 2 = some 94 ∧ gs 7 = some 99 := ⟨hgs 2, hgs 7⟩) | (refine AWp.reg (id := 1) dd8 rfl (fun gs K hgs hK => ?_); replace hgs : gs 2 = some 21 ∧ gs 6 = some 25 ∧ gs 10 = some 29 := ⟨hgs 2, hgs 6, hgs 10⟩) | (refine AWp.reg (id := 5) dd8 rfl (fun gs K hgs hK => ?_); replace hgs : gs 2 = some 48 := hgs 2) | (refine AWp.reg (id := 9) dd8 rfl (fun gs K hgs hK => ?_); replace hgs : gs 2 = some 65 ∧ gs 6 = some 69 := ⟨hgs 2, hgs 6⟩) | (refine AWp.reg (id := 13) dd8 rfl (fun gs K hgs hK => ?_); replace hgs : gs 2 = some 89 := hgs 2) | (refine AWp.reg (id := 14) dd8 rfl (fun gs K hgs hK => ?_); replace hgs : gs 2 = some 94 ∧ gs 7 = some 99 := ⟨hgs 2, hgs 7⟩) | (refine AWp.sreg  dd8 rfl (fun gs K hgs hK => ?_); replace hgs : Nat.succ 0 = 1 := rfl) | refine AWp.seq ?_ | refine ARounds.step ?_ | refine AWp.block ?_ | refine AWp.label ?_ | (refine AWp.ret ?_; try simp only [aThen, aBlock]) | (refine AWp.skip ?_; try simp only [aThen, aBlock]) | (refine AWp.exit ?_; try simp only [aThen, aBlock, Nat.reduceEqDiff, reduceIte]) | (refine AWp.reg  dd8 rfl (fun gs K hgs hK => ?_); replace hgs : Nat.succ 0 = 1 := rfl) | (refine aops_consG (fun K' h' => ?_); simp only [go_sem, Nat.reduceLT, Nat.reduceLeDiff, Nat.reduceEqDiff, reduceIte, Nat.reduceAdd, Nat.reduceMul, Nat.reduceSub, Int.reduceLT, Int.reduceLE, Int.reduceToNat, Int.reduceNeg, reduceCtorEq, hgs, Node.cells, intC, aopG, bne_self_eq_false, Bool.not_false, beq_self_eq_true, Option.toArray_none, Option.toArray_some, List.toList_toArray]; (try simp (disch := omega) only [wrap_id, getD_map_in, Int.toNat_natCast, Node.cells, intC, aopG, bne_self_eq_false, Bool.not_false, beq_self_eq_true, Option.toArray_none, Option.toArray_some, List.toList_toArray]); (repeat (refine And.intro (by (first | omega | (simp; done) | (simp; omega) | assumption)) ?_)); refine h' _ ?_; clear h' K') | (refine AWp.cond rfl (fun h => ?_) (fun h => ?_) <;> (try simp only [decide_eq_true_eq, decide_eq_false_iff_not, beq_iff_eq, bne_iff_ne, ne_eq, Bool.not_eq_true', Bool.not_eq_false', beq_eq_false_iff_ne, Bool.true_eq_false, Bool.false_eq_true, Int.not_le, Int.not_lt, Bool.and_eq_true, Bool.and_eq_false_iff, Bool.or_eq_true, Bool.or_eq_false_iff, bne_eq_false_iff_eq, reduceCtorEq] at h) <;> (try first | contradiction | (exfalso; omega) | (exfalso; revert h; simp; done) | (exfalso; revert h; simp; omega)))))
      all_goals first
        | (exfalso; omega)
        | skip
      all_goals simp only [Out, outA, outL, resA, go_sem, Nat.reduceLT, Nat.reduceLeDiff, Nat.reduceEqDiff, reduceIte, Nat.reduceAdd, Nat.reduceMul, Nat.reduceSub, Int.reduceLT, Int.reduceLE, Int.reduceToNat, Int.reduceNeg, reduceCtorEq]
      all_goals first
        | exact AVle.refl _
        | exact AVle.of_eq (by simp)
theorem emade_all : ∀ xs, ShpAs Try.prog 8 Try.f8.params.toList xs → ACall Try.prog 8 xs (.lit (.bool true)) := by
  intro xs h
  have hp : Try.f8.params.toList = [22, 22, 5, 24] := by kernel_rfl
  rw [hp] at h
  obtain ⟨a, r, rfl, ha, h⟩ := h
  obtain ⟨b, r, rfl, hb, h⟩ := h
  obtain ⟨c, r, rfl, hc, h⟩ := h
  obtain ⟨d, r, rfl, hd, h⟩ := h
  obtain rfl : r = [] := h
  obtain ⟨l, rfl, hl, hn⟩ := nodesB_shape ha
  obtain ⟨m, rfl, hm, hn2⟩ := nodesB_shape hb
  obtain ⟨k, e, hw⟩ := shp_in (k := .u8) (by kernel_rfl) (shpA_one (by kernel_rfl) hc)
  obtain rfl : c = .lit (.int .u8 k) := by simpa using e
  obtain ⟨r, rfl, hr⟩ := recB_shape hd
  exact emade_law l m k r hl hm hn hn2 hr
end Go.Proofs.Ytmdnhmcmnojlkaa
