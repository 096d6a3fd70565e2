/-
  The law FilterTwice.
-/
import Derived.Test.YtmooelhocanlnaaFAlv
import Derived.Test.YtmooelhocanlnaaFShp
namespace Go.Proofs.Ytmooelhocanlnaa
open Go.AL Go.RowKit
set_option linter.unusedSimpArgs false
set_option linter.unusedVariables false
set_option maxRecDepth 10000
set_option maxHeartbeats 8000000

theorem greatF_fit2 {q : Qry} (h : greatF q = false) (hb : ∀ x ∈ q.src, -9223372036854775808 ≤ x ∧ x ≤ 9223372036854775807) (n1 : nodesB q.arg) (n2 : nodesB q.wh) : q.fit := by
  unfold greatF at h
  simp only [Bool.or_eq_false_iff, decide_eq_false_iff_not] at h
  exact ⟨by omega, by omega, by omega, hb, n1, n2⟩
theorem acc_facts {q : Qry} (h : accE q = 0) : (0 < q.wh.length → ofE q.wh = 0) ∧ (q.agg ≠ 1 → ofE q.arg = 0) := by
  unfold accE at h
  split at h
  · rename_i g; exact absurd h g
  · rename_i g
    have g := Classical.not_not.1 g
    have hw : ∀ (l : List Node) (t : Bool), wantE l t = 0 → ofE l = 0 := fun l t h => by
      unfold wantE at h
      split at h
      · exact absurd h (by decide)
      · exact h
    unfold fstE at h
    split at h
    · rename_i g1; exact absurd h g1.2
    · rename_i g1
      split at h
      · rename_i g2; exact absurd h g2.2
      · rename_i g2
        refine ⟨fun h1 => hw _ _ (Classical.not_not.1 fun h2 => g2 ⟨h1, h2⟩), fun h1 => ?_⟩
        have ha : errL q.arg = 0 := by
          unfold chkE at g
          split at g
          · exact absurd g (by decide)
          · split at g
            · rename_i g3; exact absurd g g3.2
            · rename_i g3; exact Classical.not_not.1 fun h2 => g3 ⟨h1, h2⟩
        obtain ⟨e, _, hx, _, _⟩ := errL_ok ha
        have : 0 < q.arg.length := by rw [hx.len]; exact e.sz_pos
        exact hw _ _ (Classical.not_not.1 fun h2 => g1 ⟨this, h2⟩)

theorem projR_t {q : Qry} {r : Rcd} (h : passB q r = true) : (projR q r).t = r.t := by unfold projR; rw [if_pos h]
theorem projR_B {q : Qry} {r : Rcd} (hq : q.fit) (hr : r.B) : (projR q r).B := by
  have h0 : i64B 0 := ⟨by decide, by decide⟩
  have hv : i64B (ofV r q.arg) := by
    unfold ofV
    split
    · exact valAt_B hr hq.an _
    · exact h0
  unfold projR
  split
  · refine ⟨?_, hr.2.1, ?_⟩
    · simp only; split
      · exact hr.1
      · exact h0
    · simp only; split
      · exact hv
      · exact h0
  · exact ⟨h0, h0, h0⟩
def Qry.free (q : Qry) : Qry := { q with wh := [] }
theorem free_fit {q : Qry} (h : q.fit) : q.free.fit := ⟨h.a, by simp [Qry.free], h.s, h.sb, h.an, fun x hx => by simp [Qry.free] at hx⟩
theorem free_proj {q : Qry} {r : Rcd} (h : passB q r = true) : passB q.free r = true ∧ projR q.free r = projR q r := by
  have h1 : passB q.free r = true := by simp [passB, Qry.free]
  refine ⟨h1, ?_⟩
  unfold projR
  rw [if_pos h1, if_pos h]
  rfl
theorem projR_key {q : Qry} {r : Rcd} (h : passB q r = true) : (projR q r).key = if q.byKey = true then r.key else 0 := by unfold projR; rw [if_pos h]
theorem proj_twice {q : Qry} {r : Rcd} (h : passB q r = true) (h2 : passB q (projR q r) = true) : (projR q (projR q r)).t = (projR q r).t ∧ (projR q (projR q r)).key = (projR q r).key := by
  refine ⟨projR_t h2, ?_⟩
  rw [projR_key h2, projR_key h]
  split <;> rfl

def dd5 : Nat → List (List Nat)
  | 0 => [[], [0], [1], [4]]
  | 1 => [[], [], [18]]
  | 2 => [[], [], [19], [20], [], [22], [23], [21, 24], [25], [], [27], [28], [26, 29], [30], [], [32], [31, 33]]
  | 3 => [[2, 3, 34], [5], [35]]
  | 4 => [[34], [], [], [37, 38], [39], [], [], [36], [], [40], [41], [42]]
  | 5 => [[], [], [43], [44], [7], [46], [45, 47]]
  | 6 => [[3, 6, 48], [5], [49], [8], [51], [50, 52], [53], [2], [55], [56], [57], [54, 58], [59]]
  | 7 => [[8, 48], [], [], [61, 62], [63], [], [], [60], [], [64], [65], [66]]
  | 8 => [[], [], [], [67]]
  | 9 => [[], [], [68]]
  | 10 => [[], [12], [], [70, 71], [72], [], [], [69], [], [73], [74], [75]]
  | 11 => [[], [], [77], [3], [78, 79], [80], [], [76], [16, 81], [82]]
  | 12 => [[], [2], [83], [84], [85], [86], [17], [88], [87, 89]]
  | 13 => [[5, 6, 9, 10, 11, 13, 14, 15, 90], []]
  | 14 => [[90], [5], [91], [11], [93], [92, 94], [95], [10], [97], [98], [], [100], [], [102], [101, 103], [104], [9], [106], [], [108], [107, 109], [105, 110], [99, 111], [96, 112], [113], [15], [115], [116], [14], [118], [13], [6], [120, 121], [119, 122], [117, 123], [114, 124], [125]]
  | _ => []
theorem ftwice_law (q : Qry) (r : Rcd) (h1 : q.arg.length ≤ maxLen) (h2 : q.wh.length ≤ maxLen) (h3 : q.src.length ≤ maxLen) (hb : ∀ x ∈ q.src, -9223372036854775808 ≤ x ∧ x ≤ 9223372036854775807) (n1 : nodesB q.arg) (n2 : nodesB q.wh) (hr : r.B) :
    ACall Try.prog 5 [.agg q.cells, .agg r.cells] (.lit (.bool true)) := by
  have hGr := greatF_c q h1 h2 h3
  by_cases hall : greatF q = false ∧ accE q = 0 ∧ isTimeB r.t = true
  · obtain ⟨hg, ha, ht⟩ := hall
    have hf := greatF_fit2 hg hb n1 n2
    have hAc := accepted29_c q hf
    rw [ha] at hAc
    rw [hg] at hGr
    have hR := right25_c r.key r.t r.v
    rw [ht] at hR
    have hP1 := project_c q r hf hr
    have p1 : prjE q r = 0 := if_pos ⟨ha, ht⟩
    have p2 : prjB q r = passB q r := by unfold prjB; rw [if_pos p1]
    have p3 : prjR q r = projR q r := by unfold prjR; rw [if_pos p1]
    rw [p1, p2, p3] at hP1
    cases hp : passB q r
    · have hw : 0 < q.wh.length := by
        unfold passB at hp
        simp at hp
        exact hp.1
      rw [hp] at hP1
      generalize projR q r = pr at *
      clear hg ha ht hf p1 p2 p3 hb n1 n2 hr hp
      obtain ⟨x1, x2, x3⟩ := pr
      obtain ⟨r1, r2, r3⟩ := r
      obtain ⟨ag, ar, sr, jn, wh, ⟨kd, sz, ev⟩, bk, lt⟩ := q
      unfold Qry.cells nodesV intsV Rcd.cells at *
      simp only at *
      refine acall_of (n := 126) (rs := [.tmp 4]) Try.func5 rfl (by kernel_rfl) rfl rfl rfl ?_; simp only [argsE, Nat.reduceAdd]
      repeat (any_goals (first | (refine aops_cons (fun K' h' => ?_); simp only [go_sem, Nat.reduceLT, Nat.reduceLeDiff, Nat.reduceEqDiff, reduceIte, Nat.reduceAdd, Nat.reduceMul, Nat.reduceSub, Int.reduceLT, Int.reduceLE, Int.reduceToNat, Int.reduceNeg, reduceCtorEq, hgs, aopG, bne_self_eq_false, Bool.not_false, beq_self_eq_true]; (try ((first | refine ⟨_, alive29_c, ?_⟩ | refine ⟨_, fun _ => alive29_c, ?_⟩ | refine ⟨_, hGr, ?_⟩ | refine ⟨_, fun _ => hGr, ?_⟩ | refine ⟨_, hAc, ?_⟩ | refine ⟨_, fun _ => hAc, ?_⟩ | refine ⟨_, hR, ?_⟩ | refine ⟨_, fun _ => hR, ?_⟩ | refine ⟨_, hP1, ?_⟩ | refine ⟨_, fun _ => hP1, ?_⟩ | refine ⟨_, hP2, ?_⟩ | refine ⟨_, fun _ => hP2, ?_⟩ | refine ⟨_, hP3, ?_⟩ | refine ⟨_, fun _ => hP3, ?_⟩ | refine ⟨_, hE1, ?_⟩ | refine ⟨_, fun _ => hE1, ?_⟩); (try simp only [go_sem, Nat.reduceLT, Nat.reduceLeDiff, Nat.reduceEqDiff, reduceIte, Nat.reduceAdd, Nat.reduceMul, Nat.reduceSub, Int.reduceLT, Int.reduceLE, Int.reduceToNat, Int.reduceNeg, reduceCtorEq, hgs, aopG, bne_self_eq_false, Bool.not_false, beq_self_eq_true]))); (try simp (disch := omega) only [wrap_id, getD_map_in, Int.toNat_natCast, aopG, bne_self_eq_false, Bool.not_false, beq_self_eq_true]); (repeat (refine And.intro (by (first | omega | (simp; done) | (simp; omega) | assumption)) ?_)); refine h' _ ?_; clear h' K') | (refine aops_nil (hK _ ?_); clear hK K hgs gs; try simp only [aThen, aBlock]) | ((first | refine AWp.sreg (id := 2) dd5 rfl (fun gs K hgs hK => ?_) | refine AWp.reg (id := 2) dd5 rfl (fun gs K hgs hK => ?_)); replace hgs : gs 2 = some 21 ∧ gs 7 = some 26 ∧ gs 12 = some 31 := ⟨hgs 2, hgs 7, hgs 12⟩) | ((first | refine AWp.sreg (id := 5) dd5 rfl (fun gs K hgs hK => ?_) | refine AWp.reg (id := 5) dd5 rfl (fun gs K hgs hK => ?_)); replace hgs : gs 2 = some 45 := hgs 2) | ((first | refine AWp.sreg (id := 6) dd5 rfl (fun gs K hgs hK => ?_) | refine AWp.reg (id := 6) dd5 rfl (fun gs K hgs hK => ?_)); replace hgs : gs 1 = some 50 ∧ gs 5 = some 54 := ⟨hgs 1, hgs 5⟩) | ((first | refine AWp.sreg (id := 12) dd5 rfl (fun gs K hgs hK => ?_) | refine AWp.reg (id := 12) dd5 rfl (fun gs K hgs hK => ?_)); replace hgs : gs 4 = some 87 := hgs 4) | ((first | refine AWp.sreg (id := 14) dd5 rfl (fun gs K hgs hK => ?_) | refine AWp.reg (id := 14) dd5 rfl (fun gs K hgs hK => ?_)); replace hgs : gs 1 = some 92 ∧ gs 5 = some 96 ∧ gs 8 = some 99 ∧ gs 14 = some 105 ∧ gs 23 = some 114 ∧ gs 26 = some 117 ∧ gs 28 = some 119 := ⟨hgs 1, hgs 5, hgs 8, hgs 14, hgs 23, hgs 26, hgs 28⟩) | (refine AWp.sreg  dd5 rfl (fun gs K hgs hK => ?_); replace hgs : Nat.succ 0 = 1 := rfl) | refine AWp.seq ?_ | refine ARounds.step ?_ | refine AWp.block ?_ | refine AWp.label ?_ | (refine AWp.ret ?_; try simp only [aThen, aBlock]) | (refine AWp.skip ?_; try simp only [aThen, aBlock]) | (refine AWp.exit ?_; try simp only [aThen, aBlock, Nat.reduceEqDiff, reduceIte]) | (refine AWp.reg  dd5 rfl (fun gs K hgs hK => ?_); replace hgs : Nat.succ 0 = 1 := rfl) | (refine aops_consG (fun K' h' => ?_); simp only [go_sem, Nat.reduceLT, Nat.reduceLeDiff, Nat.reduceEqDiff, reduceIte, Nat.reduceAdd, Nat.reduceMul, Nat.reduceSub, Int.reduceLT, Int.reduceLE, Int.reduceToNat, Int.reduceNeg, reduceCtorEq, hgs, aopG, bne_self_eq_false, Bool.not_false, beq_self_eq_true]; (try simp (disch := omega) only [wrap_id, getD_map_in, Int.toNat_natCast, aopG, bne_self_eq_false, Bool.not_false, beq_self_eq_true]); (repeat (refine And.intro (by (first | omega | (simp; done) | (simp; omega) | assumption)) ?_)); refine h' _ ?_; clear h' K') | (refine AWp.cond rfl (fun h => ?_) (fun h => ?_) <;> (try simp only [decide_eq_true_eq, decide_eq_false_iff_not, beq_iff_eq, bne_iff_ne, ne_eq, Bool.not_eq_true', Bool.not_eq_false', beq_eq_false_iff_ne, Bool.true_eq_false, Bool.false_eq_true, Int.not_le, Int.not_lt, Bool.and_eq_true, Bool.and_eq_false_iff, Bool.or_eq_true, Bool.or_eq_false_iff, bne_eq_false_iff_eq, reduceCtorEq] at h) <;> (try first | contradiction | (exfalso; omega) | (exfalso; revert h; simp; done) | (exfalso; revert h; simp; omega)))))
      all_goals first
        | (exfalso; omega)
        | skip
      all_goals simp only [Out, outA, outL, resA, go_sem, Nat.reduceLT, Nat.reduceLeDiff, Nat.reduceEqDiff, reduceIte, Nat.reduceAdd, Nat.reduceMul, Nat.reduceSub, Int.reduceLT, Int.reduceLE, Int.reduceToNat, Int.reduceNeg, reduceCtorEq]
      all_goals exact AVle.of_eq (by simp; omega)
    · rw [hp] at hP1
      have hE1 := rOfV_c q.wh r hf.w hr hf.wn
      obtain ⟨f1, -⟩ := acc_facts ha
      have hP2 := project_c q (projR q r) hf (projR_B hf hr)
      have s1 : prjE q (projR q r) = 0 := if_pos ⟨ha, by rw [projR_t hp]; exact ht⟩
      have s2 : prjB q (projR q r) = passB q (projR q r) := by unfold prjB; rw [if_pos s1]
      have s3 : prjR q (projR q r) = projR q (projR q r) := by unfold prjR; rw [if_pos s1]
      rw [s1, s2, s3] at hP2
      have hP3 := project_c q.free r (free_fit hf) hr
      have htw := fun h => proj_twice (r := r) hp h
      have hfree : prjE q.free r = 0 → prjB q.free r = true ∧ prjR q.free r = projR q r := fun h => by
        obtain ⟨u1, u2⟩ := free_proj hp
        unfold prjB prjR
        rw [if_pos h, if_pos h, u1, u2]
        exact ⟨rfl, rfl⟩
      have hfree2 : prjE q.free r ≠ 0 → prjE q.free r = 8 := fun h => by
        unfold prjE at h ⊢
        split
        · rename_i g; rw [if_pos g] at h; exact absurd rfl h
        · rfl
      generalize passB q (projR q r) = pb2 at *
      generalize projR q (projR q r) = pr2 at *
      generalize prjB q.free r = fb at *
      generalize prjE q.free r = fe at *
      have hfc : q.free.cells = [.lit (.int .u8 q.agg), nodesV q.arg, intsV q.src, .lit (.bool q.join), .ro 5 [], .lit (.int .u8 q.win.kind), .lit (.int .i64 q.win.size), .lit (.int .i64 q.win.every), .lit (.bool q.byKey), .lit (.int .u8 q.late)] := rfl
      rw [hfc] at hP3
      have hP3 := hP3.mono (args' := [.agg [.lit (.int .u8 q.agg), nodesV q.arg, intsV q.src, .lit (.bool q.join), .lit (.slice none 0 0), .lit (.int .u8 q.win.kind), .lit (.int .i64 q.win.size), .lit (.int .i64 q.win.every), .lit (.bool q.byKey), .lit (.int .u8 q.late)], .agg r.cells])
        (.cons (AVle.agg ⟨AVle.refl _, AVle.refl _, AVle.refl _, AVle.refl _, AVle.nil 5, AVle.refl _, AVle.refl _, AVle.refl _, AVle.refl _, AVle.refl _, trivial⟩) (.refl _)) (AVle.refl _)
      have hcase : (fe = 0 ∧ fb = true ∧ prjR q.free r = projR q r) ∨ fe = 8 := by
        by_cases h : fe = 0
        · exact .inl ⟨h, hfree h⟩
        · exact .inr (hfree2 h)
      generalize prjR q.free r = fr at *
      generalize projR q r = pr at *
      clear hg ha ht hf p1 p2 p3 hb n1 n2 hr hp s1 s2 s3 hfree hfree2 hfc
      generalize ofV r q.wh = vw at *
      generalize ofE q.wh = ew at *
      obtain ⟨x1, x2, x3⟩ := pr
      obtain ⟨z1, z2, z3⟩ := pr2
      obtain ⟨r1, r2, r3⟩ := r
      obtain ⟨ag, ar, sr, jn, wh, ⟨kd, sz, ev⟩, bk, lt⟩ := q
      unfold Qry.cells nodesV intsV Rcd.cells at *
      simp only at *
      rcases hcase with ⟨rfl, rfl, rfl⟩ | rfl
      · cases pb2
        all_goals try (obtain ⟨rfl, rfl⟩ := htw rfl)
        all_goals
          refine acall_of (n := 126) (rs := [.tmp 4]) Try.func5 rfl (by kernel_rfl) rfl rfl rfl ?_; simp only [argsE, Nat.reduceAdd]
          repeat (any_goals (first | (refine aops_cons (fun K' h' => ?_); simp only [go_sem, Nat.reduceLT, Nat.reduceLeDiff, Nat.reduceEqDiff, reduceIte, Nat.reduceAdd, Nat.reduceMul, Nat.reduceSub, Int.reduceLT, Int.reduceLE, Int.reduceToNat, Int.reduceNeg, reduceCtorEq, hgs, aopG, bne_self_eq_false, Bool.not_false, beq_self_eq_true]; (try ((first | refine ⟨_, alive29_c, ?_⟩ | refine ⟨_, fun _ => alive29_c, ?_⟩ | refine ⟨_, hGr, ?_⟩ | refine ⟨_, fun _ => hGr, ?_⟩ | refine ⟨_, hAc, ?_⟩ | refine ⟨_, fun _ => hAc, ?_⟩ | refine ⟨_, hR, ?_⟩ | refine ⟨_, fun _ => hR, ?_⟩ | refine ⟨_, hP1, ?_⟩ | refine ⟨_, fun _ => hP1, ?_⟩ | refine ⟨_, hP2, ?_⟩ | refine ⟨_, fun _ => hP2, ?_⟩ | refine ⟨_, hP3, ?_⟩ | refine ⟨_, fun _ => hP3, ?_⟩ | refine ⟨_, hE1, ?_⟩ | refine ⟨_, fun _ => hE1, ?_⟩); (try simp only [go_sem, Nat.reduceLT, Nat.reduceLeDiff, Nat.reduceEqDiff, reduceIte, Nat.reduceAdd, Nat.reduceMul, Nat.reduceSub, Int.reduceLT, Int.reduceLE, Int.reduceToNat, Int.reduceNeg, reduceCtorEq, hgs, aopG, bne_self_eq_false, Bool.not_false, beq_self_eq_true]))); (try simp (disch := omega) only [wrap_id, getD_map_in, Int.toNat_natCast, aopG, bne_self_eq_false, Bool.not_false, beq_self_eq_true]); (repeat (refine And.intro (by (first | omega | (simp; done) | (simp; omega) | assumption)) ?_)); refine h' _ ?_; clear h' K') | (refine aops_nil (hK _ ?_); clear hK K hgs gs; try simp only [aThen, aBlock]) | ((first | refine AWp.sreg (id := 2) dd5 rfl (fun gs K hgs hK => ?_) | refine AWp.reg (id := 2) dd5 rfl (fun gs K hgs hK => ?_)); replace hgs : gs 2 = some 21 ∧ gs 7 = some 26 ∧ gs 12 = some 31 := ⟨hgs 2, hgs 7, hgs 12⟩) | ((first | refine AWp.sreg (id := 5) dd5 rfl (fun gs K hgs hK => ?_) | refine AWp.reg (id := 5) dd5 rfl (fun gs K hgs hK => ?_)); replace hgs : gs 2 = some 45 := hgs 2) | ((first | refine AWp.sreg (id := 6) dd5 rfl (fun gs K hgs hK => ?_) | refine AWp.reg (id := 6) dd5 rfl (fun gs K hgs hK => ?_)); replace hgs : gs 1 = some 50 ∧ gs 5 = some 54 := ⟨hgs 1, hgs 5⟩) | ((first | refine AWp.sreg (id := 12) dd5 rfl (fun gs K hgs hK => ?_) | refine AWp.reg (id := 12) dd5 rfl (fun gs K hgs hK => ?_)); replace hgs : gs 4 = some 87 := hgs 4) | ((first | refine AWp.sreg (id := 14) dd5 rfl (fun gs K hgs hK => ?_) | refine AWp.reg (id := 14) dd5 rfl (fun gs K hgs hK => ?_)); replace hgs : gs 1 = some 92 ∧ gs 5 = some 96 ∧ gs 8 = some 99 ∧ gs 14 = some 105 ∧ gs 23 = some 114 ∧ gs 26 = some 117 ∧ gs 28 = some 119 := ⟨hgs 1, hgs 5, hgs 8, hgs 14, hgs 23, hgs 26, hgs 28⟩) | (refine AWp.sreg  dd5 rfl (fun gs K hgs hK => ?_); replace hgs : Nat.succ 0 = 1 := rfl) | refine AWp.seq ?_ | refine ARounds.step ?_ | refine AWp.block ?_ | refine AWp.label ?_ | (refine AWp.ret ?_; try simp only [aThen, aBlock]) | (refine AWp.skip ?_; try simp only [aThen, aBlock]) | (refine AWp.exit ?_; try simp only [aThen, aBlock, Nat.reduceEqDiff, reduceIte]) | (refine AWp.reg  dd5 rfl (fun gs K hgs hK => ?_); replace hgs : Nat.succ 0 = 1 := rfl) | (refine aops_consG (fun K' h' => ?_); simp only [go_sem, Nat.reduceLT, Nat.reduceLeDiff, Nat.reduceEqDiff, reduceIte, Nat.reduceAdd, Nat.reduceMul, Nat.reduceSub, Int.reduceLT, Int.reduceLE, Int.reduceToNat, Int.reduceNeg, reduceCtorEq, hgs, aopG, bne_self_eq_false, Bool.not_false, beq_self_eq_true]; (try simp (disch := omega) only [wrap_id, getD_map_in, Int.toNat_natCast, aopG, bne_self_eq_false, Bool.not_false, beq_self_eq_true]); (repeat (refine And.intro (by (first | omega | (simp; done) | (simp; omega) | assumption)) ?_)); refine h' _ ?_; clear h' K') | (refine AWp.cond rfl (fun h => ?_) (fun h => ?_) <;> (try simp only [decide_eq_true_eq, decide_eq_false_iff_not, beq_iff_eq, bne_iff_ne, ne_eq, Bool.not_eq_true', Bool.not_eq_false', beq_eq_false_iff_ne, Bool.true_eq_false, Bool.false_eq_true, Int.not_le, Int.not_lt, Bool.and_eq_true, Bool.and_eq_false_iff, Bool.or_eq_true, Bool.or_eq_false_iff, bne_eq_false_iff_eq, reduceCtorEq] at h) <;> (try first | contradiction | (exfalso; omega) | (exfalso; revert h; simp; done) | (exfalso; revert h; simp; omega)))))
          all_goals first
            | (exfalso; omega)
            | skip
          all_goals simp only [Out, outA, outL, resA, go_sem, Nat.reduceLT, Nat.reduceLeDiff, Nat.reduceEqDiff, reduceIte, Nat.reduceAdd, Nat.reduceMul, Nat.reduceSub, Int.reduceLT, Int.reduceLE, Int.reduceToNat, Int.reduceNeg, reduceCtorEq]
          all_goals exact AVle.of_eq (by simp_all)
      · cases pb2
        all_goals try (obtain ⟨rfl, rfl⟩ := htw rfl)
        all_goals
          refine acall_of (n := 126) (rs := [.tmp 4]) Try.func5 rfl (by kernel_rfl) rfl rfl rfl ?_; simp only [argsE, Nat.reduceAdd]
          repeat (any_goals (first | (refine aops_cons (fun K' h' => ?_); simp only [go_sem, Nat.reduceLT, Nat.reduceLeDiff, Nat.reduceEqDiff, reduceIte, Nat.reduceAdd, Nat.reduceMul, Nat.reduceSub, Int.reduceLT, Int.reduceLE, Int.reduceToNat, Int.reduceNeg, reduceCtorEq, hgs, aopG, bne_self_eq_false, Bool.not_false, beq_self_eq_true]; (try ((first | refine ⟨_, alive29_c, ?_⟩ | refine ⟨_, fun _ => alive29_c, ?_⟩ | refine ⟨_, hGr, ?_⟩ | refine ⟨_, fun _ => hGr, ?_⟩ | refine ⟨_, hAc, ?_⟩ | refine ⟨_, fun _ => hAc, ?_⟩ | refine ⟨_, hR, ?_⟩ | refine ⟨_, fun _ => hR, ?_⟩ | refine ⟨_, hP1, ?_⟩ | refine ⟨_, fun _ => hP1, ?_⟩ | refine ⟨_, hP2, ?_⟩ | refine ⟨_, fun _ => hP2, ?_⟩ | refine ⟨_, hP3, ?_⟩ | refine ⟨_, fun _ => hP3, ?_⟩ | refine ⟨_, hE1, ?_⟩ | refine ⟨_, fun _ => hE1, ?_⟩); (try simp only [go_sem, Nat.reduceLT, Nat.reduceLeDiff, Nat.reduceEqDiff, reduceIte, Nat.reduceAdd, Nat.reduceMul, Nat.reduceSub, Int.reduceLT, Int.reduceLE, Int.reduceToNat, Int.reduceNeg, reduceCtorEq, hgs, aopG, bne_self_eq_false, Bool.not_false, beq_self_eq_true]))); (try simp (disch := omega) only [wrap_id, getD_map_in, Int.toNat_natCast, aopG, bne_self_eq_false, Bool.not_false, beq_self_eq_true]); (repeat (refine And.intro (by (first | omega | (simp; done) | (simp; omega) | assumption)) ?_)); refine h' _ ?_; clear h' K') | (refine aops_nil (hK _ ?_); clear hK K hgs gs; try simp only [aThen, aBlock]) | ((first | refine AWp.sreg (id := 2) dd5 rfl (fun gs K hgs hK => ?_) | refine AWp.reg (id := 2) dd5 rfl (fun gs K hgs hK => ?_)); replace hgs : gs 2 = some 21 ∧ gs 7 = some 26 ∧ gs 12 = some 31 := ⟨hgs 2, hgs 7, hgs 12⟩) | ((first | refine AWp.sreg (id := 5) dd5 rfl (fun gs K hgs hK => ?_) | refine AWp.reg (id := 5) dd5 rfl (fun gs K hgs hK => ?_)); replace hgs : gs 2 = some 45 := hgs 2) | ((first | refine AWp.sreg (id := 6) dd5 rfl (fun gs K hgs hK => ?_) | refine AWp.reg (id := 6) dd5 rfl (fun gs K hgs hK => ?_)); replace hgs : gs 1 = some 50 ∧ gs 5 = some 54 := ⟨hgs 1, hgs 5⟩) | ((first | refine AWp.sreg (id := 12) dd5 rfl (fun gs K hgs hK => ?_) | refine AWp.reg (id := 12) dd5 rfl (fun gs K hgs hK => ?_)); replace hgs : gs 4 = some 87 := hgs 4) | ((first | refine AWp.sreg (id := 14) dd5 rfl (fun gs K hgs hK => ?_) | refine AWp.reg (id := 14) dd5 rfl (fun gs K hgs hK => ?_)); replace hgs : gs 1 = some 92 ∧ gs 5 = some 96 ∧ gs 8 = some 99 ∧ gs 14 = some 105 ∧ gs 23 = some 114 ∧ gs 26 = some 117 ∧ gs 28 = some 119 := ⟨hgs 1, hgs 5, hgs 8, hgs 14, hgs 23, hgs 26, hgs 28⟩) | (refine AWp.sreg  dd5 rfl (fun gs K hgs hK => ?_); replace hgs : Nat.succ 0 = 1 := rfl) | refine AWp.seq ?_ | refine ARounds.step ?_ | refine AWp.block ?_ | refine AWp.label ?_ | (refine AWp.ret ?_; try simp only [aThen, aBlock]) | (refine AWp.skip ?_; try simp only [aThen, aBlock]) | (refine AWp.exit ?_; try simp only [aThen, aBlock, Nat.reduceEqDiff, reduceIte]) | (refine AWp.reg  dd5 rfl (fun gs K hgs hK => ?_); replace hgs : Nat.succ 0 = 1 := rfl) | (refine aops_consG (fun K' h' => ?_); simp only [go_sem, Nat.reduceLT, Nat.reduceLeDiff, Nat.reduceEqDiff, reduceIte, Nat.reduceAdd, Nat.reduceMul, Nat.reduceSub, Int.reduceLT, Int.reduceLE, Int.reduceToNat, Int.reduceNeg, reduceCtorEq, hgs, aopG, bne_self_eq_false, Bool.not_false, beq_self_eq_true]; (try simp (disch := omega) only [wrap_id, getD_map_in, Int.toNat_natCast, aopG, bne_self_eq_false, Bool.not_false, beq_self_eq_true]); (repeat (refine And.intro (by (first | omega | (simp; done) | (simp; omega) | assumption)) ?_)); refine h' _ ?_; clear h' K') | (refine AWp.cond rfl (fun h => ?_) (fun h => ?_) <;> (try simp only [decide_eq_true_eq, decide_eq_false_iff_not, beq_iff_eq, bne_iff_ne, ne_eq, Bool.not_eq_true', Bool.not_eq_false', beq_eq_false_iff_ne, Bool.true_eq_false, Bool.false_eq_true, Int.not_le, Int.not_lt, Bool.and_eq_true, Bool.and_eq_false_iff, Bool.or_eq_true, Bool.or_eq_false_iff, bne_eq_false_iff_eq, reduceCtorEq] at h) <;> (try first | contradiction | (exfalso; omega) | (exfalso; revert h; simp; done) | (exfalso; revert h; simp; omega)))))
          all_goals first
            | (exfalso; omega)
            | skip
          all_goals simp only [Out, outA, outL, resA, go_sem, Nat.reduceLT, Nat.reduceLeDiff, Nat.reduceEqDiff, reduceIte, Nat.reduceAdd, Nat.reduceMul, Nat.reduceSub, Int.reduceLT, Int.reduceLE, Int.reduceToNat, Int.reduceNeg, reduceCtorEq]
          all_goals exact AVle.of_eq (by simp_all)
  · -- asked of a query that is great, or not accepted, or of a record that is not right
    have hAc2 : greatF q = true ∨ q.fit := by
      cases hg : greatF q
      · exact .inr (greatF_fit2 hg hb n1 n2)
      · exact .inl rfl
    rcases hAc2 with hg2 | hf
    · rw [hg2] at hGr
      clear hall hg2 hb n1 n2 hr
      obtain ⟨r1, r2, r3⟩ := r
      obtain ⟨ag, ar, sr, jn, wh, ⟨kd, sz, ev⟩, bk, lt⟩ := q
      unfold Qry.cells nodesV intsV Rcd.cells at *
      simp only at *
      refine acall_of (n := 126) (rs := [.tmp 4]) Try.func5 rfl (by kernel_rfl) rfl rfl rfl ?_; simp only [argsE, Nat.reduceAdd]
      repeat (any_goals (first | (refine aops_cons (fun K' h' => ?_); simp only [go_sem, Nat.reduceLT, Nat.reduceLeDiff, Nat.reduceEqDiff, reduceIte, Nat.reduceAdd, Nat.reduceMul, Nat.reduceSub, Int.reduceLT, Int.reduceLE, Int.reduceToNat, Int.reduceNeg, reduceCtorEq, hgs, aopG, bne_self_eq_false, Bool.not_false, beq_self_eq_true]; (try ((first | refine ⟨_, alive29_c, ?_⟩ | refine ⟨_, fun _ => alive29_c, ?_⟩ | refine ⟨_, hGr, ?_⟩ | refine ⟨_, fun _ => hGr, ?_⟩ | refine ⟨_, hAc, ?_⟩ | refine ⟨_, fun _ => hAc, ?_⟩ | refine ⟨_, hR, ?_⟩ | refine ⟨_, fun _ => hR, ?_⟩ | refine ⟨_, hP1, ?_⟩ | refine ⟨_, fun _ => hP1, ?_⟩ | refine ⟨_, hP2, ?_⟩ | refine ⟨_, fun _ => hP2, ?_⟩ | refine ⟨_, hP3, ?_⟩ | refine ⟨_, fun _ => hP3, ?_⟩ | refine ⟨_, hE1, ?_⟩ | refine ⟨_, fun _ => hE1, ?_⟩); (try simp only [go_sem, Nat.reduceLT, Nat.reduceLeDiff, Nat.reduceEqDiff, reduceIte, Nat.reduceAdd, Nat.reduceMul, Nat.reduceSub, Int.reduceLT, Int.reduceLE, Int.reduceToNat, Int.reduceNeg, reduceCtorEq, hgs, aopG, bne_self_eq_false, Bool.not_false, beq_self_eq_true]))); (try simp (disch := omega) only [wrap_id, getD_map_in, Int.toNat_natCast, aopG, bne_self_eq_false, Bool.not_false, beq_self_eq_true]); (repeat (refine And.intro (by (first | omega | (simp; done) | (simp; omega) | assumption)) ?_)); refine h' _ ?_; clear h' K') | (refine aops_nil (hK _ ?_); clear hK K hgs gs; try simp only [aThen, aBlock]) | ((first | refine AWp.sreg (id := 2) dd5 rfl (fun gs K hgs hK => ?_) | refine AWp.reg (id := 2) dd5 rfl (fun gs K hgs hK => ?_)); replace hgs : gs 2 = some 21 ∧ gs 7 = some 26 ∧ gs 12 = some 31 := ⟨hgs 2, hgs 7, hgs 12⟩) | ((first | refine AWp.sreg (id := 5) dd5 rfl (fun gs K hgs hK => ?_) | refine AWp.reg (id := 5) dd5 rfl (fun gs K hgs hK => ?_)); replace hgs : gs 2 = some 45 := hgs 2) | ((first | refine AWp.sreg (id := 6) dd5 rfl (fun gs K hgs hK => ?_) | refine AWp.reg (id := 6) dd5 rfl (fun gs K hgs hK => ?_)); replace hgs : gs 1 = some 50 ∧ gs 5 = some 54 := ⟨hgs 1, hgs 5⟩) | ((first | refine AWp.sreg (id := 12) dd5 rfl (fun gs K hgs hK => ?_) | refine AWp.reg (id := 12) dd5 rfl (fun gs K hgs hK => ?_)); replace hgs : gs 4 = some 87 := hgs 4) | ((first | refine AWp.sreg (id := 14) dd5 rfl (fun gs K hgs hK => ?_) | refine AWp.reg (id := 14) dd5 rfl (fun gs K hgs hK => ?_)); replace hgs : gs 1 = some 92 ∧ gs 5 = some 96 ∧ gs 8 = some 99 ∧ gs 14 = some 105 ∧ gs 23 = some 114 ∧ gs 26 = some 117 ∧ gs 28 = some 119 := ⟨hgs 1, hgs 5, hgs 8, hgs 14, hgs 23, hgs 26, hgs 28⟩) | (refine AWp.sreg  dd5 rfl (fun gs K hgs hK => ?_); replace hgs : Nat.succ 0 = 1 := rfl) | refine AWp.seq ?_ | refine ARounds.step ?_ | refine AWp.block ?_ | refine AWp.label ?_ | (refine AWp.ret ?_; try simp only [aThen, aBlock]) | (refine AWp.skip ?_; try simp only [aThen, aBlock]) | (refine AWp.exit ?_; try simp only [aThen, aBlock, Nat.reduceEqDiff, reduceIte]) | (refine AWp.reg  dd5 rfl (fun gs K hgs hK => ?_); replace hgs : Nat.succ 0 = 1 := rfl) | (refine aops_consG (fun K' h' => ?_); simp only [go_sem, Nat.reduceLT, Nat.reduceLeDiff, Nat.reduceEqDiff, reduceIte, Nat.reduceAdd, Nat.reduceMul, Nat.reduceSub, Int.reduceLT, Int.reduceLE, Int.reduceToNat, Int.reduceNeg, reduceCtorEq, hgs, aopG, bne_self_eq_false, Bool.not_false, beq_self_eq_true]; (try simp (disch := omega) only [wrap_id, getD_map_in, Int.toNat_natCast, aopG, bne_self_eq_false, Bool.not_false, beq_self_eq_true]); (repeat (refine And.intro (by (first | omega | (simp; done) | (simp; omega) | assumption)) ?_)); refine h' _ ?_; clear h' K') | (refine AWp.cond rfl (fun h => ?_) (fun h => ?_) <;> (try simp only [decide_eq_true_eq, decide_eq_false_iff_not, beq_iff_eq, bne_iff_ne, ne_eq, Bool.not_eq_true', Bool.not_eq_false', beq_eq_false_iff_ne, Bool.true_eq_false, Bool.false_eq_true, Int.not_le, Int.not_lt, Bool.and_eq_true, Bool.and_eq_false_iff, Bool.or_eq_true, Bool.or_eq_false_iff, bne_eq_false_iff_eq, reduceCtorEq] at h) <;> (try first | contradiction | (exfalso; omega) | (exfalso; revert h; simp; done) | (exfalso; revert h; simp; omega)))))
      all_goals simp only [Out, outA, outL, resA, go_sem, Nat.reduceLT, Nat.reduceLeDiff, Nat.reduceEqDiff, reduceIte, Nat.reduceAdd, Nat.reduceMul, Nat.reduceSub, Int.reduceLT, Int.reduceLE, Int.reduceToNat, Int.reduceNeg, reduceCtorEq]
      all_goals exact AVle.refl _
    · have hAc := accepted29_c q hf
      obtain ⟨gf, hgf⟩ : ∃ g, greatF q = g := ⟨_, rfl⟩
      obtain ⟨ac, hac⟩ : ∃ a, accE q = a := ⟨_, rfl⟩
      obtain ⟨tb, htb⟩ : ∃ b, isTimeB r.t = b := ⟨_, rfl⟩
      have hR := right25_c r.key r.t r.v
      rw [hgf, hac, htb] at hall
      rw [hgf] at hGr
      rw [hac] at hAc
      rw [htb] at hR
      clear hgf hac htb hb n1 n2 hr hf
      obtain ⟨r1, r2, r3⟩ := r
      obtain ⟨ag, ar, sr, jn, wh, ⟨kd, sz, ev⟩, bk, lt⟩ := q
      unfold Qry.cells nodesV intsV Rcd.cells at *
      simp only at *
      by_cases ha : ac = 0
      · rw [decide_eq_true ha] at hAc
        cases gf <;> cases tb
        all_goals first
          | exact absurd ⟨rfl, ha, rfl⟩ hall
          | skip
        all_goals
          refine acall_of (n := 126) (rs := [.tmp 4]) Try.func5 rfl (by kernel_rfl) rfl rfl rfl ?_; simp only [argsE, Nat.reduceAdd]
          repeat (any_goals (first | (refine aops_cons (fun K' h' => ?_); simp only [go_sem, Nat.reduceLT, Nat.reduceLeDiff, Nat.reduceEqDiff, reduceIte, Nat.reduceAdd, Nat.reduceMul, Nat.reduceSub, Int.reduceLT, Int.reduceLE, Int.reduceToNat, Int.reduceNeg, reduceCtorEq, hgs, aopG, bne_self_eq_false, Bool.not_false, beq_self_eq_true]; (try ((first | refine ⟨_, alive29_c, ?_⟩ | refine ⟨_, fun _ => alive29_c, ?_⟩ | refine ⟨_, hGr, ?_⟩ | refine ⟨_, fun _ => hGr, ?_⟩ | refine ⟨_, hAc, ?_⟩ | refine ⟨_, fun _ => hAc, ?_⟩ | refine ⟨_, hR, ?_⟩ | refine ⟨_, fun _ => hR, ?_⟩ | refine ⟨_, hP1, ?_⟩ | refine ⟨_, fun _ => hP1, ?_⟩ | refine ⟨_, hP2, ?_⟩ | refine ⟨_, fun _ => hP2, ?_⟩ | refine ⟨_, hP3, ?_⟩ | refine ⟨_, fun _ => hP3, ?_⟩ | refine ⟨_, hE1, ?_⟩ | refine ⟨_, fun _ => hE1, ?_⟩); (try simp only [go_sem, Nat.reduceLT, Nat.reduceLeDiff, Nat.reduceEqDiff, reduceIte, Nat.reduceAdd, Nat.reduceMul, Nat.reduceSub, Int.reduceLT, Int.reduceLE, Int.reduceToNat, Int.reduceNeg, reduceCtorEq, hgs, aopG, bne_self_eq_false, Bool.not_false, beq_self_eq_true]))); (try simp (disch := omega) only [wrap_id, getD_map_in, Int.toNat_natCast, aopG, bne_self_eq_false, Bool.not_false, beq_self_eq_true]); (repeat (refine And.intro (by (first | omega | (simp; done) | (simp; omega) | assumption)) ?_)); refine h' _ ?_; clear h' K') | (refine aops_nil (hK _ ?_); clear hK K hgs gs; try simp only [aThen, aBlock]) | ((first | refine AWp.sreg (id := 2) dd5 rfl (fun gs K hgs hK => ?_) | refine AWp.reg (id := 2) dd5 rfl (fun gs K hgs hK => ?_)); replace hgs : gs 2 = some 21 ∧ gs 7 = some 26 ∧ gs 12 = some 31 := ⟨hgs 2, hgs 7, hgs 12⟩) | ((first | refine AWp.sreg (id := 5) dd5 rfl (fun gs K hgs hK => ?_) | refine AWp.reg (id := 5) dd5 rfl (fun gs K hgs hK => ?_)); replace hgs : gs 2 = some 45 := hgs 2) | ((first | refine AWp.sreg (id := 6) dd5 rfl (fun gs K hgs hK => ?_) | refine AWp.reg (id := 6) dd5 rfl (fun gs K hgs hK => ?_)); replace hgs : gs 1 = some 50 ∧ gs 5 = some 54 := ⟨hgs 1, hgs 5⟩) | ((first | refine AWp.sreg (id := 12) dd5 rfl (fun gs K hgs hK => ?_) | refine AWp.reg (id := 12) dd5 rfl (fun gs K hgs hK => ?_)); replace hgs : gs 4 = some 87 := hgs 4) | ((first | refine AWp.sreg (id := 14) dd5 rfl (fun gs K hgs hK => ?_) | refine AWp.reg (id := 14) dd5 rfl (fun gs K hgs hK => ?_)); replace hgs : gs 1 = some 92 ∧ gs 5 = some 96 ∧ gs 8 = some 99 ∧ gs 14 = some 105 ∧ gs 23 = some 114 ∧ gs 26 = some 117 ∧ gs 28 = some 119 := ⟨hgs 1, hgs 5, hgs 8, hgs 14, hgs 23, hgs 26, hgs 28⟩) | (refine AWp.sreg  dd5 rfl (fun gs K hgs hK => ?_); replace hgs : Nat.succ 0 = 1 := rfl) | refine AWp.seq ?_ | refine ARounds.step ?_ | refine AWp.block ?_ | refine AWp.label ?_ | (refine AWp.ret ?_; try simp only [aThen, aBlock]) | (refine AWp.skip ?_; try simp only [aThen, aBlock]) | (refine AWp.exit ?_; try simp only [aThen, aBlock, Nat.reduceEqDiff, reduceIte]) | (refine AWp.reg  dd5 rfl (fun gs K hgs hK => ?_); replace hgs : Nat.succ 0 = 1 := rfl) | (refine aops_consG (fun K' h' => ?_); simp only [go_sem, Nat.reduceLT, Nat.reduceLeDiff, Nat.reduceEqDiff, reduceIte, Nat.reduceAdd, Nat.reduceMul, Nat.reduceSub, Int.reduceLT, Int.reduceLE, Int.reduceToNat, Int.reduceNeg, reduceCtorEq, hgs, aopG, bne_self_eq_false, Bool.not_false, beq_self_eq_true]; (try simp (disch := omega) only [wrap_id, getD_map_in, Int.toNat_natCast, aopG, bne_self_eq_false, Bool.not_false, beq_self_eq_true]); (repeat (refine And.intro (by (first | omega | (simp; done) | (simp; omega) | assumption)) ?_)); refine h' _ ?_; clear h' K') | (refine AWp.cond rfl (fun h => ?_) (fun h => ?_) <;> (try simp only [decide_eq_true_eq, decide_eq_false_iff_not, beq_iff_eq, bne_iff_ne, ne_eq, Bool.not_eq_true', Bool.not_eq_false', beq_eq_false_iff_ne, Bool.true_eq_false, Bool.false_eq_true, Int.not_le, Int.not_lt, Bool.and_eq_true, Bool.and_eq_false_iff, Bool.or_eq_true, Bool.or_eq_false_iff, bne_eq_false_iff_eq, reduceCtorEq] at h) <;> (try first | contradiction | (exfalso; omega) | (exfalso; revert h; simp; done) | (exfalso; revert h; simp; omega)))))
          all_goals simp only [Out, outA, outL, resA, go_sem, Nat.reduceLT, Nat.reduceLeDiff, Nat.reduceEqDiff, reduceIte, Nat.reduceAdd, Nat.reduceMul, Nat.reduceSub, Int.reduceLT, Int.reduceLE, Int.reduceToNat, Int.reduceNeg, reduceCtorEq]
          all_goals exact AVle.refl _
      · rw [decide_eq_false ha] at hAc
        cases gf
        all_goals
          refine acall_of (n := 126) (rs := [.tmp 4]) Try.func5 rfl (by kernel_rfl) rfl rfl rfl ?_; simp only [argsE, Nat.reduceAdd]
          repeat (any_goals (first | (refine aops_cons (fun K' h' => ?_); simp only [go_sem, Nat.reduceLT, Nat.reduceLeDiff, Nat.reduceEqDiff, reduceIte, Nat.reduceAdd, Nat.reduceMul, Nat.reduceSub, Int.reduceLT, Int.reduceLE, Int.reduceToNat, Int.reduceNeg, reduceCtorEq, hgs, aopG, bne_self_eq_false, Bool.not_false, beq_self_eq_true]; (try ((first | refine ⟨_, alive29_c, ?_⟩ | refine ⟨_, fun _ => alive29_c, ?_⟩ | refine ⟨_, hGr, ?_⟩ | refine ⟨_, fun _ => hGr, ?_⟩ | refine ⟨_, hAc, ?_⟩ | refine ⟨_, fun _ => hAc, ?_⟩ | refine ⟨_, hR, ?_⟩ | refine ⟨_, fun _ => hR, ?_⟩ | refine ⟨_, hP1, ?_⟩ | refine ⟨_, fun _ => hP1, ?_⟩ | refine ⟨_, hP2, ?_⟩ | refine ⟨_, fun _ => hP2, ?_⟩ | refine ⟨_, hP3, ?_⟩ | refine ⟨_, fun _ => hP3, ?_⟩ | refine ⟨_, hE1, ?_⟩ | refine ⟨_, fun _ => hE1, ?_⟩); (try simp only [go_sem, Nat.reduceLT, Nat.reduceLeDiff, Nat.reduceEqDiff, reduceIte, Nat.reduceAdd, Nat.reduceMul, Nat.reduceSub, Int.reduceLT, Int.reduceLE, Int.reduceToNat, Int.reduceNeg, reduceCtorEq, hgs, aopG, bne_self_eq_false, Bool.not_false, beq_self_eq_true]))); (try simp (disch := omega) only [wrap_id, getD_map_in, Int.toNat_natCast, aopG, bne_self_eq_false, Bool.not_false, beq_self_eq_true]); (repeat (refine And.intro (by (first | omega | (simp; done) | (simp; omega) | assumption)) ?_)); refine h' _ ?_; clear h' K') | (refine aops_nil (hK _ ?_); clear hK K hgs gs; try simp only [aThen, aBlock]) | ((first | refine AWp.sreg (id := 2) dd5 rfl (fun gs K hgs hK => ?_) | refine AWp.reg (id := 2) dd5 rfl (fun gs K hgs hK => ?_)); replace hgs : gs 2 = some 21 ∧ gs 7 = some 26 ∧ gs 12 = some 31 := ⟨hgs 2, hgs 7, hgs 12⟩) | ((first | refine AWp.sreg (id := 5) dd5 rfl (fun gs K hgs hK => ?_) | refine AWp.reg (id := 5) dd5 rfl (fun gs K hgs hK => ?_)); replace hgs : gs 2 = some 45 := hgs 2) | ((first | refine AWp.sreg (id := 6) dd5 rfl (fun gs K hgs hK => ?_) | refine AWp.reg (id := 6) dd5 rfl (fun gs K hgs hK => ?_)); replace hgs : gs 1 = some 50 ∧ gs 5 = some 54 := ⟨hgs 1, hgs 5⟩) | ((first | refine AWp.sreg (id := 12) dd5 rfl (fun gs K hgs hK => ?_) | refine AWp.reg (id := 12) dd5 rfl (fun gs K hgs hK => ?_)); replace hgs : gs 4 = some 87 := hgs 4) | ((first | refine AWp.sreg (id := 14) dd5 rfl (fun gs K hgs hK => ?_) | refine AWp.reg (id := 14) dd5 rfl (fun gs K hgs hK => ?_)); replace hgs : gs 1 = some 92 ∧ gs 5 = some 96 ∧ gs 8 = some 99 ∧ gs 14 = some 105 ∧ gs 23 = some 114 ∧ gs 26 = some 117 ∧ gs 28 = some 119 := ⟨hgs 1, hgs 5, hgs 8, hgs 14, hgs 23, hgs 26, hgs 28⟩) | (refine AWp.sreg  dd5 rfl (fun gs K hgs hK => ?_); replace hgs : Nat.succ 0 = 1 := rfl) | refine AWp.seq ?_ | refine ARounds.step ?_ | refine AWp.block ?_ | refine AWp.label ?_ | (refine AWp.ret ?_; try simp only [aThen, aBlock]) | (refine AWp.skip ?_; try simp only [aThen, aBlock]) | (refine AWp.exit ?_; try simp only [aThen, aBlock, Nat.reduceEqDiff, reduceIte]) | (refine AWp.reg  dd5 rfl (fun gs K hgs hK => ?_); replace hgs : Nat.succ 0 = 1 := rfl) | (refine aops_consG (fun K' h' => ?_); simp only [go_sem, Nat.reduceLT, Nat.reduceLeDiff, Nat.reduceEqDiff, reduceIte, Nat.reduceAdd, Nat.reduceMul, Nat.reduceSub, Int.reduceLT, Int.reduceLE, Int.reduceToNat, Int.reduceNeg, reduceCtorEq, hgs, aopG, bne_self_eq_false, Bool.not_false, beq_self_eq_true]; (try simp (disch := omega) only [wrap_id, getD_map_in, Int.toNat_natCast, aopG, bne_self_eq_false, Bool.not_false, beq_self_eq_true]); (repeat (refine And.intro (by (first | omega | (simp; done) | (simp; omega) | assumption)) ?_)); refine h' _ ?_; clear h' K') | (refine AWp.cond rfl (fun h => ?_) (fun h => ?_) <;> (try simp only [decide_eq_true_eq, decide_eq_false_iff_not, beq_iff_eq, bne_iff_ne, ne_eq, Bool.not_eq_true', Bool.not_eq_false', beq_eq_false_iff_ne, Bool.true_eq_false, Bool.false_eq_true, Int.not_le, Int.not_lt, Bool.and_eq_true, Bool.and_eq_false_iff, Bool.or_eq_true, Bool.or_eq_false_iff, bne_eq_false_iff_eq, reduceCtorEq] at h) <;> (try first | contradiction | (exfalso; omega) | (exfalso; revert h; simp; done) | (exfalso; revert h; simp; omega)))))
          all_goals simp only [Out, outA, outL, resA, go_sem, Nat.reduceLT, Nat.reduceLeDiff, Nat.reduceEqDiff, reduceIte, Nat.reduceAdd, Nat.reduceMul, Nat.reduceSub, Int.reduceLT, Int.reduceLE, Int.reduceToNat, Int.reduceNeg, reduceCtorEq]
          all_goals exact AVle.refl _
theorem ftwice_all : ∀ xs, ShpAs Try.prog 8 Try.f5.params.toList xs → ACall Try.prog 5 xs (.lit (.bool true)) := by
  intro xs h
  have hp : Try.f5.params.toList = [27, 29] := by kernel_rfl
  rw [hp] at h
  obtain ⟨a, r, rfl, ha, h⟩ := h
  obtain ⟨b, r, rfl, hb, h⟩ := h
  obtain rfl : r = [] := h
  obtain ⟨q, rfl, h1, h2, h3, h4, h5, h6⟩ := qryB_shape ha
  obtain ⟨r, rfl, hr⟩ := recB_shape hb
  exact ftwice_law q r h1 h2 h3 h4 h5 h6 hr
end Go.Proofs.Ytmooelhocanlnaa
