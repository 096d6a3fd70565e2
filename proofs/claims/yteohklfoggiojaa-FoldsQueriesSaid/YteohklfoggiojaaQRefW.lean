/-
  The walks over the reference's comparisons of queries: lists of sources, queries but for places, queries, and the checked comparison.
-/
import Derived.Test.YteohklfoggiojaaAlkW
namespace Go.Proofs.Yteohklfoggiojaa
open Go.AL Go.RowKit
set_option linter.unusedSimpArgs false
set_option linter.unusedVariables false
set_option maxRecDepth 10000
set_option maxHeartbeats 4000000
def dd82 : Nat → List (List Nat)
  | 0 => [[], [4]]
  | 1 => [[], [], [6], [], [8], [7, 9]]
  | 2 => [[0, 1, 10], []]
  | 3 => [[10], []]
  | 4 => [[], [], [], [12], [11, 13]]
  | 5 => [[25], [5], [15], [16]]
  | 7 => [[0, 1, 5, 25], []]
  | 8 => [[0, 1, 5, 14], []]
  | _ => []
def fo82 : Nat → List Nat
  | 6 => [0, 1, 5, 25]
  | _ => []
theorem rSameSrc_c (a b : List Int) (ha : a.length ≤ 1000) (hb : b.length ≤ 1000) : ACall Try.prog 82 [intsV a, intsV b] (.lit (.bool (decide (a = b)))) := by
  unfold intsV
  refine acall_of (n := 26) (rs := [.tmp 4]) Try.func82 rfl (by kernel_rfl) rfl rfl rfl ?_; simp only [argsE, Nat.reduceAdd]
  repeat (any_goals (first | ((first | refine aops_cons (fun K' h' => ?_) | refine aopsD_cons (fun K' h' => ?_)); simp only [go_sem, simprocAttr]; (try simp (disch := omega) only [wrap_id, getD_map_in, Int.toNat_natCast]); (repeat (refine And.intro (by (first | omega | (simp; done) | (simp; omega) | assumption)) ?_)); refine h' _ ?_; clear h' K') | (refine aops_nil (hK _ ?_); clear hK K gs; try simp only [aThen, aBlock]) | (refine AWp.sreg  dd82 rfl (fun gs K hgs hK => ?_); clear hgs) | refine AWp.seq ?_ | refine ARounds.step ?_ | refine AWp.block ?_ | refine AWp.label ?_ | (refine AWp.ret ?_; try simp only [aThen, aBlock]) | (refine AWp.skip ?_; try simp only [aThen, aBlock]) | (refine AWp.exit ?_; try simp only [aThen, aBlock, Nat.reduceEqDiff, reduceIte]) | (refine AWp.reg  dd82 rfl (fun gs K hgs hK => ?_); clear hgs) | ((first | refine AWp.sregD  fo82 mo_fact (by kernel_rfl) (fun gs K hgs hK => ?_) | refine AWp.regD  fo82 mo_fact (by kernel_rfl) (fun gs K hgs hK => ?_)); clear hgs) | (refine aopsD_nil (hK _ ?_); clear hK K gs; simp only [fo82]; simp only [ASt.prune, pruneE, keepB, keepR, Bool.or_false, Bool.or_true, Bool.true_or, Bool.false_or, reduceIte, Bool.or_self, Bool.false_eq_true, aThen, aBlock, Nat.reduceEqDiff]) | (refine AWp.cond rfl (fun h => ?_) (fun h => ?_) <;> (try simp only [decide_eq_true_eq, decide_eq_false_iff_not, beq_iff_eq, bne_iff_ne, ne_eq, Bool.not_eq_true', Bool.not_eq_false', beq_eq_false_iff_ne, Bool.true_eq_false, Bool.false_eq_true, Int.not_le, Int.not_lt, Bool.and_eq_true, Bool.and_eq_false_iff, Bool.or_eq_true, Bool.or_eq_false_iff, bne_eq_false_iff_eq, reduceCtorEq] at h) <;> (try first | contradiction | (exfalso; omega) | (exfalso; revert h; simp; done) | (exfalso; revert h; simp; omega)))))
  · simp only [Out, outA, outL, resA, go_sem, simprocAttr]
    refine AVle.of_eq (congrArg (fun b => AV.lit (.bool b)) ?_)
    have : a ≠ b := fun h => by subst h; omega
    simp [this]
  · refine AWp.loop (I := fun k : Nat => k ≤ a.length ∧ ∀ j, j < k → a.getD j default = b.getD j default) (fun k => ⟨[(0, .ro 1 (a.map fun x => [.lit (.int .i64 x)])), (1, .ro 1 (b.map fun x => [.lit (.int .i64 x)])), (5, .lit (.int .i64 (k : Int)))], [], []⟩) (fun k => a.length - k) 0 ?_ ?_ ?_
    · exact ⟨Nat.zero_le _, fun j h => absurd h (Nat.not_lt_zero j)⟩
    · refine Wk.of rfl rfl ?_
      simp [subE, eget, ASt.drop, dropE, keepR, lowE, AV.lowB, lowL, Nat.blt, Nat.ble]
    · rintro k ⟨hk, hall⟩
      repeat ((first | ((first | refine aops_cons (fun K' h' => ?_) | refine aopsD_cons (fun K' h' => ?_)); simp only [go_sem, simprocAttr]; (try simp (disch := omega) only [wrap_id, getD_map_in, Int.toNat_natCast]); (repeat (refine And.intro (by (first | omega | (simp; done) | (simp; omega) | assumption)) ?_)); refine h' _ ?_; clear h' K') | (refine aops_nil (hK _ ?_); clear hK K gs; try simp only [aThen, aBlock]) | (refine AWp.sreg  dd82 rfl (fun gs K hgs hK => ?_); clear hgs) | refine AWp.seq ?_ | refine ARounds.step ?_ | refine AWp.block ?_ | refine AWp.label ?_ | (refine AWp.ret ?_; try simp only [aThen, aBlock]) | (refine AWp.skip ?_; try simp only [aThen, aBlock]) | (refine AWp.exit ?_; try simp only [aThen, aBlock, Nat.reduceEqDiff, reduceIte]) | (refine AWp.reg  dd82 rfl (fun gs K hgs hK => ?_); clear hgs) | ((first | refine AWp.sregD  fo82 mo_fact (by kernel_rfl) (fun gs K hgs hK => ?_) | refine AWp.regD  fo82 mo_fact (by kernel_rfl) (fun gs K hgs hK => ?_)); clear hgs) | (refine aopsD_nil (hK _ ?_); clear hK K gs; simp only [fo82]; simp only [ASt.prune, pruneE, keepB, keepR, Bool.or_false, Bool.or_true, Bool.true_or, Bool.false_or, reduceIte, Bool.or_self, Bool.false_eq_true, aThen, aBlock, Nat.reduceEqDiff])))
      (refine AWp.cond rfl (fun h => ?_) (fun h => ?_) <;> (try simp only [decide_eq_true_eq, decide_eq_false_iff_not, beq_iff_eq, bne_iff_ne, ne_eq, Bool.not_eq_true', Bool.not_eq_false', beq_eq_false_iff_ne, Bool.true_eq_false, Bool.false_eq_true, Int.not_le, Int.not_lt, Bool.and_eq_true, Bool.and_eq_false_iff, Bool.or_eq_true, Bool.or_eq_false_iff, bne_eq_false_iff_eq, reduceCtorEq] at h) <;> (try first | contradiction | (exfalso; omega) | (exfalso; revert h; simp; done) | (exfalso; revert h; simp; omega)))
      · obtain ⟨x, hx⟩ : ∃ x, a.getD k default = x := ⟨_, rfl⟩
        obtain ⟨y, hy⟩ : ∃ y, b.getD k default = y := ⟨_, rfl⟩
        repeat (any_goals (first | ((first | refine aops_cons (fun K' h' => ?_) | refine aopsD_cons (fun K' h' => ?_)); simp only [go_sem, simprocAttr, hx, hy]; (try simp (disch := omega) only [wrap_id, getD_map_in, Int.toNat_natCast, hx, hy]); (repeat (refine And.intro (by (first | omega | (simp; done) | (simp; omega) | assumption)) ?_)); refine h' _ ?_; clear h' K') | (refine aops_nil (hK _ ?_); clear hK K gs; try simp only [aThen, aBlock]) | (refine AWp.sreg  dd82 rfl (fun gs K hgs hK => ?_); clear hgs) | refine AWp.seq ?_ | refine ARounds.step ?_ | refine AWp.block ?_ | refine AWp.label ?_ | (refine AWp.ret ?_; try simp only [aThen, aBlock]) | (refine AWp.skip ?_; try simp only [aThen, aBlock]) | (refine AWp.exit ?_; try simp only [aThen, aBlock, Nat.reduceEqDiff, reduceIte]) | (refine AWp.reg  dd82 rfl (fun gs K hgs hK => ?_); clear hgs) | ((first | refine AWp.sregD  fo82 mo_fact (by kernel_rfl) (fun gs K hgs hK => ?_) | refine AWp.regD  fo82 mo_fact (by kernel_rfl) (fun gs K hgs hK => ?_)); clear hgs) | (refine aopsD_nil (hK _ ?_); clear hK K gs; simp only [fo82]; simp only [ASt.prune, pruneE, keepB, keepR, Bool.or_false, Bool.or_true, Bool.true_or, Bool.false_or, reduceIte, Bool.or_self, Bool.false_eq_true, aThen, aBlock, Nat.reduceEqDiff]) | (refine AWp.cond rfl (fun h => ?_) (fun h => ?_) <;> (try simp only [decide_eq_true_eq, decide_eq_false_iff_not, beq_iff_eq, bne_iff_ne, ne_eq, Bool.not_eq_true', Bool.not_eq_false', beq_eq_false_iff_ne, Bool.true_eq_false, Bool.false_eq_true, Int.not_le, Int.not_lt, Bool.and_eq_true, Bool.and_eq_false_iff, Bool.or_eq_true, Bool.or_eq_false_iff, bne_eq_false_iff_eq, reduceCtorEq] at h) <;> (try first | contradiction | (exfalso; omega) | (exfalso; revert h; simp; done) | (exfalso; revert h; simp; omega)))))
        · simp only [Out, outA, outL, resA, go_sem, simprocAttr]
          refine AVle.of_eq (congrArg (fun b => AV.lit (.bool b)) ?_)
          have : a ≠ b := fun h2 => by subst h2; rw [hx] at hy; exact absurd hy ‹¬ x = y›
          simp [this]
        · refine ⟨k + 1, ⟨by omega, fun j hj => ?_⟩, Wk.of rfl rfl ?_, by omega⟩
          · by_cases hjk : j = k
            · rw [hjk, hx, hy]; exact ‹x = y›
            · exact hall j (by omega)
          · first
            | (simp [subE, eget, ASt.drop, dropE, keepR, lowE, AV.lowB, lowL, Nat.blt, Nat.ble]; done)
            | (simp [subE, eget, ASt.drop, dropE, keepR, lowE, AV.lowB, lowL, Nat.blt, Nat.ble]; omega)
      · have : a = b := List.ext_getElem (by omega) fun j h1 h2 => by
          have := hall j (by omega)
          simpa [List.getD_eq_getElem?_getD, List.getElem?_eq_getElem h1, List.getElem?_eq_getElem h2] using this
        rw [decide_eq_true this]
        repeat (any_goals (first | ((first | refine aops_cons (fun K' h' => ?_) | refine aopsD_cons (fun K' h' => ?_)); simp only [go_sem, simprocAttr]; (try simp (disch := omega) only [wrap_id, getD_map_in, Int.toNat_natCast]); (repeat (refine And.intro (by (first | omega | (simp; done) | (simp; omega) | assumption)) ?_)); refine h' _ ?_; clear h' K') | (refine aops_nil (hK _ ?_); clear hK K gs; try simp only [aThen, aBlock]) | (refine AWp.sreg  dd82 rfl (fun gs K hgs hK => ?_); clear hgs) | refine AWp.seq ?_ | refine ARounds.step ?_ | refine AWp.block ?_ | refine AWp.label ?_ | (refine AWp.ret ?_; try simp only [aThen, aBlock]) | (refine AWp.skip ?_; try simp only [aThen, aBlock]) | (refine AWp.exit ?_; try simp only [aThen, aBlock, Nat.reduceEqDiff, reduceIte]) | (refine AWp.reg  dd82 rfl (fun gs K hgs hK => ?_); clear hgs) | ((first | refine AWp.sregD  fo82 mo_fact (by kernel_rfl) (fun gs K hgs hK => ?_) | refine AWp.regD  fo82 mo_fact (by kernel_rfl) (fun gs K hgs hK => ?_)); clear hgs) | (refine aopsD_nil (hK _ ?_); clear hK K gs; simp only [fo82]; simp only [ASt.prune, pruneE, keepB, keepR, Bool.or_false, Bool.or_true, Bool.true_or, Bool.false_or, reduceIte, Bool.or_self, Bool.false_eq_true, aThen, aBlock, Nat.reduceEqDiff]) | (refine AWp.cond rfl (fun h => ?_) (fun h => ?_) <;> (try simp only [decide_eq_true_eq, decide_eq_false_iff_not, beq_iff_eq, bne_iff_ne, ne_eq, Bool.not_eq_true', Bool.not_eq_false', beq_eq_false_iff_ne, Bool.true_eq_false, Bool.false_eq_true, Int.not_le, Int.not_lt, Bool.and_eq_true, Bool.and_eq_false_iff, Bool.or_eq_true, Bool.or_eq_false_iff, bne_eq_false_iff_eq, reduceCtorEq] at h) <;> (try first | contradiction | (exfalso; omega) | (exfalso; revert h; simp; done) | (exfalso; revert h; simp; omega)))))
        simp only [Out, outA, outL, resA, go_sem, simprocAttr]
        exact AVle.refl _
def dd59 : Nat → List (List Nat)
  | 0 => [[], [0], [1], [4]]
  | 1 => [[], [], [5], [], [7], [6, 8], [9], [], [11], [], [13], [12, 14], [10, 15], [16], [], [18], [], [20], [19, 21], [17, 22], [23], [], [25], [], [27], [26, 28], [24, 29], [30], [], [32], [], [34], [33, 35], [31, 36], [37], [], [39], [], [41], [40, 42], [38, 43], [44], [], [46], [], [48], [47, 49], [45, 50], [51], [2], [53], [3], [55], [54, 56], [52, 57], [58]]
  | _ => []
theorem rAlikeQ_c (p q : Qry) (h1 : p.arg.length ≤ 1000) (h2 : p.wh.length ≤ 1000) (h3 : p.src.length ≤ 1000) (h4 : q.arg.length ≤ 1000) (h5 : q.wh.length ≤ 1000) (h6 : q.src.length ≤ 1000) :
    ACall Try.prog 59 [.agg p.cells, .agg q.cells] (.lit (.bool (alikeQ p q))) := by
  have hL1 := alikeR_c p.arg q.arg h1 h4
  have hL2 := alikeR_c p.wh q.wh h2 h5
  have hI := rSameSrc_c p.src q.src h3 h6
  unfold alikeQ
  obtain ⟨ag, ar, sr, jn, wh, ⟨kd, sz, ev⟩, bk, lt⟩ := p
  obtain ⟨ag2, ar2, sr2, jn2, wh2, ⟨kd2, sz2, ev2⟩, bk2, lt2⟩ := q
  simp only at hL1 hL2 hI ⊢
  generalize sameN ar ar2 = s1 at *
  generalize sameN wh wh2 = s2 at *
  generalize decide (sr = sr2) = s3 at *
  unfold Qry.cells nodesV intsV at *
  refine acall_of (n := 59) (rs := [.tmp 4]) Try.func59 rfl (by kernel_rfl) rfl rfl rfl ?_; simp only [argsE, Nat.reduceAdd]
  repeat (any_goals (first | (refine aops_cons (fun K' h' => ?_); simp only [go_sem, simprocAttr, hgs]; (try ((first | refine ⟨_, hL1, ?_⟩ | refine ⟨_, fun _ => hL1, ?_⟩ | refine ⟨_, hL2, ?_⟩ | refine ⟨_, fun _ => hL2, ?_⟩ | refine ⟨_, hI, ?_⟩ | refine ⟨_, fun _ => hI, ?_⟩); (try simp only [go_sem, simprocAttr, hgs]))); (try simp (disch := omega) only [wrap_id, getD_map_in, Int.toNat_natCast]); (repeat (refine And.intro (by (first | omega | (simp; done) | (simp; omega) | assumption)) ?_)); refine h' _ ?_; clear h' K') | (refine aops_nil (hK _ ?_); clear hK K hgs gs; try simp only [aThen, aBlock]) | ((first | refine AWp.sreg (id := 1) dd59 rfl (fun gs K hgs hK => ?_) | refine AWp.reg (id := 1) dd59 rfl (fun gs K hgs hK => ?_)); replace hgs : gs 5 = some 10 ∧ gs 12 = some 17 ∧ gs 19 = some 24 ∧ gs 26 = some 31 ∧ gs 33 = some 38 ∧ gs 40 = some 45 ∧ gs 47 = some 52 := ⟨hgs 5, hgs 12, hgs 19, hgs 26, hgs 33, hgs 40, hgs 47⟩) | (refine AWp.sreg  dd59 rfl (fun gs K hgs hK => ?_); replace hgs : Nat.succ 0 = 1 := rfl) | refine AWp.seq ?_ | refine ARounds.step ?_ | refine AWp.block ?_ | refine AWp.label ?_ | (refine AWp.ret ?_; try simp only [aThen, aBlock]) | (refine AWp.skip ?_; try simp only [aThen, aBlock]) | (refine AWp.exit ?_; try simp only [aThen, aBlock, Nat.reduceEqDiff, reduceIte]) | (refine AWp.reg  dd59 rfl (fun gs K hgs hK => ?_); replace hgs : Nat.succ 0 = 1 := rfl) | (refine aops_consG (fun K' h' => ?_); simp only [go_sem, simprocAttr, hgs]; (try simp (disch := omega) only [wrap_id, getD_map_in, Int.toNat_natCast]); (repeat (refine And.intro (by (first | omega | (simp; done) | (simp; omega) | assumption)) ?_)); refine h' _ ?_; clear h' K') | (refine AWp.cond rfl (fun h => ?_) (fun h => ?_) <;> (try simp only [decide_eq_true_eq, decide_eq_false_iff_not, beq_iff_eq, bne_iff_ne, ne_eq, Bool.not_eq_true', Bool.not_eq_false', beq_eq_false_iff_ne, Bool.true_eq_false, Bool.false_eq_true, Int.not_le, Int.not_lt, Bool.and_eq_true, Bool.and_eq_false_iff, Bool.or_eq_true, Bool.or_eq_false_iff, bne_eq_false_iff_eq, reduceCtorEq] at h) <;> (try first | contradiction | (exfalso; omega) | (exfalso; revert h; simp; done) | (exfalso; revert h; simp; omega)))))
  all_goals simp only [Out, outA, outL, resA, go_sem, simprocAttr]
  all_goals refine AVle.of_eq (congrArg (fun b => AV.lit (.bool b)) ?_)
  all_goals (try simp [Bool.beq_eq_decide_eq, Bool.decide_and])
  all_goals (try (cases s1 <;> cases s2 <;> cases s3 <;> simp_all <;> grind))
def dd35 : Nat → List (List Nat)
  | 0 => [[], [0], [1], [4]]
  | 1 => [[], [], [], [5, 6], [7], [], [9], [], [11], [10, 12], [8, 13], [14], [2], [16], [3], [18], [17, 19], [15, 20], [21]]
  | _ => []
theorem rEqualQ_c (p q : Qry) (h1 : p.arg.length ≤ 1000) (h2 : p.wh.length ≤ 1000) (h3 : p.src.length ≤ 1000) (h4 : q.arg.length ≤ 1000) (h5 : q.wh.length ≤ 1000) (h6 : q.src.length ≤ 1000) :
    ACall Try.prog 35 [.agg p.cells, .agg q.cells] (.lit (.bool (alikeQ p q && decide (p.arg = q.arg) && decide (p.wh = q.wh)))) := by
  have hAk := rAlikeQ_c p q h1 h2 h3 h4 h5 h6
  have hE1 := rEqual_c p.arg q.arg h1 h4
  have hE2 := rEqual_c p.wh q.wh h2 h5
  generalize alikeQ p q = ak at *
  obtain ⟨ag, ar, sr, jn, wh, ⟨kd, sz, ev⟩, bk, lt⟩ := p
  obtain ⟨ag2, ar2, sr2, jn2, wh2, ⟨kd2, sz2, ev2⟩, bk2, lt2⟩ := q
  simp only at hE1 hE2 ⊢
  generalize decide (ar = ar2) = s1 at *
  generalize decide (wh = wh2) = s2 at *
  unfold Qry.cells nodesV intsV at *
  refine acall_of (n := 22) (rs := [.tmp 4]) Try.func35 rfl (by kernel_rfl) rfl rfl rfl ?_; simp only [argsE, Nat.reduceAdd]
  repeat (any_goals (first | (refine aops_cons (fun K' h' => ?_); simp only [go_sem, simprocAttr, hgs]; (try ((first | refine ⟨_, hE1, ?_⟩ | refine ⟨_, fun _ => hE1, ?_⟩ | refine ⟨_, hE2, ?_⟩ | refine ⟨_, fun _ => hE2, ?_⟩ | refine ⟨_, hAk, ?_⟩ | refine ⟨_, fun _ => hAk, ?_⟩); (try simp only [go_sem, simprocAttr, hgs]))); (try simp (disch := omega) only [wrap_id, getD_map_in, Int.toNat_natCast]); (repeat (refine And.intro (by (first | omega | (simp; done) | (simp; omega) | assumption)) ?_)); refine h' _ ?_; clear h' K') | (refine aops_nil (hK _ ?_); clear hK K hgs gs; try simp only [aThen, aBlock]) | ((first | refine AWp.sreg (id := 1) dd35 rfl (fun gs K hgs hK => ?_) | refine AWp.reg (id := 1) dd35 rfl (fun gs K hgs hK => ?_)); replace hgs : gs 3 = some 8 ∧ gs 10 = some 15 := ⟨hgs 3, hgs 10⟩) | (refine AWp.sreg  dd35 rfl (fun gs K hgs hK => ?_); replace hgs : Nat.succ 0 = 1 := rfl) | refine AWp.seq ?_ | refine ARounds.step ?_ | refine AWp.block ?_ | refine AWp.label ?_ | (refine AWp.ret ?_; try simp only [aThen, aBlock]) | (refine AWp.skip ?_; try simp only [aThen, aBlock]) | (refine AWp.exit ?_; try simp only [aThen, aBlock, Nat.reduceEqDiff, reduceIte]) | (refine AWp.reg  dd35 rfl (fun gs K hgs hK => ?_); replace hgs : Nat.succ 0 = 1 := rfl) | (refine aops_consG (fun K' h' => ?_); simp only [go_sem, simprocAttr, hgs]; (try simp (disch := omega) only [wrap_id, getD_map_in, Int.toNat_natCast]); (repeat (refine And.intro (by (first | omega | (simp; done) | (simp; omega) | assumption)) ?_)); refine h' _ ?_; clear h' K') | (refine AWp.cond rfl (fun h => ?_) (fun h => ?_) <;> (try simp only [decide_eq_true_eq, decide_eq_false_iff_not, beq_iff_eq, bne_iff_ne, ne_eq, Bool.not_eq_true', Bool.not_eq_false', beq_eq_false_iff_ne, Bool.true_eq_false, Bool.false_eq_true, Int.not_le, Int.not_lt, Bool.and_eq_true, Bool.and_eq_false_iff, Bool.or_eq_true, Bool.or_eq_false_iff, bne_eq_false_iff_eq, reduceCtorEq] at h) <;> (try first | contradiction | (exfalso; omega) | (exfalso; revert h; simp; done) | (exfalso; revert h; simp; omega)))))
  all_goals simp only [Out, outA, outL, resA, go_sem, simprocAttr]
  all_goals refine AVle.of_eq (congrArg (fun b => AV.lit (.bool b)) ?_)
  all_goals (try (cases s1 <;> cases s2 <;> cases ak <;> simp_all; done))
end Go.Proofs.Yteohklfoggiojaa
