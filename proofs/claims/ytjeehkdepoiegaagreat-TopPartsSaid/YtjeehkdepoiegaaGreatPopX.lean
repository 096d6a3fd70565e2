/-
  Cutting a list of parts in two: pop, of a list of the caller's own.
-/
import Derived.Test.YtjeehkdepoiegaaGreatFacts
import Derived.Test.YtjeehkdepoiegaaGreatAbsS
namespace Go.Proofs.YtjeehkdepoiegaaGreat
open Go.AL Go.RowKit
set_option linter.unusedSimpArgs false
set_option linter.unusedVariables false
set_option maxRecDepth 4000
set_option maxHeartbeats 4000000
def dd103 : Nat → List (List Nat)
  | 0 => [[], [4], [5]]
  | _ => []
def fo103 : Nat → List Nat
  | 1 => [4, 5]
  | _ => []
theorem pop_lit (A : Option Addr) (len n c : Nat) (hn : n ≤ len) (hc : len ≤ c) (hm : c ≤ maxLen) : ACall Tryz.prog 103 [.lit (.slice A len c), .lit (.int .i64 (n : Int))]
    (.lit (.tuple #[.slice (if c = 0 then A else A.map (·.add (0 * 3))) (len - n) (c - 0), .slice (if c = len - n then A else A.map (·.add ((len - n) * 3))) n (c - (len - n))])) := by
  unfold maxLen at hm
  have hln : ((len : Int) - (n : Int)).toNat = len - n := by omega
  refine acall_of (n := 18) (rs := [.tmp 4, .tmp 5]) Tryz.func103 rfl (by kernel_rfl) rfl rfl rfl ?_; simp only [argsE, Nat.reduceAdd]
  repeat (any_goals (first | ((first | refine aops_cons (fun K' h' => ?_) | refine aopsD_cons (fun K' h' => ?_)); simp only [go_sem, Nat.reduceLT, Nat.reduceLeDiff, Nat.reduceEqDiff, reduceIte, Nat.reduceAdd, Nat.reduceMul, Nat.reduceSub, Int.reduceLT, Int.reduceLE, Int.reduceToNat, Int.reduceNeg, reduceCtorEq, hln]; (try simp (disch := omega) only [wrap_id, getD_map_in, Int.toNat_natCast, hln]); (repeat (refine And.intro (by (omega)) ?_)); refine h' _ ?_; clear h' K') | (refine aops_nil (hK _ ?_); clear hK K gs; try simp only [aThen, aBlock]) | (refine AWp.sreg  dd103 rfl (fun gs K hgs hK => ?_); clear hgs) | refine AWp.seq ?_ | (refine AWp.ret ?_; try simp only [aThen, aBlock]) | ((refine AWp.regD  fo103 mo_fact (by kernel_rfl) (fun gs K hgs hK => ?_)); clear hgs) | (refine aopsD_nil (hK _ ?_); clear hK K gs; simp only [fo103]; simp only [ASt.prune, pruneE, keepB, keepR, Bool.or_false, Bool.or_true, Bool.true_or, Bool.false_or, reduceIte, Bool.or_self, Bool.false_eq_true, aThen, aBlock, Nat.reduceEqDiff])))
  simp only [Out, outA, outL, resA, go_sem, Nat.reduceLT, Nat.reduceLeDiff, Nat.reduceEqDiff, reduceIte, Nat.reduceAdd, Nat.reduceMul, Nat.reduceSub, Int.reduceLT, Int.reduceLE, Int.reduceToNat, Int.reduceNeg, reduceCtorEq]
  have := AVle.tupLit [.slice (if c = 0 then A else A.map (·.add (0 * 3))) (len - n) (c - 0), .slice (if c = len - n then A else A.map (·.add ((len - n) * 3))) n (c - (len - n))]
  refine AVle.trans (AVle.of_eq ?_) this
  simp [addr_add0]
  omega
theorem pop_x (r off len n : Nat) (hn : n ≤ len) : ACallX Tryz.prog 103 [.own r 3 off len, .lit (.int .i64 (n : Int))] (.tup [.own r 3 off (len - n), .own r 3 (off + (len - n)) n]) :=
  acallX_pop ⟨_, Tryz.func103, by kernel_rfl, by kernel_rfl⟩ (fun A len n c h1 h2 h3 => pop_lit A len n c h1 h2 h3) hn
end Go.Proofs.YtjeehkdepoiegaaGreat
