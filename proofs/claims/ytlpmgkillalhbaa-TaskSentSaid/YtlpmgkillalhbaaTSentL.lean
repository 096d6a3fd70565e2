/-
  The law TaskSent.
-/
import Derived.Test.YtlpmgkillalhbaaTAlv
import Derived.Test.YtlpmgkillalhbaaQueT
import Derived.Test.YtlpmgkillalhbaaQueS
namespace Go.Proofs.Ytlpmgkillalhbaa
open Go.AL Go.RowKit
set_option linter.unusedSimpArgs false
set_option linter.unusedVariables false
set_option maxRecDepth 10000
set_option maxHeartbeats 8000000

/-- what is known of a task with something pending -/
theorem sent_facts {t : Tsk} {ins outs : List Que} (ht : tskE t = 0) {s : Snd} {l : List Snd} (hp : t.pend = s :: l) :
    turnE t ins ≠ 0 ∧ (enaE t ins outs = 0 → (enaB t ins outs = true ↔ sendE t outs = 0)) ∧
    (sendE t outs ≠ 0 → sendL t outs = []) ∧
    (sendE t outs = 0 → 0 ≤ s.out ∧ s.out < (outs.length : Int) ∧ putE (outs.getD s.out.toNat default) s.m = 0 ∧ putR (outs.getD s.out.toNat default) s.m = putQ (outs.getD s.out.toNat default) s.m ∧
      sendT t outs = { t with pend := l } ∧ sendL t outs = outs.set s.out.toNat (putQ (outs.getD s.out.toNat default) s.m)) := by
  obtain ⟨_, _, g3⟩ := goodT_turn ht
  obtain ⟨p1, p2, p3⟩ := g3 s (by rw [hp]; simp)
  refine ⟨?_, fun h => ?_, fun h => ?_, fun h => ?_⟩
  · rcases turn_cases t ins with ⟨h1, h2, _⟩ | ⟨_, _, h3, _⟩ | ⟨_, _, h3, _⟩
    · rw [h2]; exact h1
    · rw [h3]; omega
    · rw [hp] at h3; cases h3
  · have h0 : askQ t ins outs = 0 := by
      unfold enaE at h
      split at h
      · omega
      · rename_i h1; exact Classical.not_not.1 h1
    have hob : outsB t outs = true := by
      unfold enaE at h
      rw [if_neg (fun h1 => h1 h0)] at h
      split at h
      · assumption
      · omega
    obtain ⟨_, _, q3, _, q5⟩ := askQ_0 h0
    have ho : s.out < (outs.length : Int) := by
      unfold outsB at hob
      rw [List.all_eq_true] at hob
      simpa using hob s (by rw [hp]; simp)
    have ha : askQ t [] outs = 0 := by
      unfold askQ
      rw [if_neg (fun h => h ht), if_neg (by simp; omega), if_pos]
      rw [List.nil_append, List.all_eq_true]
      exact q5
    unfold enaB
    rw [if_pos h, ableB_cons hp]
    unfold sendE
    rw [if_neg (fun h1 => h1 ha), hp]
    simp only
    rw [if_neg (by omega)]
    constructor
    · intro h2; rw [if_pos h2]
    · intro h2
      split at h2
      · assumption
      · omega
  · unfold sendL
    rw [if_neg h]
  · rcases send_cases t outs with ⟨h1, h2, _⟩ | ⟨_, h2, _⟩ | ⟨h1, s', l', h2, h3⟩
    · rw [h2] at h; exact absurd h h1
    · rw [hp] at h2; cases h2
    · rw [hp] at h2
      cases h2
      rcases h3 with ⟨_, h4, _⟩ | ⟨_, _, _, h4, _⟩ | ⟨c1, c2, c3, c4, c5, c6⟩
      · omega
      · omega
      · exact ⟨p1, c1, c2, c3, c5, c6⟩

def dd8 : Nat → List (List Nat)
  | 0 => [[], [0], [6]]
  | 1 => [[], [], [21]]
  | 2 => [[], [], [22], [23], [], [25], [24, 26], [27], [], [29], [28, 30], [31], [], [33], [34], [32, 35], [36], [], [38], [37, 39]]
  | 3 => [[1, 2, 3, 40], [7], [41]]
  | 4 => [[40], [], [], [], [43, 44, 45], [46], [], [42], [47], [48]]
  | 5 => [[], [], [], [50, 51], [52], [], [], [49], [], [53], [54], [55]]
  | 6 => [[], [], [56], [57], [58]]
  | 7 => [[1, 2, 3, 8, 9, 10, 11, 59], [12], [60]]
  | 8 => [[7, 61], []]
  | 9 => [[61], [7], [62]]
  | 10 => [[59], [], [1], [64, 65], [66], [], [], [63], [], [13, 67], [14, 68], [69]]
  | 11 => [[], [15], [70], [71], [9], [73], [74], [8], [], [77], [76, 78], [75, 79], [72, 80]]
  | 12 => [[2, 3, 7, 10, 11, 12, 81], []]
  | 13 => [[81], [12], [82]]
  | 14 => [[2, 3, 10, 83], [7], [84], [11], [86], [87], [85, 88], [89]]
  | 15 => [[83], [], [90], [91], [92], [], [93]]
  | 17 => [[2, 3, 7, 10, 11, 16, 107], []]
  | 18 => [[107], [], [108], [], [109, 110]]
  | 19 => [[], [10], [3], [111, 112], [113]]
  | 20 => [[2, 7, 11, 16, 114], []]
  | 21 => [[114], []]
  | 22 => [[], [], [], [116], [115, 117]]
  | 23 => [[148], [17], [119], [120]]
  | 24 => [[118], [], [], [121, 122], [123], [], [124]]
  | 25 => [[], [], [], [126], [125, 127]]
  | 27 => [[], [20], [139]]
  | 28 => [[2, 7, 11, 16, 17, 18, 19, 140], []]
  | 29 => [[140], [19], [141]]
  | 31 => [[2, 7, 11, 16, 17, 148], []]
  | 32 => [[2, 11, 16, 17, 118], [7], [149]]
  | _ => []
def fo8 : Nat → List Nat
  | 16 => [2, 3, 7, 10, 11, 16, 107]
  | 26 => [2, 7, 11, 16, 17, 18, 19, 20]
  | 30 => [2, 7, 11, 16, 17, 148]
  | _ => []
theorem tsent_law (t : Tsk) (ins outs : List Que) (hok : t.ok) (hi : ins.length ≤ maxLen) (ho : outs.length ≤ maxLen) (oi : ∀ q ∈ ins, q.ok) (oo : ∀ q ∈ outs, q.ok) :
    ACall Try.prog 8 [.agg t.cells, quesV ins, quesV outs] (.lit (.bool true)) := by
  have hGr := greatT_c t hok
  have hGi := greatAll_c ins hi oi
  have hGo := greatAll_c outs ho oo
  have hCk := tCheck27_c t hok
  by_cases hv : greatT t = false ∧ greatQs ins = false ∧ greatQs outs = false ∧ tskE t = 0
  · obtain ⟨v1, v2, v3, v4⟩ := hv
    rw [v1] at hGr
    rw [v2] at hGi
    rw [v3] at hGo
    rw [v4] at hCk
    have hEn := ena_c t ins outs hok hi ho
    have hSe := send_c t outs hok ho
    have hTu := turn_c t ins hok hi
    cases hp : t.pend with
    | nil =>
      have hse : sendE t outs ≠ 0 ∧ sendT t outs = zeroT := by
        rcases send_cases t outs with ⟨h1, h2, h3, _⟩ | ⟨_, _, h2, h3, _⟩ | ⟨_, s', l', h2, _⟩
        · exact ⟨by rw [h2]; exact h1, h3⟩
        · exact ⟨by omega, h3⟩
        · rw [hp] at h2; cases h2
      obtain ⟨z1, z2⟩ := hse
      rw [z2] at hSe
      generalize sendE t outs = se at *
      generalize sendL t outs = sl at *
      generalize enaE t ins outs = ee at *
      generalize enaB t ins outs = eb at *
      clear v1 v2 v3 v4 hok oi oo hTu z2
      obtain ⟨kd, nn, tn1, pe, mk, st, ev, rw_, lt⟩ := t
      simp only at hp
      subst hp
      rw [show (Tsk.mk kd nn tn1 [] mk st ev rw_ lt).cells = [.lit (.int .u8 kd), .lit (.int .i64 nn), .lit (.int .i64 tn1), .ro 11 [], .ro 1 (mk.map intC), .ro 11 (st.map Ent.cells), .ro 5 (ev.map Ev.cells), .ro 5 (rw_.map RowT.cells), .ro 3 (lt.map Rcd.cells)] from rfl] at *
      unfold zeroT Tsk.cells sndsV mksV entsV evsV rowsV rcdsV at hSe
      unfold quesV at *
      refine acall_of (n := 150) (rs := [.tmp 6]) Try.func8 rfl (by kernel_rfl) rfl rfl rfl ?_; simp only [argsE, Nat.reduceAdd]
      repeat (any_goals (first | ((first | refine aops_cons (fun K' h' => ?_) | refine aopsD_cons (fun K' h' => ?_) | refine aopsM_cons (fun K' h' => ?_)); simp only [go_sem, Nat.reduceLT, Nat.reduceLeDiff, Nat.reduceEqDiff, reduceIte, Nat.reduceAdd, Nat.reduceMul, Nat.reduceSub, Int.reduceLT, Int.reduceLE, Int.reduceToNat, Int.reduceNeg, reduceCtorEq, hgs, aopG, beq_self_eq_true, List.length_map]; (try ((first | refine ⟨_, alive27_c, ?_⟩ | refine ⟨_, fun _ => alive27_c, ?_⟩ | refine ⟨_, hGr, ?_⟩ | refine ⟨_, fun _ => hGr, ?_⟩ | refine ⟨_, hGi, ?_⟩ | refine ⟨_, fun _ => hGi, ?_⟩ | refine ⟨_, hGo, ?_⟩ | refine ⟨_, fun _ => hGo, ?_⟩ | refine ⟨_, hCk, ?_⟩ | refine ⟨_, fun _ => hCk, ?_⟩ | refine ⟨_, hEn, ?_⟩ | refine ⟨_, fun _ => hEn, ?_⟩ | refine ⟨_, hSe, ?_⟩ | refine ⟨_, fun _ => hSe, ?_⟩ | refine ⟨_, hTu, ?_⟩ | refine ⟨_, fun _ => hTu, ?_⟩ | refine ⟨_, hSs, ?_⟩ | refine ⟨_, fun _ => hSs, ?_⟩ | refine ⟨_, hS1, ?_⟩ | refine ⟨_, fun _ => hS1, ?_⟩ | refine ⟨_, hPu, ?_⟩ | refine ⟨_, fun _ => hPu, ?_⟩ | refine ⟨_, hSq, ?_⟩ | refine ⟨_, fun _ => hSq, ?_⟩); (try simp only [go_sem, Nat.reduceLT, Nat.reduceLeDiff, Nat.reduceEqDiff, reduceIte, Nat.reduceAdd, Nat.reduceMul, Nat.reduceSub, Int.reduceLT, Int.reduceLE, Int.reduceToNat, Int.reduceNeg, reduceCtorEq, hgs, aopG, beq_self_eq_true, List.length_map]))); (try simp (disch := omega) only [wrap_id, getD_map_in, Int.toNat_natCast, aopG, beq_self_eq_true, List.length_map]); (repeat (refine And.intro (by (first | omega | (simp; done) | (simp; omega) | assumption)) ?_)); refine h' _ ?_; clear h' K') | (refine aops_nil (hK _ ?_); clear hK K hgs gs; try simp only [aThen, aBlock]) | ((first | refine AWp.sreg (id := 2) dd8 rfl (fun gs K hgs hK => ?_) | refine AWp.reg (id := 2) dd8 rfl (fun gs K hgs hK => ?_)); replace hgs : gs 2 = some 24 ∧ gs 6 = some 28 ∧ gs 10 = some 32 ∧ gs 15 = some 37 := ⟨hgs 2, hgs 6, hgs 10, hgs 15⟩) | ((first | refine AWp.sreg (id := 11) dd8 rfl (fun gs K hgs hK => ?_) | refine AWp.reg (id := 11) dd8 rfl (fun gs K hgs hK => ?_)); replace hgs : gs 2 = some 72 ∧ gs 5 = some 75 := ⟨hgs 2, hgs 5⟩) | ((first | refine AWp.sreg (id := 14) dd8 rfl (fun gs K hgs hK => ?_) | refine AWp.reg (id := 14) dd8 rfl (fun gs K hgs hK => ?_)); replace hgs : gs 1 = some 85 := hgs 1) | (refine AWp.sreg  dd8 rfl (fun gs K hgs hK => ?_); replace hgs : Nat.succ 0 = 1 := rfl) | refine AWp.seq ?_ | refine ARounds.step ?_ | refine AWp.block ?_ | refine AWp.label ?_ | (refine AWp.ret ?_; try simp only [aThen, aBlock]) | (refine AWp.skip ?_; try simp only [aThen, aBlock]) | (refine AWp.exit ?_; try simp only [aThen, aBlock, Nat.reduceEqDiff, reduceIte]) | (refine AWp.reg  dd8 rfl (fun gs K hgs hK => ?_); replace hgs : Nat.succ 0 = 1 := rfl) | ((first | refine AWp.sregM (id := 26) fo8 (true, false) mo_fact (by kernel_rfl) (by kernel_rfl) (fun gs K hgs hK => ?_) | refine AWp.regM (id := 26) fo8 (true, false) mo_fact (by kernel_rfl) (by kernel_rfl) (fun gs K hgs hK => ?_)); replace hgs : Nat.succ 0 = 1 := rfl) | (refine aopsM_nil (hK _ ?_); clear hK K hgs gs; simp only [fo8]; simp only [ASt.prune, pruneE, keepB, keepR, Bool.or_false, Bool.or_true, Bool.true_or, Bool.false_or, reduceIte, Bool.or_self, Bool.false_eq_true, aThen, aBlock, Nat.reduceEqDiff]) | ((first | refine AWp.sregD (id := 16) fo8 mo_fact (by kernel_rfl) (fun gs K hgs hK => ?_) | refine AWp.regD (id := 16) fo8 mo_fact (by kernel_rfl) (fun gs K hgs hK => ?_)); replace hgs : gs 5 = some 99 := hgs 5) | ((first | refine AWp.sregD  fo8 mo_fact (by kernel_rfl) (fun gs K hgs hK => ?_) | refine AWp.regD  fo8 mo_fact (by kernel_rfl) (fun gs K hgs hK => ?_)); replace hgs : Nat.succ 0 = 1 := rfl) | (refine aopsD_nil (hK _ ?_); clear hK K hgs gs; simp only [fo8]; simp only [ASt.prune, pruneE, keepB, keepR, Bool.or_false, Bool.or_true, Bool.true_or, Bool.false_or, reduceIte, Bool.or_self, Bool.false_eq_true, aThen, aBlock, Nat.reduceEqDiff]) | (refine aops_consG (fun K' h' => ?_); simp only [go_sem, Nat.reduceLT, Nat.reduceLeDiff, Nat.reduceEqDiff, reduceIte, Nat.reduceAdd, Nat.reduceMul, Nat.reduceSub, Int.reduceLT, Int.reduceLE, Int.reduceToNat, Int.reduceNeg, reduceCtorEq, hgs, aopG, beq_self_eq_true, List.length_map]; (try simp (disch := omega) only [wrap_id, getD_map_in, Int.toNat_natCast, aopG, beq_self_eq_true, List.length_map]); (repeat (refine And.intro (by (first | omega | (simp; done) | (simp; omega) | assumption)) ?_)); refine h' _ ?_; clear h' K') | (refine AWp.cond rfl (fun h => ?_) (fun h => ?_) <;> (try simp only [decide_eq_true_eq, decide_eq_false_iff_not, beq_iff_eq, bne_iff_ne, ne_eq, Bool.not_eq_true', Bool.not_eq_false', beq_eq_false_iff_ne, Bool.true_eq_false, Bool.false_eq_true, Int.not_le, Int.not_lt, Bool.and_eq_true, Bool.and_eq_false_iff, Bool.or_eq_true, Bool.or_eq_false_iff, bne_eq_false_iff_eq, reduceCtorEq] at h) <;> (try first | contradiction | (exfalso; omega) | (exfalso; revert h; simp; done) | (exfalso; revert h; simp; omega)))))
      simp only [Out, outA, outL, resA, go_sem, Nat.reduceLT, Nat.reduceLeDiff, Nat.reduceEqDiff, reduceIte, Nat.reduceAdd, Nat.reduceMul, Nat.reduceSub, Int.reduceLT, Int.reduceLE, Int.reduceToNat, Int.reduceNeg, reduceCtorEq]
      exact AVle.refl _
    | cons s l =>
      obtain ⟨f1, f2, f3, f4⟩ := sent_facts (ins := ins) (outs := outs) v4 hp
      obtain ⟨l1, l2⟩ := greatQs_few v3
      have hf := great_few2 v1
      generalize turnE t ins = te at *
      generalize turnK t ins = tk at *
      generalize turnT t ins = tt at *
      generalize enaE t ins outs = ee at *
      generalize enaB t ins outs = eb at *
      by_cases hs : sendE t outs = 0
      · obtain ⟨g0, g1, g2, g3, g4, g5⟩ := f4 hs
        rw [g4, g5, hs] at hSe
        have hPu := put_c (outs.getD s.out.toNat default) s.m
        rw [g2, g3] at hPu
        have hf2 : ee ≠ 0 ∨ eb = true := by
          by_cases h : ee = 0
          · exact .inr ((f2 h).2 hs)
          · exact .inl h
        have hSs := sameSends_c l l (by have := hok.p; rw [hp] at this; simp at this; omega) (by have := hok.p; rw [hp] at this; simp at this; omega)
        have hS1 := sameT_c t t hok hok
        rw [decide_eq_true rfl] at hSs hS1
        have hSq0 : ∀ q : Que, q.list.length ≤ 100 → ACall Try.prog 31 [.agg q.cells, .agg q.cells] (.lit (.bool true)) := fun q hq => by
          have := sameQ_c q q (by unfold maxLen; omega) (by unfold maxLen; omega)
          rw [decide_eq_true rfl] at this
          exact this
        have hlq : ∀ k, k < outs.length → (outs.getD k default).list.length ≤ 20 := fun k hk => l2 _ (getQ_mem hk)
        clear v1 v2 v3 v4 hok oi oo f2 f3 f4 g2 g3 g4 g5 hs hf l2
        obtain ⟨kd, nn, tn1, pe, mk, st, ev, rw_, lt⟩ := t
        obtain ⟨kd3, nn3, tn3, pe3, mk3, st3, ev3, rw_3, lt3⟩ := tt
        simp only at hp
        subst hp
        obtain ⟨ou, kd', k1, rt, v, tm, r1, r2, r3, r4, r5⟩ := s
        simp only at g0 g1 hSe hPu
        obtain ⟨X, hX⟩ : ∃ X, outs.getD ou.toNat default = X := ⟨_, rfl⟩
        have hXl := hlq ou.toNat (by omega)
        rw [hX] at hPu hSe hXl
        obtain ⟨Y, hY⟩ : ∃ Y, putQ X ⟨kd', k1, rt, v, tm, r1, r2, r3, r4, r5⟩ = Y := ⟨_, rfl⟩
        have hYl : Y.list.length ≤ 30 := by rw [← hY]; unfold putQ; simp only [List.length_append, List.length_cons, List.length_nil]; omega
        rw [hY] at hPu hSe
        clear hY
        rw [show (Msg.mk kd' k1 rt v tm r1 r2 r3 r4 r5).cells = [.lit (.int .u8 kd'), .lit (.int .i64 k1), .lit (.int .i64 rt), .lit (.int .i64 v), .lit (.int .i64 tm), .lit (.int .i64 r1), .lit (.int .i64 r2), .lit (.int .i64 r3), .lit (.int .i64 r4), .lit (.int .i64 r5)] from rfl] at hPu
        unfold Tsk.cells sndsV mksV entsV evsV rowsV rcdsV at *
        unfold quesV at *
        simp only [List.map_cons, Snd.cells, Msg.cells, List.length_cons] at hGr hCk hEn hSe hTu hS1 ⊢
        have htk : List.take l.length (l.map Snd.cells) = l.map Snd.cells := List.take_of_length_le (by simp)
        refine acall_of (n := 150) (rs := [.tmp 6]) Try.func8 rfl (by kernel_rfl) rfl rfl rfl ?_; simp only [argsE, Nat.reduceAdd]
        repeat (any_goals (first | ((first | refine aops_cons (fun K' h' => ?_) | refine aopsD_cons (fun K' h' => ?_) | refine aopsM_cons (fun K' h' => ?_)); simp only [go_sem, Nat.reduceLT, Nat.reduceLeDiff, Nat.reduceEqDiff, reduceIte, Nat.reduceAdd, Nat.reduceMul, Nat.reduceSub, Int.reduceLT, Int.reduceLE, Int.reduceToNat, Int.reduceNeg, reduceCtorEq, hgs, aopG, beq_self_eq_true, List.length_map, List.length_set, Nat.add_sub_cancel, htk, bne_self_eq_false, Bool.not_false]; (try ((first | refine ⟨_, alive27_c, ?_⟩ | refine ⟨_, fun _ => alive27_c, ?_⟩ | refine ⟨_, hGr, ?_⟩ | refine ⟨_, fun _ => hGr, ?_⟩ | refine ⟨_, hGi, ?_⟩ | refine ⟨_, fun _ => hGi, ?_⟩ | refine ⟨_, hGo, ?_⟩ | refine ⟨_, fun _ => hGo, ?_⟩ | refine ⟨_, hCk, ?_⟩ | refine ⟨_, fun _ => hCk, ?_⟩ | refine ⟨_, hEn, ?_⟩ | refine ⟨_, fun _ => hEn, ?_⟩ | refine ⟨_, hSe, ?_⟩ | refine ⟨_, fun _ => hSe, ?_⟩ | refine ⟨_, hTu, ?_⟩ | refine ⟨_, fun _ => hTu, ?_⟩ | refine ⟨_, hSs, ?_⟩ | refine ⟨_, fun _ => hSs, ?_⟩ | refine ⟨_, hS1, ?_⟩ | refine ⟨_, fun _ => hS1, ?_⟩ | refine ⟨_, hPu, ?_⟩ | refine ⟨_, fun _ => hPu, ?_⟩ | refine ⟨_, hSq, ?_⟩ | refine ⟨_, fun _ => hSq, ?_⟩); (try simp only [go_sem, Nat.reduceLT, Nat.reduceLeDiff, Nat.reduceEqDiff, reduceIte, Nat.reduceAdd, Nat.reduceMul, Nat.reduceSub, Int.reduceLT, Int.reduceLE, Int.reduceToNat, Int.reduceNeg, reduceCtorEq, hgs, aopG, beq_self_eq_true, List.length_map, List.length_set, Nat.add_sub_cancel, htk, bne_self_eq_false, Bool.not_false]))); (try simp (disch := omega) only [wrap_id, getD_map_in, Int.toNat_natCast, aopG, beq_self_eq_true, List.length_map, List.length_set, Nat.add_sub_cancel, htk, bne_self_eq_false, Bool.not_false]); (repeat (refine And.intro (by (first | omega | (simp; done) | (simp; omega) | assumption)) ?_)); refine h' _ ?_; clear h' K') | (refine aops_nil (hK _ ?_); clear hK K hgs gs; try simp only [aThen, aBlock]) | ((first | refine AWp.sreg (id := 2) dd8 rfl (fun gs K hgs hK => ?_) | refine AWp.reg (id := 2) dd8 rfl (fun gs K hgs hK => ?_)); replace hgs : gs 2 = some 24 ∧ gs 6 = some 28 ∧ gs 10 = some 32 ∧ gs 15 = some 37 := ⟨hgs 2, hgs 6, hgs 10, hgs 15⟩) | ((first | refine AWp.sreg (id := 11) dd8 rfl (fun gs K hgs hK => ?_) | refine AWp.reg (id := 11) dd8 rfl (fun gs K hgs hK => ?_)); replace hgs : gs 2 = some 72 ∧ gs 5 = some 75 := ⟨hgs 2, hgs 5⟩) | ((first | refine AWp.sreg (id := 14) dd8 rfl (fun gs K hgs hK => ?_) | refine AWp.reg (id := 14) dd8 rfl (fun gs K hgs hK => ?_)); replace hgs : gs 1 = some 85 := hgs 1) | (refine AWp.sreg  dd8 rfl (fun gs K hgs hK => ?_); replace hgs : Nat.succ 0 = 1 := rfl) | refine AWp.seq ?_ | refine ARounds.step ?_ | refine AWp.block ?_ | refine AWp.label ?_ | (refine AWp.ret ?_; try simp only [aThen, aBlock]) | (refine AWp.skip ?_; try simp only [aThen, aBlock]) | (refine AWp.exit ?_; try simp only [aThen, aBlock, Nat.reduceEqDiff, reduceIte]) | (refine AWp.reg  dd8 rfl (fun gs K hgs hK => ?_); replace hgs : Nat.succ 0 = 1 := rfl) | ((first | refine AWp.sregM (id := 26) fo8 (true, false) mo_fact (by kernel_rfl) (by kernel_rfl) (fun gs K hgs hK => ?_) | refine AWp.regM (id := 26) fo8 (true, false) mo_fact (by kernel_rfl) (by kernel_rfl) (fun gs K hgs hK => ?_)); replace hgs : Nat.succ 0 = 1 := rfl) | (refine aopsM_nil (hK _ ?_); clear hK K hgs gs; simp only [fo8]; simp only [ASt.prune, pruneE, keepB, keepR, Bool.or_false, Bool.or_true, Bool.true_or, Bool.false_or, reduceIte, Bool.or_self, Bool.false_eq_true, aThen, aBlock, Nat.reduceEqDiff]) | ((first | refine AWp.sregD (id := 16) fo8 mo_fact (by kernel_rfl) (fun gs K hgs hK => ?_) | refine AWp.regD (id := 16) fo8 mo_fact (by kernel_rfl) (fun gs K hgs hK => ?_)); replace hgs : gs 5 = some 99 := hgs 5) | ((first | refine AWp.sregD  fo8 mo_fact (by kernel_rfl) (fun gs K hgs hK => ?_) | refine AWp.regD  fo8 mo_fact (by kernel_rfl) (fun gs K hgs hK => ?_)); replace hgs : Nat.succ 0 = 1 := rfl) | (refine aopsD_nil (hK _ ?_); clear hK K hgs gs; simp only [fo8]; simp only [ASt.prune, pruneE, keepB, keepR, Bool.or_false, Bool.or_true, Bool.true_or, Bool.false_or, reduceIte, Bool.or_self, Bool.false_eq_true, aThen, aBlock, Nat.reduceEqDiff]) | (refine aops_consG (fun K' h' => ?_); simp only [go_sem, Nat.reduceLT, Nat.reduceLeDiff, Nat.reduceEqDiff, reduceIte, Nat.reduceAdd, Nat.reduceMul, Nat.reduceSub, Int.reduceLT, Int.reduceLE, Int.reduceToNat, Int.reduceNeg, reduceCtorEq, hgs, aopG, beq_self_eq_true, List.length_map, List.length_set, Nat.add_sub_cancel, htk, bne_self_eq_false, Bool.not_false]; (try simp (disch := omega) only [wrap_id, getD_map_in, Int.toNat_natCast, aopG, beq_self_eq_true, List.length_map, List.length_set, Nat.add_sub_cancel, htk, bne_self_eq_false, Bool.not_false]); (repeat (refine And.intro (by (first | omega | (simp; done) | (simp; omega) | assumption)) ?_)); refine h' _ ?_; clear h' K') | (refine AWp.cond rfl (fun h => ?_) (fun h => ?_) <;> (try simp only [decide_eq_true_eq, decide_eq_false_iff_not, beq_iff_eq, bne_iff_ne, ne_eq, Bool.not_eq_true', Bool.not_eq_false', beq_eq_false_iff_ne, Bool.true_eq_false, Bool.false_eq_true, Int.not_le, Int.not_lt, Bool.and_eq_true, Bool.and_eq_false_iff, Bool.or_eq_true, Bool.or_eq_false_iff, bne_eq_false_iff_eq, reduceCtorEq] at h) <;> (try first | contradiction | (exfalso; omega) | (exfalso; revert h; simp; done) | (exfalso; revert h; simp; omega)))))
        · exfalso
          rcases h with h | ⟨h1, h2⟩
          · exact f1 h
          · rcases hf2 with h3 | h3
            · exact h3 h1
            · exact h2 h3
        obtain ⟨T, hT⟩ : ∃ B : List AV, B = [.lit (.int .u8 kd), .lit (.int .i64 nn), .lit (.int .i64 tn1), .ro 11 ([.lit (.int .i64 ou), .lit (.int .u8 kd'), .lit (.int .i64 k1), .lit (.int .i64 rt), .lit (.int .i64 v), .lit (.int .i64 tm), .lit (.int .i64 r1), .lit (.int .i64 r2), .lit (.int .i64 r3), .lit (.int .i64 r4), .lit (.int .i64 r5)] :: List.map Snd.cells l), .ro 1 (mk.map intC), .ro 11 (st.map Ent.cells), .ro 5 (ev.map Ev.cells), .ro 5 (rw_.map RowT.cells), .ro 3 (lt.map Rcd.cells)] := ⟨_, rfl⟩
        obtain ⟨T3, hT3⟩ : ∃ B : List AV, B = [.lit (.int .u8 kd3), .lit (.int .i64 nn3), .lit (.int .i64 tn3), .ro 11 (pe3.map Snd.cells), .ro 1 (mk3.map intC), .ro 11 (st3.map Ent.cells), .ro 5 (ev3.map Ev.cells), .ro 5 (rw_3.map RowT.cells), .ro 3 (lt3.map Rcd.cells)] := ⟨_, rfl⟩
        clear hGr hCk hEn hSe hTu hS1 hSs hf2
        obtain ⟨L', hL'⟩ : ∃ L', outs.set ou.toNat Y = L' := ⟨_, rfl⟩
        have hget1 : L'.getD ou.toNat default = Y := by
          rw [← hL', List.getD_eq_getElem?_getD, List.getElem?_set_self (by omega)]; rfl
        have hget2 : ∀ k, k ≠ ou.toNat → L'.getD k default = outs.getD k default := fun k hk => by
          rw [← hL', List.getD_eq_getElem?_getD, List.getD_eq_getElem?_getD, List.getElem?_set_ne (fun e => hk e.symm)]
        have hLl : L'.length = outs.length := by rw [← hL', List.length_set]
        rw [hL']
        clear hL'
        refine AWp.loopN outs.length (fun _ => True) (fun k => ⟨[(2, .ro 2 (outs.map Que.cells)), (7, .lit (.bool true)), (11, .ro 2 (L'.map Que.cells)), (16, .bp 3 0), (17, .lit (.int .i64 (k : Int)))], [T, T, T3, [.lit (.int .i64 ou), .lit (.int .u8 kd'), .lit (.int .i64 k1), .lit (.int .i64 rt), .lit (.int .i64 v), .lit (.int .i64 tm), .lit (.int .i64 r1), .lit (.int .i64 r2), .lit (.int .i64 r3), .lit (.int .i64 r4), .lit (.int .i64 r5)]], []⟩) ?_ ?_
        · subst hT
          subst hT3
          refine Wk.of rfl rfl ?_
          simp [subE, eget, ASt.drop, dropE, keepR, lowE, AV.lowB, lowL, Nat.blt, Nat.ble]
        · subst hT
          subst hT3
          intro k hk _
          repeat ((first | ((first | refine aops_cons (fun K' h' => ?_) | refine aopsD_cons (fun K' h' => ?_) | refine aopsM_cons (fun K' h' => ?_)); simp only [go_sem, Nat.reduceLT, Nat.reduceLeDiff, Nat.reduceEqDiff, reduceIte, Nat.reduceAdd, Nat.reduceMul, Nat.reduceSub, Int.reduceLT, Int.reduceLE, Int.reduceToNat, Int.reduceNeg, reduceCtorEq, hgs, aopG, beq_self_eq_true, List.length_map]; (try ((first | refine ⟨_, alive27_c, ?_⟩ | refine ⟨_, fun _ => alive27_c, ?_⟩ | refine ⟨_, hGr, ?_⟩ | refine ⟨_, fun _ => hGr, ?_⟩ | refine ⟨_, hGi, ?_⟩ | refine ⟨_, fun _ => hGi, ?_⟩ | refine ⟨_, hGo, ?_⟩ | refine ⟨_, fun _ => hGo, ?_⟩ | refine ⟨_, hCk, ?_⟩ | refine ⟨_, fun _ => hCk, ?_⟩ | refine ⟨_, hEn, ?_⟩ | refine ⟨_, fun _ => hEn, ?_⟩ | refine ⟨_, hSe, ?_⟩ | refine ⟨_, fun _ => hSe, ?_⟩ | refine ⟨_, hTu, ?_⟩ | refine ⟨_, fun _ => hTu, ?_⟩ | refine ⟨_, hSs, ?_⟩ | refine ⟨_, fun _ => hSs, ?_⟩ | refine ⟨_, hS1, ?_⟩ | refine ⟨_, fun _ => hS1, ?_⟩ | refine ⟨_, hPu, ?_⟩ | refine ⟨_, fun _ => hPu, ?_⟩ | refine ⟨_, hSq, ?_⟩ | refine ⟨_, fun _ => hSq, ?_⟩); (try simp only [go_sem, Nat.reduceLT, Nat.reduceLeDiff, Nat.reduceEqDiff, reduceIte, Nat.reduceAdd, Nat.reduceMul, Nat.reduceSub, Int.reduceLT, Int.reduceLE, Int.reduceToNat, Int.reduceNeg, reduceCtorEq, hgs, aopG, beq_self_eq_true, List.length_map]))); (try simp (disch := omega) only [wrap_id, getD_map_in, Int.toNat_natCast, aopG, beq_self_eq_true, List.length_map]); (repeat (refine And.intro (by (first | omega | (simp; done) | (simp; omega) | assumption)) ?_)); refine h' _ ?_; clear h' K') | (refine aops_nil (hK _ ?_); clear hK K hgs gs; try simp only [aThen, aBlock]) | ((first | refine AWp.sreg (id := 2) dd8 rfl (fun gs K hgs hK => ?_) | refine AWp.reg (id := 2) dd8 rfl (fun gs K hgs hK => ?_)); replace hgs : gs 2 = some 24 ∧ gs 6 = some 28 ∧ gs 10 = some 32 ∧ gs 15 = some 37 := ⟨hgs 2, hgs 6, hgs 10, hgs 15⟩) | ((first | refine AWp.sreg (id := 11) dd8 rfl (fun gs K hgs hK => ?_) | refine AWp.reg (id := 11) dd8 rfl (fun gs K hgs hK => ?_)); replace hgs : gs 2 = some 72 ∧ gs 5 = some 75 := ⟨hgs 2, hgs 5⟩) | ((first | refine AWp.sreg (id := 14) dd8 rfl (fun gs K hgs hK => ?_) | refine AWp.reg (id := 14) dd8 rfl (fun gs K hgs hK => ?_)); replace hgs : gs 1 = some 85 := hgs 1) | (refine AWp.sreg  dd8 rfl (fun gs K hgs hK => ?_); replace hgs : Nat.succ 0 = 1 := rfl) | refine AWp.seq ?_ | refine ARounds.step ?_ | refine AWp.block ?_ | refine AWp.label ?_ | (refine AWp.ret ?_; try simp only [aThen, aBlock]) | (refine AWp.skip ?_; try simp only [aThen, aBlock]) | (refine AWp.exit ?_; try simp only [aThen, aBlock, Nat.reduceEqDiff, reduceIte]) | (refine AWp.reg  dd8 rfl (fun gs K hgs hK => ?_); replace hgs : Nat.succ 0 = 1 := rfl) | ((first | refine AWp.sregM (id := 26) fo8 (true, false) mo_fact (by kernel_rfl) (by kernel_rfl) (fun gs K hgs hK => ?_) | refine AWp.regM (id := 26) fo8 (true, false) mo_fact (by kernel_rfl) (by kernel_rfl) (fun gs K hgs hK => ?_)); replace hgs : Nat.succ 0 = 1 := rfl) | (refine aopsM_nil (hK _ ?_); clear hK K hgs gs; simp only [fo8]; simp only [ASt.prune, pruneE, keepB, keepR, Bool.or_false, Bool.or_true, Bool.true_or, Bool.false_or, reduceIte, Bool.or_self, Bool.false_eq_true, aThen, aBlock, Nat.reduceEqDiff]) | ((first | refine AWp.sregD (id := 16) fo8 mo_fact (by kernel_rfl) (fun gs K hgs hK => ?_) | refine AWp.regD (id := 16) fo8 mo_fact (by kernel_rfl) (fun gs K hgs hK => ?_)); replace hgs : gs 5 = some 99 := hgs 5) | ((first | refine AWp.sregD  fo8 mo_fact (by kernel_rfl) (fun gs K hgs hK => ?_) | refine AWp.regD  fo8 mo_fact (by kernel_rfl) (fun gs K hgs hK => ?_)); replace hgs : Nat.succ 0 = 1 := rfl) | (refine aopsD_nil (hK _ ?_); clear hK K hgs gs; simp only [fo8]; simp only [ASt.prune, pruneE, keepB, keepR, Bool.or_false, Bool.or_true, Bool.true_or, Bool.false_or, reduceIte, Bool.or_self, Bool.false_eq_true, aThen, aBlock, Nat.reduceEqDiff]) | (refine aops_consG (fun K' h' => ?_); simp only [go_sem, Nat.reduceLT, Nat.reduceLeDiff, Nat.reduceEqDiff, reduceIte, Nat.reduceAdd, Nat.reduceMul, Nat.reduceSub, Int.reduceLT, Int.reduceLE, Int.reduceToNat, Int.reduceNeg, reduceCtorEq, hgs, aopG, beq_self_eq_true, List.length_map]; (try simp (disch := omega) only [wrap_id, getD_map_in, Int.toNat_natCast, aopG, beq_self_eq_true, List.length_map]); (repeat (refine And.intro (by (first | omega | (simp; done) | (simp; omega) | assumption)) ?_)); refine h' _ ?_; clear h' K')))
          (refine AWp.cond rfl (fun h => ?_) (fun h => ?_) <;> (try simp only [decide_eq_true_eq, decide_eq_false_iff_not, beq_iff_eq, bne_iff_ne, ne_eq, Bool.not_eq_true', Bool.not_eq_false', beq_eq_false_iff_ne, Bool.true_eq_false, Bool.false_eq_true, Int.not_le, Int.not_lt, Bool.and_eq_true, Bool.and_eq_false_iff, Bool.or_eq_true, Bool.or_eq_false_iff, bne_eq_false_iff_eq, reduceCtorEq] at h) <;> (try first | contradiction | (exfalso; omega) | (exfalso; revert h; simp; done) | (exfalso; revert h; simp; omega)))
          · by_cases hko : k = ou.toNat
            · have : ou = (k : Int) := by omega
              subst this
              rw [Int.toNat_natCast] at hX hget1
              have hSq := hSq0 Y (by omega)
              obtain ⟨xr, xl⟩ := X
              obtain ⟨yr, yl⟩ := Y
              unfold Que.cells at hPu hSq
              simp only at hPu hSq
              clear hSq0 hlq
              repeat (any_goals (first | ((first | refine aops_cons (fun K' h' => ?_) | refine aopsD_cons (fun K' h' => ?_) | refine aopsM_cons (fun K' h' => ?_)); simp only [go_sem, Nat.reduceLT, Nat.reduceLeDiff, Nat.reduceEqDiff, reduceIte, Nat.reduceAdd, Nat.reduceMul, Nat.reduceSub, Int.reduceLT, Int.reduceLE, Int.reduceToNat, Int.reduceNeg, reduceCtorEq, hgs, aopG, beq_self_eq_true, List.length_map, hX, hget1, Que.cells]; (try ((first | refine ⟨_, alive27_c, ?_⟩ | refine ⟨_, fun _ => alive27_c, ?_⟩ | refine ⟨_, hGr, ?_⟩ | refine ⟨_, fun _ => hGr, ?_⟩ | refine ⟨_, hGi, ?_⟩ | refine ⟨_, fun _ => hGi, ?_⟩ | refine ⟨_, hGo, ?_⟩ | refine ⟨_, fun _ => hGo, ?_⟩ | refine ⟨_, hCk, ?_⟩ | refine ⟨_, fun _ => hCk, ?_⟩ | refine ⟨_, hEn, ?_⟩ | refine ⟨_, fun _ => hEn, ?_⟩ | refine ⟨_, hSe, ?_⟩ | refine ⟨_, fun _ => hSe, ?_⟩ | refine ⟨_, hTu, ?_⟩ | refine ⟨_, fun _ => hTu, ?_⟩ | refine ⟨_, hSs, ?_⟩ | refine ⟨_, fun _ => hSs, ?_⟩ | refine ⟨_, hS1, ?_⟩ | refine ⟨_, fun _ => hS1, ?_⟩ | refine ⟨_, hPu, ?_⟩ | refine ⟨_, fun _ => hPu, ?_⟩ | refine ⟨_, hSq, ?_⟩ | refine ⟨_, fun _ => hSq, ?_⟩); (try simp only [go_sem, Nat.reduceLT, Nat.reduceLeDiff, Nat.reduceEqDiff, reduceIte, Nat.reduceAdd, Nat.reduceMul, Nat.reduceSub, Int.reduceLT, Int.reduceLE, Int.reduceToNat, Int.reduceNeg, reduceCtorEq, hgs, aopG, beq_self_eq_true, List.length_map, hX, hget1, Que.cells]))); (try simp (disch := omega) only [wrap_id, getD_map_in, Int.toNat_natCast, aopG, beq_self_eq_true, List.length_map, hX, hget1, Que.cells]); (repeat (refine And.intro (by (first | omega | (simp; done) | (simp; omega) | assumption)) ?_)); refine h' _ ?_; clear h' K') | (refine aops_nil (hK _ ?_); clear hK K hgs gs; try simp only [aThen, aBlock]) | ((first | refine AWp.sreg (id := 2) dd8 rfl (fun gs K hgs hK => ?_) | refine AWp.reg (id := 2) dd8 rfl (fun gs K hgs hK => ?_)); replace hgs : gs 2 = some 24 ∧ gs 6 = some 28 ∧ gs 10 = some 32 ∧ gs 15 = some 37 := ⟨hgs 2, hgs 6, hgs 10, hgs 15⟩) | ((first | refine AWp.sreg (id := 11) dd8 rfl (fun gs K hgs hK => ?_) | refine AWp.reg (id := 11) dd8 rfl (fun gs K hgs hK => ?_)); replace hgs : gs 2 = some 72 ∧ gs 5 = some 75 := ⟨hgs 2, hgs 5⟩) | ((first | refine AWp.sreg (id := 14) dd8 rfl (fun gs K hgs hK => ?_) | refine AWp.reg (id := 14) dd8 rfl (fun gs K hgs hK => ?_)); replace hgs : gs 1 = some 85 := hgs 1) | (refine AWp.sreg  dd8 rfl (fun gs K hgs hK => ?_); replace hgs : Nat.succ 0 = 1 := rfl) | refine AWp.seq ?_ | refine ARounds.step ?_ | refine AWp.block ?_ | refine AWp.label ?_ | (refine AWp.ret ?_; try simp only [aThen, aBlock]) | (refine AWp.skip ?_; try simp only [aThen, aBlock]) | (refine AWp.exit ?_; try simp only [aThen, aBlock, Nat.reduceEqDiff, reduceIte]) | (refine AWp.reg  dd8 rfl (fun gs K hgs hK => ?_); replace hgs : Nat.succ 0 = 1 := rfl) | ((first | refine AWp.sregM (id := 26) fo8 (true, false) mo_fact (by kernel_rfl) (by kernel_rfl) (fun gs K hgs hK => ?_) | refine AWp.regM (id := 26) fo8 (true, false) mo_fact (by kernel_rfl) (by kernel_rfl) (fun gs K hgs hK => ?_)); replace hgs : Nat.succ 0 = 1 := rfl) | (refine aopsM_nil (hK _ ?_); clear hK K hgs gs; simp only [fo8]; simp only [ASt.prune, pruneE, keepB, keepR, Bool.or_false, Bool.or_true, Bool.true_or, Bool.false_or, reduceIte, Bool.or_self, Bool.false_eq_true, aThen, aBlock, Nat.reduceEqDiff]) | ((first | refine AWp.sregD (id := 16) fo8 mo_fact (by kernel_rfl) (fun gs K hgs hK => ?_) | refine AWp.regD (id := 16) fo8 mo_fact (by kernel_rfl) (fun gs K hgs hK => ?_)); replace hgs : gs 5 = some 99 := hgs 5) | ((first | refine AWp.sregD  fo8 mo_fact (by kernel_rfl) (fun gs K hgs hK => ?_) | refine AWp.regD  fo8 mo_fact (by kernel_rfl) (fun gs K hgs hK => ?_)); replace hgs : Nat.succ 0 = 1 := rfl) | (refine aopsD_nil (hK _ ?_); clear hK K hgs gs; simp only [fo8]; simp only [ASt.prune, pruneE, keepB, keepR, Bool.or_false, Bool.or_true, Bool.true_or, Bool.false_or, reduceIte, Bool.or_self, Bool.false_eq_true, aThen, aBlock, Nat.reduceEqDiff]) | (refine aops_consG (fun K' h' => ?_); simp only [go_sem, Nat.reduceLT, Nat.reduceLeDiff, Nat.reduceEqDiff, reduceIte, Nat.reduceAdd, Nat.reduceMul, Nat.reduceSub, Int.reduceLT, Int.reduceLE, Int.reduceToNat, Int.reduceNeg, reduceCtorEq, hgs, aopG, beq_self_eq_true, List.length_map, hX, hget1, Que.cells]; (try simp (disch := omega) only [wrap_id, getD_map_in, Int.toNat_natCast, aopG, beq_self_eq_true, List.length_map, hX, hget1, Que.cells]); (repeat (refine And.intro (by (first | omega | (simp; done) | (simp; omega) | assumption)) ?_)); refine h' _ ?_; clear h' K') | (refine AWp.cond rfl (fun h => ?_) (fun h => ?_) <;> (try simp only [decide_eq_true_eq, decide_eq_false_iff_not, beq_iff_eq, bne_iff_ne, ne_eq, Bool.not_eq_true', Bool.not_eq_false', beq_eq_false_iff_ne, Bool.true_eq_false, Bool.false_eq_true, Int.not_le, Int.not_lt, Bool.and_eq_true, Bool.and_eq_false_iff, Bool.or_eq_true, Bool.or_eq_false_iff, bne_eq_false_iff_eq, reduceCtorEq] at h) <;> (try first | contradiction | (exfalso; omega) | (exfalso; revert h; simp; done) | (exfalso; revert h; simp; omega)))))
              refine ⟨by omega, trivial, Wk.ofCut 4 0 rfl rfl ?_⟩
              first
                | (simp [subE, eget, ASt.drop, dropE, keepR, lowE, AV.lowB, lowL, Nat.blt, Nat.ble]; done)
                | (simp [subE, eget, ASt.drop, dropE, keepR, lowE, AV.lowB, lowL, Nat.blt, Nat.ble]; omega)
            · obtain ⟨w, hw⟩ : ∃ w, outs.getD k default = w := ⟨_, rfl⟩
              have hwl := hlq k (by omega)
              rw [hw] at hwl
              have hget := hget2 k hko
              rw [hw] at hget
              have hSq := hSq0 w (by omega)
              have hkne : ¬ (k : Int) = ou := by omega
              obtain ⟨wr, wl⟩ := w
              unfold Que.cells at hSq
              simp only at hSq
              clear hSq0 hlq hPu
              repeat (any_goals (first | ((first | refine aops_cons (fun K' h' => ?_) | refine aopsD_cons (fun K' h' => ?_) | refine aopsM_cons (fun K' h' => ?_)); simp only [go_sem, Nat.reduceLT, Nat.reduceLeDiff, Nat.reduceEqDiff, reduceIte, Nat.reduceAdd, Nat.reduceMul, Nat.reduceSub, Int.reduceLT, Int.reduceLE, Int.reduceToNat, Int.reduceNeg, reduceCtorEq, hgs, aopG, beq_self_eq_true, List.length_map, hw, hget, Que.cells]; (try ((first | refine ⟨_, alive27_c, ?_⟩ | refine ⟨_, fun _ => alive27_c, ?_⟩ | refine ⟨_, hGr, ?_⟩ | refine ⟨_, fun _ => hGr, ?_⟩ | refine ⟨_, hGi, ?_⟩ | refine ⟨_, fun _ => hGi, ?_⟩ | refine ⟨_, hGo, ?_⟩ | refine ⟨_, fun _ => hGo, ?_⟩ | refine ⟨_, hCk, ?_⟩ | refine ⟨_, fun _ => hCk, ?_⟩ | refine ⟨_, hEn, ?_⟩ | refine ⟨_, fun _ => hEn, ?_⟩ | refine ⟨_, hSe, ?_⟩ | refine ⟨_, fun _ => hSe, ?_⟩ | refine ⟨_, hTu, ?_⟩ | refine ⟨_, fun _ => hTu, ?_⟩ | refine ⟨_, hSs, ?_⟩ | refine ⟨_, fun _ => hSs, ?_⟩ | refine ⟨_, hS1, ?_⟩ | refine ⟨_, fun _ => hS1, ?_⟩ | refine ⟨_, hPu, ?_⟩ | refine ⟨_, fun _ => hPu, ?_⟩ | refine ⟨_, hSq, ?_⟩ | refine ⟨_, fun _ => hSq, ?_⟩); (try simp only [go_sem, Nat.reduceLT, Nat.reduceLeDiff, Nat.reduceEqDiff, reduceIte, Nat.reduceAdd, Nat.reduceMul, Nat.reduceSub, Int.reduceLT, Int.reduceLE, Int.reduceToNat, Int.reduceNeg, reduceCtorEq, hgs, aopG, beq_self_eq_true, List.length_map, hw, hget, Que.cells]))); (try simp (disch := omega) only [wrap_id, getD_map_in, Int.toNat_natCast, aopG, beq_self_eq_true, List.length_map, hw, hget, Que.cells]); (repeat (refine And.intro (by (first | omega | (simp; done) | (simp; omega) | assumption)) ?_)); refine h' _ ?_; clear h' K') | (refine aops_nil (hK _ ?_); clear hK K hgs gs; try simp only [aThen, aBlock]) | ((first | refine AWp.sreg (id := 2) dd8 rfl (fun gs K hgs hK => ?_) | refine AWp.reg (id := 2) dd8 rfl (fun gs K hgs hK => ?_)); replace hgs : gs 2 = some 24 ∧ gs 6 = some 28 ∧ gs 10 = some 32 ∧ gs 15 = some 37 := ⟨hgs 2, hgs 6, hgs 10, hgs 15⟩) | ((first | refine AWp.sreg (id := 11) dd8 rfl (fun gs K hgs hK => ?_) | refine AWp.reg (id := 11) dd8 rfl (fun gs K hgs hK => ?_)); replace hgs : gs 2 = some 72 ∧ gs 5 = some 75 := ⟨hgs 2, hgs 5⟩) | ((first | refine AWp.sreg (id := 14) dd8 rfl (fun gs K hgs hK => ?_) | refine AWp.reg (id := 14) dd8 rfl (fun gs K hgs hK => ?_)); replace hgs : gs 1 = some 85 := hgs 1) | (refine AWp.sreg  dd8 rfl (fun gs K hgs hK => ?_); replace hgs : Nat.succ 0 = 1 := rfl) | refine AWp.seq ?_ | refine ARounds.step ?_ | refine AWp.block ?_ | refine AWp.label ?_ | (refine AWp.ret ?_; try simp only [aThen, aBlock]) | (refine AWp.skip ?_; try simp only [aThen, aBlock]) | (refine AWp.exit ?_; try simp only [aThen, aBlock, Nat.reduceEqDiff, reduceIte]) | (refine AWp.reg  dd8 rfl (fun gs K hgs hK => ?_); replace hgs : Nat.succ 0 = 1 := rfl) | ((first | refine AWp.sregM (id := 26) fo8 (true, false) mo_fact (by kernel_rfl) (by kernel_rfl) (fun gs K hgs hK => ?_) | refine AWp.regM (id := 26) fo8 (true, false) mo_fact (by kernel_rfl) (by kernel_rfl) (fun gs K hgs hK => ?_)); replace hgs : Nat.succ 0 = 1 := rfl) | (refine aopsM_nil (hK _ ?_); clear hK K hgs gs; simp only [fo8]; simp only [ASt.prune, pruneE, keepB, keepR, Bool.or_false, Bool.or_true, Bool.true_or, Bool.false_or, reduceIte, Bool.or_self, Bool.false_eq_true, aThen, aBlock, Nat.reduceEqDiff]) | ((first | refine AWp.sregD (id := 16) fo8 mo_fact (by kernel_rfl) (fun gs K hgs hK => ?_) | refine AWp.regD (id := 16) fo8 mo_fact (by kernel_rfl) (fun gs K hgs hK => ?_)); replace hgs : gs 5 = some 99 := hgs 5) | ((first | refine AWp.sregD  fo8 mo_fact (by kernel_rfl) (fun gs K hgs hK => ?_) | refine AWp.regD  fo8 mo_fact (by kernel_rfl) (fun gs K hgs hK => ?_)); replace hgs : Nat.succ 0 = 1 := rfl) | (refine aopsD_nil (hK _ ?_); clear hK K hgs gs; simp only [fo8]; simp only [ASt.prune, pruneE, keepB, keepR, Bool.or_false, Bool.or_true, Bool.true_or, Bool.false_or, reduceIte, Bool.or_self, Bool.false_eq_true, aThen, aBlock, Nat.reduceEqDiff]) | (refine aops_consG (fun K' h' => ?_); simp only [go_sem, Nat.reduceLT, Nat.reduceLeDiff, Nat.reduceEqDiff, reduceIte, Nat.reduceAdd, Nat.reduceMul, Nat.reduceSub, Int.reduceLT, Int.reduceLE, Int.reduceToNat, Int.reduceNeg, reduceCtorEq, hgs, aopG, beq_self_eq_true, List.length_map, hw, hget, Que.cells]; (try simp (disch := omega) only [wrap_id, getD_map_in, Int.toNat_natCast, aopG, beq_self_eq_true, List.length_map, hw, hget, Que.cells]); (repeat (refine And.intro (by (first | omega | (simp; done) | (simp; omega) | assumption)) ?_)); refine h' _ ?_; clear h' K') | (refine AWp.cond rfl (fun h => ?_) (fun h => ?_) <;> (try simp only [decide_eq_true_eq, decide_eq_false_iff_not, beq_iff_eq, bne_iff_ne, ne_eq, Bool.not_eq_true', Bool.not_eq_false', beq_eq_false_iff_ne, Bool.true_eq_false, Bool.false_eq_true, Int.not_le, Int.not_lt, Bool.and_eq_true, Bool.and_eq_false_iff, Bool.or_eq_true, Bool.or_eq_false_iff, bne_eq_false_iff_eq, reduceCtorEq] at h) <;> (try first | contradiction | (exfalso; omega) | (exfalso; revert h; simp; done) | (exfalso; revert h; simp; omega)))))
              refine ⟨by omega, trivial, Wk.ofCut 4 0 rfl rfl ?_⟩
              first
                | (simp [subE, eget, ASt.drop, dropE, keepR, lowE, AV.lowB, lowL, Nat.blt, Nat.ble]; done)
                | (simp [subE, eget, ASt.drop, dropE, keepR, lowE, AV.lowB, lowL, Nat.blt, Nat.ble]; omega)
          · repeat (any_goals (first | ((first | refine aops_cons (fun K' h' => ?_) | refine aopsD_cons (fun K' h' => ?_) | refine aopsM_cons (fun K' h' => ?_)); simp only [go_sem, Nat.reduceLT, Nat.reduceLeDiff, Nat.reduceEqDiff, reduceIte, Nat.reduceAdd, Nat.reduceMul, Nat.reduceSub, Int.reduceLT, Int.reduceLE, Int.reduceToNat, Int.reduceNeg, reduceCtorEq, hgs, aopG, beq_self_eq_true, List.length_map]; (try ((first | refine ⟨_, alive27_c, ?_⟩ | refine ⟨_, fun _ => alive27_c, ?_⟩ | refine ⟨_, hGr, ?_⟩ | refine ⟨_, fun _ => hGr, ?_⟩ | refine ⟨_, hGi, ?_⟩ | refine ⟨_, fun _ => hGi, ?_⟩ | refine ⟨_, hGo, ?_⟩ | refine ⟨_, fun _ => hGo, ?_⟩ | refine ⟨_, hCk, ?_⟩ | refine ⟨_, fun _ => hCk, ?_⟩ | refine ⟨_, hEn, ?_⟩ | refine ⟨_, fun _ => hEn, ?_⟩ | refine ⟨_, hSe, ?_⟩ | refine ⟨_, fun _ => hSe, ?_⟩ | refine ⟨_, hTu, ?_⟩ | refine ⟨_, fun _ => hTu, ?_⟩ | refine ⟨_, hSs, ?_⟩ | refine ⟨_, fun _ => hSs, ?_⟩ | refine ⟨_, hS1, ?_⟩ | refine ⟨_, fun _ => hS1, ?_⟩ | refine ⟨_, hPu, ?_⟩ | refine ⟨_, fun _ => hPu, ?_⟩ | refine ⟨_, hSq, ?_⟩ | refine ⟨_, fun _ => hSq, ?_⟩); (try simp only [go_sem, Nat.reduceLT, Nat.reduceLeDiff, Nat.reduceEqDiff, reduceIte, Nat.reduceAdd, Nat.reduceMul, Nat.reduceSub, Int.reduceLT, Int.reduceLE, Int.reduceToNat, Int.reduceNeg, reduceCtorEq, hgs, aopG, beq_self_eq_true, List.length_map]))); (try simp (disch := omega) only [wrap_id, getD_map_in, Int.toNat_natCast, aopG, beq_self_eq_true, List.length_map]); (repeat (refine And.intro (by (first | omega | (simp; done) | (simp; omega) | assumption)) ?_)); refine h' _ ?_; clear h' K') | (refine aops_nil (hK _ ?_); clear hK K hgs gs; try simp only [aThen, aBlock]) | ((first | refine AWp.sreg (id := 2) dd8 rfl (fun gs K hgs hK => ?_) | refine AWp.reg (id := 2) dd8 rfl (fun gs K hgs hK => ?_)); replace hgs : gs 2 = some 24 ∧ gs 6 = some 28 ∧ gs 10 = some 32 ∧ gs 15 = some 37 := ⟨hgs 2, hgs 6, hgs 10, hgs 15⟩) | ((first | refine AWp.sreg (id := 11) dd8 rfl (fun gs K hgs hK => ?_) | refine AWp.reg (id := 11) dd8 rfl (fun gs K hgs hK => ?_)); replace hgs : gs 2 = some 72 ∧ gs 5 = some 75 := ⟨hgs 2, hgs 5⟩) | ((first | refine AWp.sreg (id := 14) dd8 rfl (fun gs K hgs hK => ?_) | refine AWp.reg (id := 14) dd8 rfl (fun gs K hgs hK => ?_)); replace hgs : gs 1 = some 85 := hgs 1) | (refine AWp.sreg  dd8 rfl (fun gs K hgs hK => ?_); replace hgs : Nat.succ 0 = 1 := rfl) | refine AWp.seq ?_ | refine ARounds.step ?_ | refine AWp.block ?_ | refine AWp.label ?_ | (refine AWp.ret ?_; try simp only [aThen, aBlock]) | (refine AWp.skip ?_; try simp only [aThen, aBlock]) | (refine AWp.exit ?_; try simp only [aThen, aBlock, Nat.reduceEqDiff, reduceIte]) | (refine AWp.reg  dd8 rfl (fun gs K hgs hK => ?_); replace hgs : Nat.succ 0 = 1 := rfl) | ((first | refine AWp.sregM (id := 26) fo8 (true, false) mo_fact (by kernel_rfl) (by kernel_rfl) (fun gs K hgs hK => ?_) | refine AWp.regM (id := 26) fo8 (true, false) mo_fact (by kernel_rfl) (by kernel_rfl) (fun gs K hgs hK => ?_)); replace hgs : Nat.succ 0 = 1 := rfl) | (refine aopsM_nil (hK _ ?_); clear hK K hgs gs; simp only [fo8]; simp only [ASt.prune, pruneE, keepB, keepR, Bool.or_false, Bool.or_true, Bool.true_or, Bool.false_or, reduceIte, Bool.or_self, Bool.false_eq_true, aThen, aBlock, Nat.reduceEqDiff]) | ((first | refine AWp.sregD (id := 16) fo8 mo_fact (by kernel_rfl) (fun gs K hgs hK => ?_) | refine AWp.regD (id := 16) fo8 mo_fact (by kernel_rfl) (fun gs K hgs hK => ?_)); replace hgs : gs 5 = some 99 := hgs 5) | ((first | refine AWp.sregD  fo8 mo_fact (by kernel_rfl) (fun gs K hgs hK => ?_) | refine AWp.regD  fo8 mo_fact (by kernel_rfl) (fun gs K hgs hK => ?_)); replace hgs : Nat.succ 0 = 1 := rfl) | (refine aopsD_nil (hK _ ?_); clear hK K hgs gs; simp only [fo8]; simp only [ASt.prune, pruneE, keepB, keepR, Bool.or_false, Bool.or_true, Bool.true_or, Bool.false_or, reduceIte, Bool.or_self, Bool.false_eq_true, aThen, aBlock, Nat.reduceEqDiff]) | (refine aops_consG (fun K' h' => ?_); simp only [go_sem, Nat.reduceLT, Nat.reduceLeDiff, Nat.reduceEqDiff, reduceIte, Nat.reduceAdd, Nat.reduceMul, Nat.reduceSub, Int.reduceLT, Int.reduceLE, Int.reduceToNat, Int.reduceNeg, reduceCtorEq, hgs, aopG, beq_self_eq_true, List.length_map]; (try simp (disch := omega) only [wrap_id, getD_map_in, Int.toNat_natCast, aopG, beq_self_eq_true, List.length_map]); (repeat (refine And.intro (by (first | omega | (simp; done) | (simp; omega) | assumption)) ?_)); refine h' _ ?_; clear h' K') | (refine AWp.cond rfl (fun h => ?_) (fun h => ?_) <;> (try simp only [decide_eq_true_eq, decide_eq_false_iff_not, beq_iff_eq, bne_iff_ne, ne_eq, Bool.not_eq_true', Bool.not_eq_false', beq_eq_false_iff_ne, Bool.true_eq_false, Bool.false_eq_true, Int.not_le, Int.not_lt, Bool.and_eq_true, Bool.and_eq_false_iff, Bool.or_eq_true, Bool.or_eq_false_iff, bne_eq_false_iff_eq, reduceCtorEq] at h) <;> (try first | contradiction | (exfalso; omega) | (exfalso; revert h; simp; done) | (exfalso; revert h; simp; omega)))))
            simp only [Out, outA, outL, resA, go_sem, Nat.reduceLT, Nat.reduceLeDiff, Nat.reduceEqDiff, reduceIte, Nat.reduceAdd, Nat.reduceMul, Nat.reduceSub, Int.reduceLT, Int.reduceLE, Int.reduceToNat, Int.reduceNeg, reduceCtorEq]
            exact AVle.refl _
      · have hsl := f3 hs
        have hf2 : ee ≠ 0 ∨ eb = false := by
          by_cases h : ee = 0
          · refine .inr ?_
            cases eb with
            | false => rfl
            | true => exact absurd ((f2 h).1 rfl) hs
          · exact .inl h
        rw [hsl] at hSe
        generalize sendE t outs = se at *
        generalize sendT t outs = st' at *
        clear v1 v2 v3 v4 hok oi oo f2 f3 f4 hf l2 hsl
        obtain ⟨kd, nn, tn1, pe, mk, st, ev, rw_, lt⟩ := t
        obtain ⟨kd3, nn3, tn3, pe3, mk3, st3, ev3, rw_3, lt3⟩ := tt
        obtain ⟨kd4, nn4, tn4, pe4, mk4, st4, ev4, rw_4, lt4⟩ := st'
        simp only at hp
        subst hp
        unfold Tsk.cells sndsV mksV entsV evsV rowsV rcdsV at *
        unfold quesV at *
        simp only [List.map_cons, List.length_cons, List.map_nil] at hGr hCk hEn hSe hTu ⊢
        refine acall_of (n := 150) (rs := [.tmp 6]) Try.func8 rfl (by kernel_rfl) rfl rfl rfl ?_; simp only [argsE, Nat.reduceAdd]
        repeat (any_goals (first | ((first | refine aops_cons (fun K' h' => ?_) | refine aopsD_cons (fun K' h' => ?_) | refine aopsM_cons (fun K' h' => ?_)); simp only [go_sem, Nat.reduceLT, Nat.reduceLeDiff, Nat.reduceEqDiff, reduceIte, Nat.reduceAdd, Nat.reduceMul, Nat.reduceSub, Int.reduceLT, Int.reduceLE, Int.reduceToNat, Int.reduceNeg, reduceCtorEq, hgs, aopG, beq_self_eq_true, List.length_map]; (try ((first | refine ⟨_, alive27_c, ?_⟩ | refine ⟨_, fun _ => alive27_c, ?_⟩ | refine ⟨_, hGr, ?_⟩ | refine ⟨_, fun _ => hGr, ?_⟩ | refine ⟨_, hGi, ?_⟩ | refine ⟨_, fun _ => hGi, ?_⟩ | refine ⟨_, hGo, ?_⟩ | refine ⟨_, fun _ => hGo, ?_⟩ | refine ⟨_, hCk, ?_⟩ | refine ⟨_, fun _ => hCk, ?_⟩ | refine ⟨_, hEn, ?_⟩ | refine ⟨_, fun _ => hEn, ?_⟩ | refine ⟨_, hSe, ?_⟩ | refine ⟨_, fun _ => hSe, ?_⟩ | refine ⟨_, hTu, ?_⟩ | refine ⟨_, fun _ => hTu, ?_⟩ | refine ⟨_, hSs, ?_⟩ | refine ⟨_, fun _ => hSs, ?_⟩ | refine ⟨_, hS1, ?_⟩ | refine ⟨_, fun _ => hS1, ?_⟩ | refine ⟨_, hPu, ?_⟩ | refine ⟨_, fun _ => hPu, ?_⟩ | refine ⟨_, hSq, ?_⟩ | refine ⟨_, fun _ => hSq, ?_⟩); (try simp only [go_sem, Nat.reduceLT, Nat.reduceLeDiff, Nat.reduceEqDiff, reduceIte, Nat.reduceAdd, Nat.reduceMul, Nat.reduceSub, Int.reduceLT, Int.reduceLE, Int.reduceToNat, Int.reduceNeg, reduceCtorEq, hgs, aopG, beq_self_eq_true, List.length_map]))); (try simp (disch := omega) only [wrap_id, getD_map_in, Int.toNat_natCast, aopG, beq_self_eq_true, List.length_map]); (repeat (refine And.intro (by (first | omega | (simp; done) | (simp; omega) | assumption)) ?_)); refine h' _ ?_; clear h' K') | (refine aops_nil (hK _ ?_); clear hK K hgs gs; try simp only [aThen, aBlock]) | ((first | refine AWp.sreg (id := 2) dd8 rfl (fun gs K hgs hK => ?_) | refine AWp.reg (id := 2) dd8 rfl (fun gs K hgs hK => ?_)); replace hgs : gs 2 = some 24 ∧ gs 6 = some 28 ∧ gs 10 = some 32 ∧ gs 15 = some 37 := ⟨hgs 2, hgs 6, hgs 10, hgs 15⟩) | ((first | refine AWp.sreg (id := 11) dd8 rfl (fun gs K hgs hK => ?_) | refine AWp.reg (id := 11) dd8 rfl (fun gs K hgs hK => ?_)); replace hgs : gs 2 = some 72 ∧ gs 5 = some 75 := ⟨hgs 2, hgs 5⟩) | ((first | refine AWp.sreg (id := 14) dd8 rfl (fun gs K hgs hK => ?_) | refine AWp.reg (id := 14) dd8 rfl (fun gs K hgs hK => ?_)); replace hgs : gs 1 = some 85 := hgs 1) | (refine AWp.sreg  dd8 rfl (fun gs K hgs hK => ?_); replace hgs : Nat.succ 0 = 1 := rfl) | refine AWp.seq ?_ | refine ARounds.step ?_ | refine AWp.block ?_ | refine AWp.label ?_ | (refine AWp.ret ?_; try simp only [aThen, aBlock]) | (refine AWp.skip ?_; try simp only [aThen, aBlock]) | (refine AWp.exit ?_; try simp only [aThen, aBlock, Nat.reduceEqDiff, reduceIte]) | (refine AWp.reg  dd8 rfl (fun gs K hgs hK => ?_); replace hgs : Nat.succ 0 = 1 := rfl) | ((first | refine AWp.sregM (id := 26) fo8 (true, false) mo_fact (by kernel_rfl) (by kernel_rfl) (fun gs K hgs hK => ?_) | refine AWp.regM (id := 26) fo8 (true, false) mo_fact (by kernel_rfl) (by kernel_rfl) (fun gs K hgs hK => ?_)); replace hgs : Nat.succ 0 = 1 := rfl) | (refine aopsM_nil (hK _ ?_); clear hK K hgs gs; simp only [fo8]; simp only [ASt.prune, pruneE, keepB, keepR, Bool.or_false, Bool.or_true, Bool.true_or, Bool.false_or, reduceIte, Bool.or_self, Bool.false_eq_true, aThen, aBlock, Nat.reduceEqDiff]) | ((first | refine AWp.sregD (id := 16) fo8 mo_fact (by kernel_rfl) (fun gs K hgs hK => ?_) | refine AWp.regD (id := 16) fo8 mo_fact (by kernel_rfl) (fun gs K hgs hK => ?_)); replace hgs : gs 5 = some 99 := hgs 5) | ((first | refine AWp.sregD  fo8 mo_fact (by kernel_rfl) (fun gs K hgs hK => ?_) | refine AWp.regD  fo8 mo_fact (by kernel_rfl) (fun gs K hgs hK => ?_)); replace hgs : Nat.succ 0 = 1 := rfl) | (refine aopsD_nil (hK _ ?_); clear hK K hgs gs; simp only [fo8]; simp only [ASt.prune, pruneE, keepB, keepR, Bool.or_false, Bool.or_true, Bool.true_or, Bool.false_or, reduceIte, Bool.or_self, Bool.false_eq_true, aThen, aBlock, Nat.reduceEqDiff]) | (refine aops_consG (fun K' h' => ?_); simp only [go_sem, Nat.reduceLT, Nat.reduceLeDiff, Nat.reduceEqDiff, reduceIte, Nat.reduceAdd, Nat.reduceMul, Nat.reduceSub, Int.reduceLT, Int.reduceLE, Int.reduceToNat, Int.reduceNeg, reduceCtorEq, hgs, aopG, beq_self_eq_true, List.length_map]; (try simp (disch := omega) only [wrap_id, getD_map_in, Int.toNat_natCast, aopG, beq_self_eq_true, List.length_map]); (repeat (refine And.intro (by (first | omega | (simp; done) | (simp; omega) | assumption)) ?_)); refine h' _ ?_; clear h' K') | (refine AWp.cond rfl (fun h => ?_) (fun h => ?_) <;> (try simp only [decide_eq_true_eq, decide_eq_false_iff_not, beq_iff_eq, bne_iff_ne, ne_eq, Bool.not_eq_true', Bool.not_eq_false', beq_eq_false_iff_ne, Bool.true_eq_false, Bool.false_eq_true, Int.not_le, Int.not_lt, Bool.and_eq_true, Bool.and_eq_false_iff, Bool.or_eq_true, Bool.or_eq_false_iff, bne_eq_false_iff_eq, reduceCtorEq] at h) <;> (try first | contradiction | (exfalso; omega) | (exfalso; revert h; simp; done) | (exfalso; revert h; simp; omega)))))
        · exfalso
          rcases h with h | ⟨h1, h2⟩
          · exact f1 h
          · rcases hf2 with h3 | h3
            · exact h3 h1
            · subst h3
              simp [hs] at h2
        all_goals simp only [Out, outA, outL, resA, go_sem, Nat.reduceLT, Nat.reduceLeDiff, Nat.reduceEqDiff, reduceIte, Nat.reduceAdd, Nat.reduceMul, Nat.reduceSub, Int.reduceLT, Int.reduceLE, Int.reduceToNat, Int.reduceNeg, reduceCtorEq]
        all_goals exact AVle.of_eq (by simp)
  · have hv2 : greatT t = true ∨ (greatT t = false ∧ greatQs ins = true) ∨ (greatT t = false ∧ greatQs ins = false ∧ greatQs outs = true) ∨ (greatT t = false ∧ greatQs ins = false ∧ greatQs outs = false ∧ tskE t ≠ 0) := by
      by_cases hz : tskE t = 0 <;> cases h1 : greatT t <;> cases h2 : greatQs ins <;> cases h3 : greatQs outs <;> simp_all
    generalize greatT t = g1 at *
    generalize greatQs ins = g2 at *
    generalize greatQs outs = g3 at *
    generalize tskE t = te at *
    clear hok oi oo hv
    obtain ⟨kd, nn, tn1, pe, mk, st, ev, rw_, lt⟩ := t
    unfold Tsk.cells sndsV mksV entsV evsV rowsV rcdsV quesV at *
    simp only at *
    rcases hv2 with rfl | ⟨rfl, rfl⟩ | ⟨rfl, rfl, rfl⟩ | ⟨rfl, rfl, rfl, hv3⟩
    all_goals
      refine acall_of (n := 150) (rs := [.tmp 6]) Try.func8 rfl (by kernel_rfl) rfl rfl rfl ?_; simp only [argsE, Nat.reduceAdd]
      repeat (any_goals (first | ((first | refine aops_cons (fun K' h' => ?_) | refine aopsD_cons (fun K' h' => ?_) | refine aopsM_cons (fun K' h' => ?_)); simp only [go_sem, Nat.reduceLT, Nat.reduceLeDiff, Nat.reduceEqDiff, reduceIte, Nat.reduceAdd, Nat.reduceMul, Nat.reduceSub, Int.reduceLT, Int.reduceLE, Int.reduceToNat, Int.reduceNeg, reduceCtorEq, hgs, aopG, beq_self_eq_true, List.length_map]; (try ((first | refine ⟨_, alive27_c, ?_⟩ | refine ⟨_, fun _ => alive27_c, ?_⟩ | refine ⟨_, hGr, ?_⟩ | refine ⟨_, fun _ => hGr, ?_⟩ | refine ⟨_, hGi, ?_⟩ | refine ⟨_, fun _ => hGi, ?_⟩ | refine ⟨_, hGo, ?_⟩ | refine ⟨_, fun _ => hGo, ?_⟩ | refine ⟨_, hCk, ?_⟩ | refine ⟨_, fun _ => hCk, ?_⟩ | refine ⟨_, hEn, ?_⟩ | refine ⟨_, fun _ => hEn, ?_⟩ | refine ⟨_, hSe, ?_⟩ | refine ⟨_, fun _ => hSe, ?_⟩ | refine ⟨_, hTu, ?_⟩ | refine ⟨_, fun _ => hTu, ?_⟩ | refine ⟨_, hSs, ?_⟩ | refine ⟨_, fun _ => hSs, ?_⟩ | refine ⟨_, hS1, ?_⟩ | refine ⟨_, fun _ => hS1, ?_⟩ | refine ⟨_, hPu, ?_⟩ | refine ⟨_, fun _ => hPu, ?_⟩ | refine ⟨_, hSq, ?_⟩ | refine ⟨_, fun _ => hSq, ?_⟩); (try simp only [go_sem, Nat.reduceLT, Nat.reduceLeDiff, Nat.reduceEqDiff, reduceIte, Nat.reduceAdd, Nat.reduceMul, Nat.reduceSub, Int.reduceLT, Int.reduceLE, Int.reduceToNat, Int.reduceNeg, reduceCtorEq, hgs, aopG, beq_self_eq_true, List.length_map]))); (try simp (disch := omega) only [wrap_id, getD_map_in, Int.toNat_natCast, aopG, beq_self_eq_true, List.length_map]); (repeat (refine And.intro (by (first | omega | (simp; done) | (simp; omega) | assumption)) ?_)); refine h' _ ?_; clear h' K') | (refine aops_nil (hK _ ?_); clear hK K hgs gs; try simp only [aThen, aBlock]) | ((first | refine AWp.sreg (id := 2) dd8 rfl (fun gs K hgs hK => ?_) | refine AWp.reg (id := 2) dd8 rfl (fun gs K hgs hK => ?_)); replace hgs : gs 2 = some 24 ∧ gs 6 = some 28 ∧ gs 10 = some 32 ∧ gs 15 = some 37 := ⟨hgs 2, hgs 6, hgs 10, hgs 15⟩) | ((first | refine AWp.sreg (id := 11) dd8 rfl (fun gs K hgs hK => ?_) | refine AWp.reg (id := 11) dd8 rfl (fun gs K hgs hK => ?_)); replace hgs : gs 2 = some 72 ∧ gs 5 = some 75 := ⟨hgs 2, hgs 5⟩) | ((first | refine AWp.sreg (id := 14) dd8 rfl (fun gs K hgs hK => ?_) | refine AWp.reg (id := 14) dd8 rfl (fun gs K hgs hK => ?_)); replace hgs : gs 1 = some 85 := hgs 1) | (refine AWp.sreg  dd8 rfl (fun gs K hgs hK => ?_); replace hgs : Nat.succ 0 = 1 := rfl) | refine AWp.seq ?_ | refine ARounds.step ?_ | refine AWp.block ?_ | refine AWp.label ?_ | (refine AWp.ret ?_; try simp only [aThen, aBlock]) | (refine AWp.skip ?_; try simp only [aThen, aBlock]) | (refine AWp.exit ?_; try simp only [aThen, aBlock, Nat.reduceEqDiff, reduceIte]) | (refine AWp.reg  dd8 rfl (fun gs K hgs hK => ?_); replace hgs : Nat.succ 0 = 1 := rfl) | ((first | refine AWp.sregM (id := 26) fo8 (true, false) mo_fact (by kernel_rfl) (by kernel_rfl) (fun gs K hgs hK => ?_) | refine AWp.regM (id := 26) fo8 (true, false) mo_fact (by kernel_rfl) (by kernel_rfl) (fun gs K hgs hK => ?_)); replace hgs : Nat.succ 0 = 1 := rfl) | (refine aopsM_nil (hK _ ?_); clear hK K hgs gs; simp only [fo8]; simp only [ASt.prune, pruneE, keepB, keepR, Bool.or_false, Bool.or_true, Bool.true_or, Bool.false_or, reduceIte, Bool.or_self, Bool.false_eq_true, aThen, aBlock, Nat.reduceEqDiff]) | ((first | refine AWp.sregD (id := 16) fo8 mo_fact (by kernel_rfl) (fun gs K hgs hK => ?_) | refine AWp.regD (id := 16) fo8 mo_fact (by kernel_rfl) (fun gs K hgs hK => ?_)); replace hgs : gs 5 = some 99 := hgs 5) | ((first | refine AWp.sregD  fo8 mo_fact (by kernel_rfl) (fun gs K hgs hK => ?_) | refine AWp.regD  fo8 mo_fact (by kernel_rfl) (fun gs K hgs hK => ?_)); replace hgs : Nat.succ 0 = 1 := rfl) | (refine aopsD_nil (hK _ ?_); clear hK K hgs gs; simp only [fo8]; simp only [ASt.prune, pruneE, keepB, keepR, Bool.or_false, Bool.or_true, Bool.true_or, Bool.false_or, reduceIte, Bool.or_self, Bool.false_eq_true, aThen, aBlock, Nat.reduceEqDiff]) | (refine aops_consG (fun K' h' => ?_); simp only [go_sem, Nat.reduceLT, Nat.reduceLeDiff, Nat.reduceEqDiff, reduceIte, Nat.reduceAdd, Nat.reduceMul, Nat.reduceSub, Int.reduceLT, Int.reduceLE, Int.reduceToNat, Int.reduceNeg, reduceCtorEq, hgs, aopG, beq_self_eq_true, List.length_map]; (try simp (disch := omega) only [wrap_id, getD_map_in, Int.toNat_natCast, aopG, beq_self_eq_true, List.length_map]); (repeat (refine And.intro (by (first | omega | (simp; done) | (simp; omega) | assumption)) ?_)); refine h' _ ?_; clear h' K') | (refine AWp.cond rfl (fun h => ?_) (fun h => ?_) <;> (try simp only [decide_eq_true_eq, decide_eq_false_iff_not, beq_iff_eq, bne_iff_ne, ne_eq, Bool.not_eq_true', Bool.not_eq_false', beq_eq_false_iff_ne, Bool.true_eq_false, Bool.false_eq_true, Int.not_le, Int.not_lt, Bool.and_eq_true, Bool.and_eq_false_iff, Bool.or_eq_true, Bool.or_eq_false_iff, bne_eq_false_iff_eq, reduceCtorEq] at h) <;> (try first | contradiction | (exfalso; omega) | (exfalso; revert h; simp; done) | (exfalso; revert h; simp; omega)))))
      all_goals simp only [Out, outA, outL, resA, go_sem, Nat.reduceLT, Nat.reduceLeDiff, Nat.reduceEqDiff, reduceIte, Nat.reduceAdd, Nat.reduceMul, Nat.reduceSub, Int.reduceLT, Int.reduceLE, Int.reduceToNat, Int.reduceNeg, reduceCtorEq]
      all_goals exact AVle.refl _
theorem tsent_all : ∀ xs, ShpAs Try.prog 8 Try.f8.params.toList xs → ACall Try.prog 8 xs (.lit (.bool true)) := by
  intro xs h
  have hp : Try.f8.params.toList = [31, 32, 32] := by kernel_rfl
  rw [hp] at h
  obtain ⟨a, r, rfl, ha, h⟩ := h
  obtain ⟨b, r, rfl, hb, h⟩ := h
  obtain ⟨c, r, rfl, hc, h⟩ := h
  obtain rfl : r = [] := h
  obtain ⟨t, rfl, hok⟩ := tsk_shape ha
  obtain ⟨ins, rfl, hi, oi⟩ := ques_shape hb
  obtain ⟨outs, rfl, ho, oo⟩ := ques_shape hc
  exact tsent_law t ins outs hok hi ho oi oo
end Go.Proofs.Ytlpmgkillalhbaa
