/-
  A new source; its steps and sends to a queue of room one, in plain Lean.
-/
import Derived.Test.YtjeehkdepoiegaaGreatStpX
import Derived.Test.YtjeehkdepoiegaaGreatNewW2
import Derived.Test.YtjeehkdepoiegaaGreatQueV
namespace Go.Proofs.YtjeehkdepoiegaaGreat
open Go.AL Go.RowKit
set_option linter.unusedSimpArgs false
set_option linter.unusedVariables false
set_option maxRecDepth 10000
set_option maxHeartbeats 8000000
def newTk (n : Int) (l : List Ev) : Tsk := if newErr n l = 0 then ⟨1, n, 0, [], [], [], l, [], []⟩ else zeroT
theorem srcV_le (k n : Int) (l : List Ev) : AVle (srcV k n l) (.agg (Tsk.mk k n 0 [] [] [] l [] []).cells) :=
  AVle.agg ⟨AVle.refl _, AVle.refl _, AVle.refl _, AVle.nil 11, AVle.nil 1, AVle.nil 11, AVle.refl _, AVle.nil 5, AVle.nil 3, trivial⟩
theorem new_t (n : Int) (l : List Ev) (hl : l.length ≤ 100) : ACall Tryz.prog 6 [.lit (.int .i64 n), evsV l] (.tup [.agg (newTk n l).cells, .lit (.int .i64 (newErr n l))]) := by
  refine (new_c n l hl).mono (.refl _) (AVle.tup ⟨?_, AVle.refl _, trivial⟩)
  unfold newV newTk
  split
  · exact srcV_le 1 n l
  · exact srcV_le 0 0 []
end Go.Proofs.YtjeehkdepoiegaaGreat
namespace Go.Proofs.YtjeehkdepoiegaaGreat
open Go.AL
set_option linter.unusedSimpArgs false
set_option linter.unusedVariables false
def srcT (n : Int) (l : List Ev) : Tsk := ⟨1, n, 0, [], [], [], l, [], []⟩
theorem newErr_0 {n : Int} {l : List Ev} (h : newErr n l = 0) : 0 ≤ n ∧ n < 4 ∧ l.length ≤ 60 ∧ (∀ e ∈ l, okE e = true) ∧ newTk n l = srcT n l := by
  have hT : newTk n l = srcT n l := by unfold newTk; rw [if_pos h]; rfl
  unfold newErr at h
  split at h
  · omega
  split at h
  · omega
  split at h
  · omega
  rename_i g1 g2 g3
  refine ⟨by omega, by omega, by omega, fun e he => ?_, hT⟩
  cases hk : okE e
  · exact absurd (List.any_eq_true.2 ⟨e, he, by rw [hk]; rfl⟩) g3
  · rfl
theorem srcP_ok {l : List Ev} {p : List Snd} (h3 : l.length ≤ 60) (h4 : ∀ e ∈ l, okE e = true) (hp : p.length ≤ 1) (hs : ∀ s ∈ p, sendB s = true) : tskE ⟨1, 0, 0, p, [], [], l, [], []⟩ = 0 := by
  have hn : numsB ⟨1, 0, 0, p, [], [], l, [], []⟩ = true := decide_eq_true ⟨by simp, by simp, by simp, by simp⟩
  have hk : keptB ⟨1, 0, 0, p, [], [], l, [], []⟩ = true := decide_eq_true (.inl ⟨rfl, rfl, rfl, h3, rfl, rfl⟩)
  have hl : listsB ⟨1, 0, 0, p, [], [], l, [], []⟩ = true := by
    unfold listsB
    simp only [Bool.and_eq_true, allL_all, List.all_nil, List.all_eq_true]
    exact ⟨trivial, h4, trivial, trivial⟩
  have : goodT ⟨1, 0, 0, p, [], [], l, [], []⟩ = true := by
    unfold goodT
    simp only [Bool.and_eq_true, decide_eq_true_eq]
    exact ⟨hn, Nat.le_trans hp (by omega), hk, by rw [allL_all, List.all_eq_true]; exact hs, by simp [storeE, allN], hl, by simp [allL_all]⟩
  unfold tskE
  rw [if_pos this]
theorem src0_ask {l : List Ev} (h3 : l.length ≤ 60) (h4 : ∀ e ∈ l, okE e = true) : askE (srcT 0 l) = 0 := by
  have := srcP_ok (p := []) h3 h4 (by simp) (by simp)
  unfold askE srcT
  rw [this, if_neg (by simp), if_neg (by simp)]
theorem src0_step {e : Ev} {es : List Ev} (h3 : (e :: es).length ≤ 60) (h4 : ∀ x ∈ e :: es, okE x = true) :
    stepE (srcT 0 (e :: es)) = 0 ∧ stepT (srcT 0 (e :: es)) = ⟨1, 0, 0, [⟨0, told e⟩], [], [], es, [], []⟩ := by
  have ha := src0_ask h3 h4
  have hE : stepE (srcT 0 (e :: es)) = 0 := by
    unfold stepE
    rw [if_neg (fun h => h ha), if_neg (by simp [srcT]), if_neg (by simp [srcT])]
  refine ⟨hE, ?_⟩
  unfold stepT
  rw [if_pos hE]
  rfl
theorem src0_send {e : Ev} {es : List Ev} (h3 : (e :: es).length ≤ 60) (h4 : ∀ x ∈ e :: es, okE x = true) :
    sendE ⟨1, 0, 0, [⟨0, told e⟩], [], [], es, [], []⟩ [⟨1, []⟩] = 0 ∧ sendT ⟨1, 0, 0, [⟨0, told e⟩], [], [], es, [], []⟩ [⟨1, []⟩] = srcT 0 es ∧
      sendL ⟨1, 0, 0, [⟨0, told e⟩], [], [], es, [], []⟩ [⟨1, []⟩] = [⟨1, [told e]⟩] := by
  have ha := srcP_ok (l := es) (p := [⟨0, told e⟩]) (by simp at h3; omega) (fun x hx => h4 x (by simp [hx])) (by simp) (fun s hs => by
    rw [List.mem_singleton.1 hs]; exact send_told (h4 e (by simp)))
  have hq : askQ ⟨1, 0, 0, [⟨0, told e⟩], [], [], es, [], []⟩ [] [⟨1, []⟩] = 0 := by
    unfold askQ
    rw [ha, if_neg (by simp), if_neg (by simp), if_pos (by simp [goodQ])]
  have hE : sendE ⟨1, 0, 0, [⟨0, told e⟩], [], [], es, [], []⟩ [⟨1, []⟩] = 0 := by
    unfold sendE
    rw [hq, if_neg (by simp)]
    simp [roomB]
  refine ⟨hE, ?_, ?_⟩
  · unfold sendT
    rw [if_pos hE]
    rfl
  · unfold sendL
    rw [if_pos hE]
    rfl
end Go.Proofs.YtjeehkdepoiegaaGreat
