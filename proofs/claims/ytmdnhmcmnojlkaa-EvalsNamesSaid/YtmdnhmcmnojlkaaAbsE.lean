/-
  The abstract layer, fifth part: the layer as a program that runs. Over whatever program; no program in sight.
-/
import Derived.Test.YtmdnhmcmnojlkaaAbsS

set_option linter.unusedSimpArgs false
set_option linter.unusedVariables false
set_option linter.constructorNameAsVariable false

namespace Go.AL
open Go.RowKit
set_option linter.unusedSimpArgs false
set_option linter.unusedVariables false

/-! ### the layer as a program that runs: what it says holds -/
section force
variable {R : Type}
noncomputable def frcN (m : Nat) (k : Nat → R) : R := match m with
  | 0 => k 0
  | Nat.succ m' => k (Nat.succ m')
theorem frcN_eq (m : Nat) (k : Nat → R) : frcN m k = k m := by cases m <;> rfl
noncomputable def frcI (i : Int) (k : Int → R) : R := match i with
  | .ofNat m => frcN m fun m => k (.ofNat m)
  | .negSucc m => frcN m fun m => k (.negSucc m)
theorem frcI_eq (m : Int) (k : Int → R) : frcI m k = k m := by cases m <;> simp only [frcI, frcN_eq]
noncomputable def frcB (b : Bool) (k : Bool → R) : R := match b with
  | true => k true
  | false => k false
theorem frcB_eq (m : Bool) (k : Bool → R) : frcB m k = k m := by cases m <;> rfl
noncomputable def frcV (u : Value) (k : Value → R) : R := match u with
  | .int kd n => frcI n fun n => k (.int kd n)
  | .bool b => frcB b fun b => k (.bool b)
  | u => k u
theorem frcV_eq (m : Value) (k : Value → R) : frcV m k = k m := by cases m <;> simp only [frcV, frcI_eq, frcB_eq]
noncomputable def frc0 (v : AV) (k : AV → R) : R := match v with
  | .lit u => frcV u fun u => k (.lit u)
  | .own r sz off len => frcN r fun r => frcN off fun off => frcN len fun len => k (.own r sz off len)
  | .rp r sz i f => frcN r fun r => frcN i fun i => frcN f fun f => k (.rp r sz i f)
  | .bp b off => frcN b fun b => frcN off fun off => k (.bp b off)
  | .any => k .any
  | .agg cs => k (.agg cs)
  | .tup cs => k (.tup cs)
  | .fn g cs => k (.fn g cs)
  | .rop cs => k (.rop cs)
  | .ro sz xs => k (.ro sz xs)
  | .opt p v => k (.opt p v)
theorem frc0_eq (m : AV) (k : AV → R) : frc0 m k = k m := by cases m <;> simp only [frc0, frcV_eq, frcN_eq]
noncomputable def frcL0 (cs : List AV) : (List AV → R) → R := List.rec (motive := fun _ => (List AV → R) → R) (fun k => k []) (fun c _ ih k => frc0 c fun c => ih fun cs => k (c :: cs)) cs
theorem frcL0_eq : ∀ (m : List AV) (k : List AV → R), frcL0 m k = k m
  | [], k => rfl
  | c :: cs, k => by
    show frc0 c (fun c => frcL0 cs fun cs => k (c :: cs)) = _
    rw [frc0_eq, frcL0_eq cs]
noncomputable def frc1 (v : AV) (k : AV → R) : R := match v with
  | .lit u => frcV u fun u => k (.lit u)
  | .own r sz off len => frc0 (.own r sz off len) k
  | .rp r sz i f => frc0 (.rp r sz i f) k
  | .bp b off => frc0 (.bp b off) k
  | .any => k .any
  | .agg cs => frcL0 cs fun cs => k (.agg cs)
  | .tup cs => frcL0 cs fun cs => k (.tup cs)
  | .fn g cs => frcL0 cs fun cs => k (.fn g cs)
  | .rop cs => frcL0 cs fun cs => k (.rop cs)
  | .ro sz xs => k (.ro sz xs)
  | .opt p v => k (.opt p v)
theorem frc1_eq (m : AV) (k : AV → R) : frc1 m k = k m := by cases m <;> simp only [frc1, frcV_eq, frc0_eq, frcL0_eq]
noncomputable def frcL1 (cs : List AV) : (List AV → R) → R := List.rec (motive := fun _ => (List AV → R) → R) (fun k => k []) (fun c _ ih k => frc1 c fun c => ih fun cs => k (c :: cs)) cs
theorem frcL1_eq : ∀ (m : List AV) (k : List AV → R), frcL1 m k = k m
  | [], k => rfl
  | c :: cs, k => by
    show frc1 c (fun c => frcL1 cs fun cs => k (c :: cs)) = _
    rw [frc1_eq, frcL1_eq cs]
noncomputable def frcA (v : AV) (k : AV → R) : R := match v with
  | .lit u => frcV u fun u => k (.lit u)
  | .own r sz off len => frc0 (.own r sz off len) k
  | .rp r sz i f => frc0 (.rp r sz i f) k
  | .bp b off => frc0 (.bp b off) k
  | .any => k .any
  | .agg cs => frcL0 cs fun cs => k (.agg cs)
  | .tup cs => frcL1 cs fun cs => k (.tup cs)
  | .fn g cs => frcL0 cs fun cs => k (.fn g cs)
  | .rop cs => frcL0 cs fun cs => k (.rop cs)
  | .ro sz xs => k (.ro sz xs)
  | .opt p v => frcB p fun p => frc1 v fun v => k (.opt p v)
theorem frcA_eq (m : AV) (k : AV → R) : frcA m k = k m := by cases m <;> simp only [frcA, frcV_eq, frc0_eq, frc1_eq, frcB_eq, frcL0_eq, frcL1_eq]
noncomputable def frcL (cs : List AV) (k : List AV → R) : R := frcL0 cs k
theorem frcL_eq (m : List AV) (k : List AV → R) : frcL m k = k m := frcL0_eq m k
noncomputable def frcLL (cs : List (List AV)) : (List (List AV) → R) → R := List.rec (motive := fun _ => (List (List AV) → R) → R) (fun k => k []) (fun c _ ih k => frcL0 c fun c => ih fun cs => k (c :: cs)) cs
theorem frcLL_eq : ∀ (m : List (List AV)) (k : List (List AV) → R), frcLL m k = k m
  | [], k => rfl
  | c :: cs, k => by
    show frcL0 c (fun c => frcLL cs fun cs => k (c :: cs)) = _
    rw [frcL0_eq, frcLL_eq cs]
noncomputable def bor0 (rows : List (Option Row)) (v : AV) (k : AV → R) : R := match v with
  | .own r sz off len => match getRow rows r sz with
    | some rw_ => frcLL ((rw_.elems.drop off).take len) fun xs => k (.ro sz xs)
    | none => k .any
  | .tup vs => k (AV.bor rows (.tup vs))
  | .fn g vs => k (AV.bor rows (.fn g vs))
  | .agg vs => k (AV.bor rows (.agg vs))
  | .opt _ _ => k .any
  | .rp _ _ _ _ => k .any
  | .bp _ _ => k .any
  | .lit v => k (.lit v)
  | .any => k .any
  | .ro sz xs => k (.ro sz xs)
  | .rop cs => k (.rop cs)
theorem bor0_eq (rows : List (Option Row)) (v : AV) (k : AV → R) : bor0 rows v k = k (v.bor rows) := by
  cases v <;> simp only [bor0, AV.bor]
  case own r sz off len => cases getRow rows r sz <;> simp only [frcLL_eq]
noncomputable def borL0 (rows : List (Option Row)) (cs : List AV) : (List AV → R) → R := List.rec (motive := fun _ => (List AV → R) → R) (fun k => k []) (fun c _ ih k => bor0 rows c fun c => ih fun cs => k (c :: cs)) cs
theorem borL0_eq (rows : List (Option Row)) : ∀ (m : List AV) (k : List AV → R), borL0 rows m k = k (borL rows m)
  | [], k => by simp only [borL]; rfl
  | c :: cs, k => by
    show bor0 rows c (fun c => borL0 rows cs fun cs => k (c :: cs)) = _
    rw [bor0_eq, borL0_eq rows cs, borL]
noncomputable def bor1 (rows : List (Option Row)) (v : AV) (k : AV → R) : R := match v with
  | .tup vs => borL0 rows vs fun vs => k (.tup vs)
  | .fn g vs => borL0 rows vs fun vs => k (.fn g vs)
  | .agg vs => borL0 rows vs fun vs => k (.agg vs)
  | .own r sz off len => bor0 rows (.own r sz off len) k
  | .opt _ _ => k .any
  | .rp _ _ _ _ => k .any
  | .bp _ _ => k .any
  | .lit v => k (.lit v)
  | .any => k .any
  | .ro sz xs => k (.ro sz xs)
  | .rop cs => k (.rop cs)
theorem bor1_eq (rows : List (Option Row)) (v : AV) (k : AV → R) : bor1 rows v k = k (v.bor rows) := by
  cases v <;> simp only [bor1, bor0_eq, borL0_eq, AV.bor]
noncomputable def borL1 (rows : List (Option Row)) (cs : List AV) : (List AV → R) → R := List.rec (motive := fun _ => (List AV → R) → R) (fun k => k []) (fun c _ ih k => bor1 rows c fun c => ih fun cs => k (c :: cs)) cs
theorem borL1_eq (rows : List (Option Row)) : ∀ (m : List AV) (k : List AV → R), borL1 rows m k = k (borL rows m)
  | [], k => by simp only [borL]; rfl
  | c :: cs, k => by
    show bor1 rows c (fun c => borL1 rows cs fun cs => k (c :: cs)) = _
    rw [bor1_eq, borL1_eq rows cs, borL]
noncomputable def borF (rows : List (Option Row)) (v : AV) (k : AV → R) : R := match v with
  | .tup vs => borL1 rows vs fun vs => k (.tup vs)
  | .fn g vs => borL1 rows vs fun vs => k (.fn g vs)
  | .agg vs => borL1 rows vs fun vs => k (.agg vs)
  | .own r sz off len => bor0 rows (.own r sz off len) k
  | .opt _ _ => k .any
  | .rp _ _ _ _ => k .any
  | .bp _ _ => k .any
  | .lit v => k (.lit v)
  | .any => k .any
  | .ro sz xs => k (.ro sz xs)
  | .rop cs => k (.rop cs)
theorem borF_eq (rows : List (Option Row)) (v : AV) (k : AV → R) : borF rows v k = k (v.bor rows) := by
  cases v <;> simp only [borF, bor0_eq, borL1_eq, AV.bor]
noncomputable def borFL (rows : List (Option Row)) (vs : List AV) (k : List AV → R) : R := borL1 rows vs k
theorem borFL_eq (rows : List (Option Row)) (v : List AV) (k : List AV → R) : borFL rows v k = k (borL rows v) := borL1_eq rows v k
noncomputable def lendF (boxes : List (List AV)) (rows : List (Option Row)) (v : AV) (k : AV → R) : R := match v with
  | .bp b off => borFL rows ((boxes.getD b []).drop off) fun cs => k (.rop cs)
  | .any => k .any
  | .lit v => k (.lit v)
  | .agg cs => borF rows (.agg cs) k
  | .tup cs => borF rows (.tup cs) k
  | .fn g cs => borF rows (.fn g cs) k
  | .ro sz xs => k (.ro sz xs)
  | .rop cs => k (.rop cs)
  | .own r sz off len => borF rows (.own r sz off len) k
  | .rp _ _ _ _ => k .any
  | .opt _ _ => k .any
theorem lendF_eq (boxes : List (List AV)) (rows : List (Option Row)) (v : AV) (k : AV → R) : lendF boxes rows v k = k (v.lend boxes rows) := by
  cases v <;> simp only [lendF, AV.lend, borF_eq, borFL_eq, borL_eq]
noncomputable def lendFL (boxes : List (List AV)) (rows : List (Option Row)) : List AV → (List AV → R) → R
  | [], k => k []
  | v :: vs, k => lendF boxes rows v fun v => lendFL boxes rows vs fun vs => k (v :: vs)
theorem lendFL_eq (boxes : List (List AV)) (rows : List (Option Row)) : ∀ (v : List AV) (k : List AV → R), lendFL boxes rows v k = k (v.map (AV.lend boxes rows))
  | [], k => rfl
  | v :: vs, k => by simp only [lendFL, lendF_eq, lendFL_eq boxes rows vs, List.map_cons]
noncomputable def frz0 (keep : List Nat) (rows : List (Option Row)) (v : AV) (k : AV → R) : R := match v with
  | .own r sz off len => match keepR keep r with
    | true => k (.own r sz off len)
    | false => match getRow rows r sz with
      | some rw_ => frcLL ((rw_.elems.drop off).take len) fun xs => k (.ro sz xs)
      | none => k .any
  | .tup vs => k (AV.frz keep rows (.tup vs))
  | .fn g vs => k (AV.frz keep rows (.fn g vs))
  | .agg vs => k (AV.frz keep rows (.agg vs))
  | .opt p v => k (AV.frz keep rows (.opt p v))
  | .rp r sz i f => match keepR keep r with
    | true => k (.rp r sz i f)
    | false => k .any
  | .bp b off => k (.bp b off)
  | .lit v => k (.lit v)
  | .any => k .any
  | .ro sz xs => k (.ro sz xs)
  | .rop cs => k (.rop cs)
theorem frz0_eq (keep : List Nat) (rows : List (Option Row)) (v : AV) (k : AV → R) : frz0 keep rows v k = k (v.frz keep rows) := by
  cases v <;> simp only [frz0, AV.frz]
  case own r sz off len =>
    cases h : keepR keep r
    · simp only [Bool.false_eq_true, if_false]
      cases getRow rows r sz <;> simp only [frcLL_eq]
    · simp only [if_true]
  case rp r _ _ _ => cases keepR keep r <;> simp
noncomputable def frzL0 (keep : List Nat) (rows : List (Option Row)) (cs : List AV) : (List AV → R) → R := List.rec (motive := fun _ => (List AV → R) → R) (fun k => k []) (fun c _ ih k => frz0 keep rows c fun c => ih fun cs => k (c :: cs)) cs
theorem frzL0_eq (keep : List Nat) (rows : List (Option Row)) : ∀ (m : List AV) (k : List AV → R), frzL0 keep rows m k = k (frzL keep rows m)
  | [], k => by simp only [frzL]; rfl
  | c :: cs, k => by
    show frz0 keep rows c (fun c => frzL0 keep rows cs fun cs => k (c :: cs)) = _
    rw [frz0_eq, frzL0_eq keep rows cs, frzL]
noncomputable def frz1 (keep : List Nat) (rows : List (Option Row)) (v : AV) (k : AV → R) : R := match v with
  | .own r sz off len => frz0 keep rows (.own r sz off len) k
  | .tup vs => frzL0 keep rows vs fun vs => k (.tup vs)
  | .fn g vs => frzL0 keep rows vs fun vs => k (.fn g vs)
  | .agg vs => frzL0 keep rows vs fun vs => k (.agg vs)
  | .opt p v => frz0 keep rows v fun v => k (.opt p v)
  | .rp r sz i f => frz0 keep rows (.rp r sz i f) k
  | .bp b off => k (.bp b off)
  | .lit v => k (.lit v)
  | .any => k .any
  | .ro sz xs => k (.ro sz xs)
  | .rop cs => k (.rop cs)
theorem frz1_eq (keep : List Nat) (rows : List (Option Row)) (v : AV) (k : AV → R) : frz1 keep rows v k = k (v.frz keep rows) := by
  cases v <;> simp only [frz1, frz0_eq, frzL0_eq, AV.frz]
noncomputable def frzL1 (keep : List Nat) (rows : List (Option Row)) (cs : List AV) : (List AV → R) → R := List.rec (motive := fun _ => (List AV → R) → R) (fun k => k []) (fun c _ ih k => frz1 keep rows c fun c => ih fun cs => k (c :: cs)) cs
theorem frzL1_eq (keep : List Nat) (rows : List (Option Row)) : ∀ (m : List AV) (k : List AV → R), frzL1 keep rows m k = k (frzL keep rows m)
  | [], k => by simp only [frzL]; rfl
  | c :: cs, k => by
    show frz1 keep rows c (fun c => frzL1 keep rows cs fun cs => k (c :: cs)) = _
    rw [frz1_eq, frzL1_eq keep rows cs, frzL]
noncomputable def frzF (keep : List Nat) (rows : List (Option Row)) (v : AV) (k : AV → R) : R := match v with
  | .own r sz off len => frz0 keep rows (.own r sz off len) k
  | .tup vs => frzL1 keep rows vs fun vs => k (.tup vs)
  | .fn g vs => frzL1 keep rows vs fun vs => k (.fn g vs)
  | .agg vs => frzL0 keep rows vs fun vs => k (.agg vs)
  | .opt p v => frz1 keep rows v fun v => k (.opt p v)
  | .rp r sz i f => frz0 keep rows (.rp r sz i f) k
  | .bp b off => k (.bp b off)
  | .lit v => k (.lit v)
  | .any => k .any
  | .ro sz xs => k (.ro sz xs)
  | .rop cs => k (.rop cs)
theorem frzF_eq (keep : List Nat) (rows : List (Option Row)) (v : AV) (k : AV → R) : frzF keep rows v k = k (v.frz keep rows) := by
  cases v <;> simp only [frzF, frz0_eq, frz1_eq, frzL0_eq, frzL1_eq, AV.frz]
noncomputable def frzFL (keep : List Nat) (rows : List (Option Row)) (vs : List AV) (k : List AV → R) : R := frzL1 keep rows vs k
theorem frzFL_eq (keep : List Nat) (rows : List (Option Row)) (v : List AV) (k : List AV → R) : frzFL keep rows v k = k (frzL keep rows v) := frzL1_eq keep rows v k
noncomputable def egetX (e : List (Nat × AV)) : Nat → AV := List.rec (motive := fun _ => Nat → AV) (fun _ => .any) (fun p _ ih s => match Nat.beq p.1 s with
  | true => p.2
  | false => ih s) e
theorem egetX_eq : ∀ (e : List (Nat × AV)) (s : Nat), egetX e s = eget e s
  | [], _ => rfl
  | (k, v) :: t, s => by
    show (match Nat.beq k s with | true => v | false => egetX t s) = _
    simp only [eget, egetX_eq t s]
    cases h : Nat.beq k s
    · rw [if_neg (Nat.ne_of_beq_eq_false h)]
    · rw [if_pos (Nat.eq_of_beq_eq_true h)]
noncomputable def eputF (e : List (Nat × AV)) : Nat → AV → (List (Nat × AV) → R) → R := List.rec (motive := fun _ => Nat → AV → (List (Nat × AV) → R) → R) (fun s v k => k [(s, v)]) (fun p t ih s v k => match Nat.beq p.1 s with
  | true => k ((s, v) :: t)
  | false => ih s v fun t => k (p :: t)) e
theorem eputF_eq : ∀ (e : List (Nat × AV)) (s : Nat) (v : AV) (k : List (Nat × AV) → R), eputF e s v k = k (eput e s v)
  | [], s, v, k => rfl
  | (j, x) :: t, s, v, k => by
    show (match Nat.beq j s with | true => k ((s, v) :: t) | false => eputF t s v fun t => k ((j, x) :: t)) = _
    simp only [eput, eputF_eq t s v]
    cases h : Nat.beq j s
    · rw [if_neg (Nat.ne_of_beq_eq_false h)]
    · rw [if_pos (Nat.eq_of_beq_eq_true h)]
noncomputable def kpX : List Nat → Nat → Bool
  | [], _ => false
  | k :: ks, r => match Nat.beq k r with
    | true => true
    | false => kpX ks r
theorem kpX_eq : ∀ (l : List Nat) (r : Nat), kpX l r = keepR l r
  | [], _ => rfl
  | k :: ks, r => by
    simp only [kpX, keepR, kpX_eq ks r]
    cases h : Nat.beq k r
    · rw [if_neg (Nat.ne_of_beq_eq_false h)]
    · rw [if_pos (Nat.eq_of_beq_eq_true h)]
noncomputable def dropF (d : List Nat) : List (Nat × AV) → (List (Nat × AV) → R) → R
  | [], k => k []
  | (j, v) :: t, k => match kpX d j with
    | true => dropF d t k
    | false => dropF d t fun t => k ((j, v) :: t)
theorem dropF_eq (d : List Nat) : ∀ (e : List (Nat × AV)) (k : List (Nat × AV) → R), dropF d e k = k (dropE d e)
  | [], k => rfl
  | (j, v) :: t, k => by
    simp only [dropF, dropE, kpX_eq, dropF_eq d t]
    cases h : keepR d j <;> simp
noncomputable def pruneF (d : List Nat) : List (Nat × AV) → (List (Nat × AV) → R) → R
  | [], k => k []
  | (j, v) :: t, k => match kpX d j with
    | true => pruneF d t fun t => k ((j, v) :: t)
    | false => pruneF d t k
theorem pruneF_eq (d : List Nat) : ∀ (e : List (Nat × AV)) (k : List (Nat × AV) → R), pruneF d e k = k (pruneE d e)
  | [], k => rfl
  | (j, v) :: t, k => by
    simp only [pruneF, pruneE, kpX_eq, pruneF_eq d t]
    show _ = k (if keepR d j = true then (j, v) :: pruneE d t else pruneE d t)
    by_cases h : keepR d j = true
    · rw [h]; rfl
    · rw [Bool.not_eq_true] at h; rw [h]; rfl
noncomputable def setF {α : Type} : List α → Nat → α → (List α → R) → R
  | [], _, _, k => k []
  | _ :: t, 0, x, k => k (x :: t)
  | y :: t, n + 1, x, k => setF t n x fun t => k (y :: t)
theorem setF_eq {α : Type} : ∀ (l : List α) (n : Nat) (x : α) (k : List α → R), setF l n x k = k (l.set n x)
  | [], _, _, k => rfl
  | _ :: t, 0, x, k => rfl
  | y :: t, n + 1, x, k => by simp only [setF, setF_eq t n x, List.set_cons_succ]
noncomputable def snocF {α : Type} : List α → α → (List α → R) → R
  | [], x, k => k [x]
  | y :: t, x, k => snocF t x fun t => k (y :: t)
theorem snocF_eq {α : Type} : ∀ (l : List α) (x : α) (k : List α → R), snocF l x k = k (l ++ [x])
  | [], _, k => rfl
  | y :: t, x, k => by simp only [snocF, snocF_eq t x, List.cons_append]
noncomputable def appF {α : Type} : List α → List α → (List α → R) → R
  | [], y, k => k y
  | x :: t, y, k => appF t y fun t => k (x :: t)
theorem appF_eq {α : Type} : ∀ (l m : List α) (k : List α → R), appF l m k = k (l ++ m)
  | [], _, k => rfl
  | y :: t, x, k => by simp only [appF, appF_eq t x, List.cons_append]
noncomputable def frzEF (keep : List Nat) (rows : List (Option Row)) : List (Nat × AV) → (List (Nat × AV) → R) → R
  | [], k => k []
  | (j, v) :: t, k => frzF keep rows v fun v => frzEF keep rows t fun t => k ((j, v) :: t)
theorem frzEF_eq (keep : List Nat) (rows : List (Option Row)) : ∀ (e : List (Nat × AV)) (k : List (Nat × AV) → R), frzEF keep rows e k = k (frzE keep rows e)
  | [], k => rfl
  | (j, v) :: t, k => by simp only [frzEF, frzE, frzF_eq, frzEF_eq keep rows t]
noncomputable def frzBF (keep : List Nat) (rows : List (Option Row)) : List (List AV) → (List (List AV) → R) → R
  | [], k => k []
  | c :: t, k => frzFL keep rows c fun c => frzBF keep rows t fun t => k (c :: t)
theorem frzBF_eq (keep : List Nat) (rows : List (Option Row)) : ∀ (e : List (List AV)) (k : List (List AV) → R), frzBF keep rows e k = k (e.map (frzL keep rows))
  | [], k => rfl
  | c :: t, k => by simp only [frzBF, frzFL_eq, frzBF_eq keep rows t, List.map_cons]
noncomputable def frzRF (keep : List Nat) : Nat → List (Option Row) → (List (Option Row) → R) → R
  | _, [], k => k []
  | j, r :: rs, k => match kpX keep j with
    | true => frzRF keep (j + 1) rs fun rs => k (r :: rs)
    | false => frzRF keep (j + 1) rs fun rs => k (none :: rs)
theorem frzRF_eq (keep : List Nat) : ∀ (j : Nat) (e : List (Option Row)) (k : List (Option Row) → R), frzRF keep j e k = k (frzRows keep j e)
  | _, [], k => rfl
  | j, r :: rs, k => by
    simp only [frzRF, frzRows, kpX_eq, frzRF_eq keep (j + 1) rs]
    cases h : keepR keep j <;> simp
noncomputable def freezeF (keep : List Nat) (st : ASt) (k : ASt → R) : R := match st with
  | ⟨E, B, W⟩ => frzEF keep W E fun e => frzBF keep W B fun b => frzRF keep 0 W fun r => k ⟨e, b, r⟩
theorem freezeF_eq (keep : List Nat) (st : ASt) (k : ASt → R) : freezeF keep st k = k (st.freeze keep) := by
  simp only [freezeF, frzEF_eq, frzBF_eq, frzRF_eq, ASt.freeze]
noncomputable def putF (st : ASt) (dst : Option Nat) (v : AV) (k : ASt → R) : R := match dst with
  | some d => match st with
    | ⟨E, B, W⟩ => frcA v fun v => eputF E d v fun e => k ⟨e, B, W⟩
  | none => k st
theorem putF_eq (st : ASt) (dst : Option Nat) (v : AV) (k : ASt → R) : putF st dst v k = k (st.put dst v) := by
  cases dst <;> simp only [putF, ASt.put, frcA_eq, eputF_eq]
noncomputable def dropSF (d : List Nat) (st : ASt) (k : ASt → R) : R := match d with
  | [] => k st
  | _ :: _ => match st with
    | ⟨E, B, W⟩ => dropF d E fun e => k ⟨e, B, W⟩
theorem dropSF_eq (d : List Nat) (st : ASt) (k : ASt → R) : dropSF d st k = k (st.drop d) := by
  cases d <;> simp only [dropSF, ASt.drop, dropF_eq]
noncomputable def argsF : Nat → List AV → (List (Nat × AV) → R) → R
  | _, [], k => k []
  | j, a :: as, k => argsF (j + 1) as fun t => frcN j fun j => k ((j, a) :: t)
theorem argsF_eq : ∀ (j : Nat) (as : List AV) (k : List (Nat × AV) → R), argsF j as k = k (argsE j as)
  | _, [], k => rfl
  | j, a :: as, k => by simp only [argsF, argsE, argsF_eq (j + 1) as, frcN_eq]
noncomputable def killF (r : Nat) : List (Nat × AV) → (List (Nat × AV) → R) → R
  | [], k => k []
  | (j, v) :: t, k => frcA (v.kill r) fun v => killF r t fun t => k ((j, v) :: t)
theorem killF_eq (r : Nat) : ∀ (e : List (Nat × AV)) (k : List (Nat × AV) → R), killF r e k = k (killE r e)
  | [], k => rfl
  | (j, v) :: t, k => by simp only [killF, frcA_eq, killF_eq r t, killE, List.map_cons]
noncomputable def killLF (r : Nat) : List AV → (List AV → R) → R
  | [], k => k []
  | v :: t, k => frcA (v.kill r) fun v => killLF r t fun t => k (v :: t)
theorem killLF_eq (r : Nat) : ∀ (e : List AV) (k : List AV → R), killLF r e k = k (e.map (AV.kill r))
  | [], k => rfl
  | v :: t, k => by simp only [killLF, frcA_eq, killLF_eq r t, List.map_cons]
noncomputable def killBF (r : Nat) : List (List AV) → (List (List AV) → R) → R
  | [], k => k []
  | v :: t, k => killLF r v fun v => killBF r t fun t => k (v :: t)
theorem killBF_eq (r : Nat) : ∀ (e : List (List AV)) (k : List (List AV) → R), killBF r e k = k (e.map (List.map (AV.kill r)))
  | [], k => rfl
  | v :: t, k => by simp only [killBF, killLF_eq, killBF_eq r t, List.map_cons]
end force
end Go.AL

namespace Go.AL
open Go.RowKit
set_option linter.unusedSimpArgs false
set_option linter.unusedVariables false

/-! ### single operations, run -/
noncomputable def evX (env : List (Nat × AV)) (x : Operand) : Option AV := match x with
  | .tmp t => match egetX env t with
    | .opt true v => some v
    | .opt false _ => none
    | v => some v
  | .const v => some (.lit v)
  | .global _ => some .any
  | .func f => some (.lit (.func (.func f) #[] #[]))
theorem evX_spec {env : List (Nat × AV)} {x : Operand} {v : AV} (h : evX env x = some v) : (∀ c, uok c (evA env x)) ∧ un (evA env x) = v := by
  unfold evX at h
  cases x with
  | tmp t =>
    simp only [egetX_eq] at h
    simp only [evA]
    cases he : eget env t <;> simp_all [uok, un]
    case opt p v' =>
      cases p <;> simp_all
  | const v => simp only [Option.some.injEq] at h; subst h; exact ⟨fun _ => trivial, rfl⟩
  | global g => simp only [Option.some.injEq] at h; subst h; exact ⟨fun _ => trivial, rfl⟩
  | func f => simp only [Option.some.injEq] at h; subst h; exact ⟨fun _ => trivial, rfl⟩
noncomputable def evXs (env : List (Nat × AV)) : List Operand → Option (List AV)
  | [] => some []
  | x :: xs => match evX env x with
    | some v => match evXs env xs with
      | some vs => some (v :: vs)
      | none => none
    | none => none
theorem evXs_spec {env : List (Nat × AV)} : ∀ {xs : List Operand} {vs : List AV}, evXs env xs = some vs → (∀ c, uoks c (evA env) xs) ∧ xs.map (fun x => un (evA env x)) = vs
  | [], vs, h => by simp [evXs] at h; subst h; exact ⟨fun _ => trivial, rfl⟩
  | x :: xs, vs, h => by
    simp only [evXs] at h
    cases h1 : evX env x with
    | none => simp [h1] at h
    | some v =>
      cases h2 : evXs env xs with
      | none => simp [h1, h2] at h
      | some vs' =>
        simp only [h1, h2, Option.some.injEq] at h
        subst h
        have a := evX_spec h1
        have b := evXs_spec h2
        exact ⟨fun c => ⟨a.1 c, b.1 c⟩, by rw [List.map_cons, a.2, b.2]⟩

noncomputable def bQuo (k : IntKind) (a b : Int) : Option AV := match decide (b = 0) with
  | true => none
  | false => some (.lit (.int k (k.wrap (a.tdiv b))))
noncomputable def bRem (k : IntKind) (a b : Int) : Option AV := match decide (b = 0) with
  | true => none
  | false => some (.lit (.int k (a.tmod b)))
noncomputable def bInt (op : BinOp) (k : IntKind) (a b : Int) : Option AV := match op with
  | .add => some (.lit (.int k (k.wrap (a + b))))
  | .sub => some (.lit (.int k (k.wrap (a - b))))
  | .mul => some (.lit (.int k (k.wrap (a * b))))
  | .quo => bQuo k a b
  | .rem => bRem k a b
  | .eql => some (.lit (.bool (a == b)))
  | .neq => some (.lit (.bool (a != b)))
  | .lss => some (.lit (.bool (decide (a < b))))
  | .leq => some (.lit (.bool (decide (a ≤ b))))
  | .gtr => some (.lit (.bool (decide (b < a))))
  | .geq => some (.lit (.bool (decide (b ≤ a))))
  | .and => none
  | .or => none
  | .xor => none
  | .shl => none
  | .shr => none
  | .andNot => none
noncomputable def bEqs (op : BinOp) (c : Bool) : Option AV := match op with
  | .eql => some (.lit (.bool c))
  | .neq => some (.lit (.bool (!c)))
  | _ => none
noncomputable def bLitI (op : BinOp) (k : IntKind) (a : Int) (v : Value) : Option AV := match v with
  | .int k' b => match decide (k = k') with
    | true => bInt op k a b
    | false => none
  | _ => none
noncomputable def bLitB (P : Program) (op : BinOp) (t : TypeId) (a : Bool) (v : Value) : Option AV := match v with
  | .bool b => match boolT P t with
    | true => bEqs op (a == b)
    | false => none
  | _ => none
noncomputable def bLitS (op : BinOp) (a : ByteArray) (v : Value) : Option AV := match v with
  | .string b => bEqs op (a == b)
  | _ => none
noncomputable def bNil (P : Program) (op : BinOp) (t : TypeId) (c : Bool) (v : Value) : Option AV := match v with
  | .slice A _ _ => match A with
    | none => match (elS P t).isSome with
      | true => bEqs op c
      | false => none
    | some _ => none
  | _ => none
noncomputable def bLit (P : Program) (op : BinOp) (t : TypeId) (u v : Value) : Option AV := match u with
  | .int k a => bLitI op k a v
  | .bool a => bLitB P op t a v
  | .string a => bLitS op a v
  | .slice A _ _ => bNil P op t A.isNone v
  | _ => none
noncomputable def bAgg (P : Program) (op : BinOp) (t : TypeId) (as bs : List AV) : Option AV := match decide (eqT P t = some (as.map ck)) with
  | true => match kdAs as bs with
    | true => bEqs op (eqAs as bs)
    | false => none
  | false => none
noncomputable def bL (P : Program) (op : BinOp) (t : TypeId) (u : Value) (y : AV) : Option AV := match y with
  | .lit v => bLit P op t u v
  | _ => none
noncomputable def bR (P : Program) (op : BinOp) (t : TypeId) (xs : List (List AV)) (y : AV) : Option AV := match xs with
  | [] => none
  | _ :: _ => match y with
    | .lit v => bNil P op t false v
    | _ => none
noncomputable def bG (P : Program) (op : BinOp) (t : TypeId) (as : List AV) (y : AV) : Option AV := match y with
  | .agg bs => bAgg P op t as bs
  | _ => none
noncomputable def rBinY (P : Program) (op : BinOp) (t : TypeId) (x y : AV) : Option AV := match x with
  | .lit u => bL P op t u y
  | .ro _ xs => bR P op t xs y
  | .agg as => bG P op t as y
  | _ => none
theorem bEqs_spec {op : BinOp} {c : Bool} {v : AV} (h : bEqs op c = some v) : (op = .eql ∧ v = .lit (.bool c)) ∨ (op = .neq ∧ v = .lit (.bool (!c))) := by
  cases op <;> simp only [bEqs] at h <;> first | (cases h; done) | skip
  · cases h; exact .inl ⟨rfl, rfl⟩
  · cases h; exact .inr ⟨rfl, rfl⟩
theorem bInt_sound {P : Program} {op : BinOp} {t : TypeId} {k : IntKind} {a b : Int} {v : AV} (h : bInt op k a b = some v) : (rBin P op t (.lit (.int k a)) (.lit (.int k b))).2 ∧ (rBin P op t (.lit (.int k a)) (.lit (.int k b))).1 = v := by
  cases op <;> simp only [bInt] at h <;> simp only [rBin] <;> first | (cases h; done) | skip
  case quo =>
    unfold bQuo at h
    split at h
    · cases h
    · rename_i hb; cases h; simp only [decide_eq_false_iff_not] at hb; exact ⟨⟨trivial, hb⟩, rfl⟩
  case rem =>
    unfold bRem at h
    split at h
    · cases h
    · rename_i hb; cases h; simp only [decide_eq_false_iff_not] at hb; exact ⟨⟨trivial, hb⟩, rfl⟩
  all_goals (cases h; exact ⟨trivial, rfl⟩)
theorem rBinY_sound {P : Program} {op : BinOp} {t : TypeId} {x y v : AV} (h : rBinY P op t x y = some v) : (rBin P op t x y).2 ∧ (rBin P op t x y).1 = v := by
  cases x with
  | lit u =>
    cases y with
    | lit w =>
      cases u with
      | int k a =>
        cases w with
        | int k' b =>
          simp only [rBinY, bL, bLit, bLitI] at h
          by_cases hk : k = k'
          · subst hk; simp only [decide_true] at h; exact bInt_sound h
          · simp only [hk, decide_false] at h; cases h
        | _ => cases h
      | bool a =>
        cases w with
        | bool b =>
          simp only [rBinY, bL, bLit, bLitB] at h
          cases hb : boolT P t with
          | false => simp only [hb] at h; cases h
          | true =>
            simp only [hb] at h
            rcases bEqs_spec h with ⟨rfl, rfl⟩ | ⟨rfl, rfl⟩
            · exact ⟨hb, rfl⟩
            · exact ⟨hb, rfl⟩
        | _ => cases h
      | string a =>
        cases w with
        | string b =>
          simp only [rBinY, bL, bLit, bLitS] at h
          rcases bEqs_spec h with ⟨rfl, rfl⟩ | ⟨rfl, rfl⟩
          · exact ⟨trivial, rfl⟩
          · exact ⟨trivial, rfl⟩
        | _ => cases h
      | slice A n c =>
        cases w with
        | slice A' n' c' =>
          cases A' with
          | some _ => cases h
          | none =>
            simp only [rBinY, bL, bLit, bNil] at h
            cases hb : (elS P t).isSome with
            | false => simp only [hb] at h; cases h
            | true =>
              simp only [hb] at h
              rcases bEqs_spec h with ⟨rfl, rfl⟩ | ⟨rfl, rfl⟩
              · exact ⟨hb, rfl⟩
              · exact ⟨hb, rfl⟩
        | _ => cases h
      | _ => cases h
    | _ => cases h
  | ro sz xs =>
    cases xs with
    | nil => cases h
    | cons r xs =>
      cases y with
      | lit w =>
        cases w with
        | slice A' n' c' =>
          cases A' with
          | some _ => cases h
          | none =>
            simp only [rBinY, bR, bNil] at h
            cases hb : (elS P t).isSome with
            | false => simp only [hb] at h; cases h
            | true =>
              simp only [hb] at h
              rcases bEqs_spec h with ⟨rfl, rfl⟩ | ⟨rfl, rfl⟩
              · exact ⟨hb, rfl⟩
              · exact ⟨hb, rfl⟩
        | _ => cases h
      | _ => cases h
  | agg as =>
    cases y with
    | agg bs =>
      simp only [rBinY, bG, bAgg] at h
      split at h
      · rename_i hk
        split at h
        · rename_i hk2
          simp only [decide_eq_true_eq] at hk
          rcases bEqs_spec h with ⟨rfl, rfl⟩ | ⟨rfl, rfl⟩
          · exact ⟨⟨hk, hk2⟩, rfl⟩
          · exact ⟨⟨hk, hk2⟩, rfl⟩
        · cases h
      · cases h
    | _ => cases h
  | _ => cases h
noncomputable def rUnX (op : UnOp) : AV → Option AV
  | .lit (.bool b) => match op with
    | .not => some (.lit (.bool (!b)))
    | _ => none
  | .lit (.int k n) => match op with
    | .neg => some (.lit (.int k (k.wrap (0 - n))))
    | _ => none
  | _ => none
theorem rUnX_sound {op : UnOp} {x v : AV} (h : rUnX op x = some v) : (rUn op x).2 ∧ (rUn op x).1 = v := by
  unfold rUnX at h
  split at h
  · cases op <;> simp only [rUn] at h ⊢ <;> try (cases h; done)
    all_goals (cases h; exact ⟨trivial, rfl⟩)
  · cases op <;> simp only [rUn] at h ⊢ <;> try (cases h; done)
    all_goals (cases h; exact ⟨trivial, rfl⟩)
  · cases h
noncomputable def rConvX (P : Program) (s d : TypeId) : AV → Option AV
  | .lit (.int _ n) => match cvT P s d with
    | some k => some (.lit (.int k (k.wrap n)))
    | none => none
  | _ => none
theorem rConvX_sound {P : Program} {s d : TypeId} {x v : AV} (h : rConvX P s d x = some v) : (rConv P s d x).2 ∧ (rConv P s d x).1 = v := by
  unfold rConvX at h
  split at h
  · simp only [rConv]
    cases hc : cvT P s d with
    | none => simp [hc] at h
    | some k => simp only [hc, Option.some.injEq] at h; exact ⟨trivial, h⟩
  · cases h
noncomputable def rFAX (o : Option Nat) : AV → Option AV
  | .rop cs => match o with
    | some o => some (.rop (cs.drop o))
    | none => none
  | .bp b off => match o with
    | some o => some (.bp b (off + o))
    | none => none
  | .rp r sz i f => match o with
    | some o => some (.rp r sz i (f + o))
    | none => none
  | _ => none
theorem rFAX_sound {o : Option Nat} {x v : AV} (h : rFAX o x = some v) : (rFA o x).2 ∧ (rFA o x).1 = v := by
  unfold rFAX at h
  split at h <;> first | (cases h; done) | skip
  all_goals
    cases o with
    | none => cases h
    | some o => simp only [Option.some.injEq] at h; exact ⟨trivial, h⟩
noncomputable def inX (i : Int) (n : Nat) : Bool := decide (0 ≤ i) && decide (i < n)
theorem inX_spec {i : Int} {n : Nat} (h : inX i n = true) : 0 ≤ i ∧ i < n := by
  unfold inX at h; simpa using h
noncomputable def rIAX (P : Program) (t : TypeId) : AV → AV → Option AV
  | .ro sz xs, .lit (.int _ i) => match decide (elS P t = some sz) && inX i xs.length with
    | true => some (.rop (xs.getD i.toNat []))
    | false => none
  | .own r sz off len, .lit (.int _ i) => match decide (elS P t = some sz) && inX i len with
    | true => some (.rp r sz (off + i.toNat) 0)
    | false => none
  | .bp b off, .lit (.int _ i) => match arS P t with
    | some p => match inX i p.1 with
      | true => some (.bp b (off + i.toNat * p.2))
      | false => none
    | none => none
  | .rop cs, .lit (.int _ i) => match arS P t with
    | some p => match inX i p.1 with
      | true => some (.rop (cs.drop (i.toNat * p.2)))
      | false => none
    | none => none
  | .rp r sz k f, .lit (.int _ i) => match arS P t with
    | some p => match inX i p.1 with
      | true => some (.rp r sz k (f + i.toNat * p.2))
      | false => none
    | none => none
  | _, _ => none
theorem rIAX_sound {P : Program} {t : TypeId} {x y v : AV} (h : rIAX P t x y = some v) : (rIA P t x y).2 ∧ (rIA P t x y).1 = v := by
  unfold rIAX at h
  split at h
  · split at h
    · rename_i hk
      simp only [Bool.and_eq_true, decide_eq_true_eq] at hk
      cases h
      exact ⟨⟨hk.1, inX_spec hk.2⟩, rfl⟩
    · cases h
  · split at h
    · rename_i hk
      simp only [Bool.and_eq_true, decide_eq_true_eq] at hk
      cases h
      exact ⟨⟨hk.1, inX_spec hk.2⟩, rfl⟩
    · cases h
  all_goals first
    | (cases h; done)
    | (simp only [rIA]
       cases hp : arS P t with
       | none => simp [hp] at h
       | some p =>
         simp only [hp] at h
         split at h
         · rename_i hk; cases h; exact ⟨inX_spec hk, rfl⟩
         · cases h)
noncomputable def rSlX (P : Program) (t : TypeId) (x : AV) (lo hi mx : Option AV) : Option AV :=
  match x with
  | .ro sz xs => match bnd 0 lo, bnd xs.length hi, bnd xs.length mx with
    | some l, some h, some m =>
      match decide (elS P t = some sz) && decide (0 ≤ l) && decide (l ≤ h) && decide (h ≤ m) && decide (m ≤ xs.length) && (!mx.isSome || hi.isSome) with
      | true => some (frcLL ((xs.drop l.toNat).take (h.toNat - l.toNat)) fun ys => .ro sz ys)
      | false => none
    | _, _, _ => none
  | .own r sz off len => match bnd 0 lo, bnd len hi, bnd len mx with
    | some l, some h, some m =>
      match decide (elS P t = some sz) && decide (0 ≤ l) && decide (l ≤ h) && decide (h ≤ m) && decide (m ≤ len) && (!mx.isSome || (hi.isSome && !(off + l.toNat == 0))) with
      | true => some (.own r sz (off + l.toNat) (h.toNat - l.toNat))
      | false => none
    | _, _, _ => none
  | .lit (.slice A n c) => match bnd 0 lo, bnd n hi, mx, elS P t with
    | some l, some h, none, some sz => match decide (0 ≤ l) && decide (l ≤ h) && decide (h ≤ c) with
      | true => some (.lit (.slice (if c = l.toNat then A else A.map (·.add (l.toNat * sz))) (h.toNat - l.toNat) (c - l.toNat)))
      | false => none
    | _, _, _, _ => none
  | .lit (.string s) => match bnd 0 lo, bnd s.size hi, mx with
    | some l, some h, none => match rSl.strT P t && decide (0 ≤ l) && decide (l ≤ h) && decide (h ≤ s.size) with
      | true => some (.lit (.string (s.extract l.toNat h.toNat)))
      | false => none
    | _, _, _ => none
  | _ => none
theorem rSlX_sound {P : Program} {t : TypeId} {x v : AV} {lo hi mx : Option AV} (h : rSlX P t x lo hi mx = some v) : (rSl P t x lo hi mx).2 ∧ (rSl P t x lo hi mx).1 = v := by
  unfold rSlX at h
  split at h
  · simp only [rSl]
    split at h
    · rename_i l hh m e1 e2 e3
      simp only [e1, e2, e3]
      split at h
      · rename_i hk
        simp only [Bool.and_eq_true, decide_eq_true_eq, Bool.or_eq_true, Bool.not_eq_true', and_assoc] at hk
        simp only [frcLL_eq, Option.some.injEq] at h
        refine ⟨⟨hk.1, hk.2.1, hk.2.2.1, hk.2.2.2.1, hk.2.2.2.2.1, fun hm => ?_⟩, h⟩
        rcases hk.2.2.2.2.2 with h1 | h1
        · rw [h1] at hm; cases hm
        · exact h1
      · cases h
    · cases h
  · simp only [rSl]
    split at h
    · rename_i l hh m e1 e2 e3
      simp only [e1, e2, e3]
      split at h
      · rename_i hk
        simp only [Bool.and_eq_true, decide_eq_true_eq, Bool.or_eq_true, Bool.not_eq_true', and_assoc, beq_eq_false_iff_ne] at hk
        simp only [Option.some.injEq] at h
        refine ⟨⟨hk.1, hk.2.1, hk.2.2.1, hk.2.2.2.1, hk.2.2.2.2.1, fun hm => ?_⟩, h⟩
        rcases hk.2.2.2.2.2 with h1 | h1
        · rw [h1] at hm; cases hm
        · exact h1
      · cases h
    · cases h
  · simp only [rSl]
    split at h
    · rename_i l hh sz e1 e2 e4
      simp only [e1, e2, e4]
      split at h
      · rename_i hk
        simp only [Bool.and_eq_true, decide_eq_true_eq, and_assoc] at hk
        simp only [Option.some.injEq] at h
        exact ⟨hk, h⟩
      · cases h
    · cases h
  · simp only [rSl]
    split at h
    · rename_i l hh e1 e2
      simp only [e1, e2]
      split at h
      · rename_i hk
        simp only [Bool.and_eq_true, decide_eq_true_eq, and_assoc] at hk
        simp only [Option.some.injEq] at h
        exact ⟨hk, h⟩
      · cases h
    · cases h
  · cases h
noncomputable def rLenX (P : Program) (t : TypeId) (x : AV) : Option AV :=
  match x with
  | .ro _ xs => match (elS P t).isSome with
    | true => some (.lit (.int .i64 xs.length))
    | false => none
  | .own _ _ _ len => match (elS P t).isSome with
    | true => some (.lit (.int .i64 len))
    | false => none
  | .lit (.slice _ n _) => match (elS P t).isSome with
    | true => some (.lit (.int .i64 n))
    | false => none
  | .lit (.string s) => match rSl.strT P t with
    | true => some (.lit (.int .i64 s.size))
    | false => none
  | _ => none
theorem rLenX_sound {P : Program} {t : TypeId} {x v : AV} (h : rLenX P t x = some v) : (rLen P t x).2 ∧ (rLen P t x).1 = v := by
  unfold rLenX at h
  split at h <;> first | (cases h; done) | skip
  all_goals
    simp only [rLen]
    split at h
    · rename_i hk; cases h; exact ⟨hk, rfl⟩
    · cases h
noncomputable def rBiX (P : Program) (b : Builtin) (ts : List TypeId) (args : List AV) : Option AV :=
  match b, ts, args with
  | .len, [t], [x] => rLenX P t x
  | .max, _, [.lit (.int k x), .lit (.int _ y)] => some (.lit (.int k (if y > x then y else x)))
  | .min, _, [.lit (.int k x), .lit (.int _ y)] => some (.lit (.int k (if y < x then y else x)))
  | _, _, _ => none
theorem rBiX_sound {P : Program} {b : Builtin} {ts : List TypeId} {args : List AV} {v : AV} (h : rBiX P b ts args = some v) : (rBi P b ts args).2 ∧ (rBi P b ts args).1 = v := by
  unfold rBiX at h
  split at h
  · exact rLenX_sound h
  · cases h; exact ⟨trivial, rfl⟩
  · cases h; exact ⟨trivial, rfl⟩
  · cases h
noncomputable def rBuildX (P : Program) (t : TypeId) (parts : List (Nat × AV)) : Option AV :=
  match zeroL P t, bldPl P t with
  | some z, some pl => match fillA pl (z.map .lit) parts with
    | some cs => some (.agg cs)
    | none => none
  | _, _ => none
theorem rBuildX_sound {P : Program} {t : TypeId} {ps : List (Nat × AV)} {v : AV} (h : rBuildX P t ps = some v) : (rBuild P t ps).2 ∧ (rBuild P t ps).1 = v := by
  unfold rBuildX at h
  split at h
  · rename_i z pl e1 e2
    simp only [rBuild, e1, e2]
    cases hf : fillA pl (z.map .lit) ps with
    | none => simp [hf] at h
    | some cs => simp only [hf, Option.some.injEq] at h; exact ⟨trivial, h⟩
  · cases h
noncomputable def rExX (x : AV) (i : Nat) : Option AV :=
  match x with
  | .tup vs => vs[i]?
  | _ => none
theorem rExX_sound {x : AV} {i : Nat} {v : AV} (h : rExX x i = some v) : (rEx x i).2 ∧ (rEx x i).1 = v := by
  unfold rExX at h
  split at h
  · obtain ⟨h1, h2⟩ := List.getElem?_eq_some_iff.1 h
    simp only [rEx]
    exact ⟨h1, by rw [List.getD_eq_getElem?_getD, h]; rfl⟩
  · cases h
noncomputable def loadX (P : Program) (t : TypeId) : Option (List AV) → Option AV
  | some cs => match ldT P t with
    | some none => cs[0]?
    | some (some k) => match Nat.ble k cs.length with
      | true => some (.agg (cs.take k))
      | false => none
    | none => none
  | none => none
theorem loadX_sound {P : Program} {t : TypeId} {o : Option (List AV)} {v : AV} (h : loadX P t o = some v) : (aload P t o).2 ∧ (aload P t o).1 = v := by
  unfold loadX at h
  split at h
  · simp only [aload]
    split at h
    · rename_i e
      simp only [e]
      obtain ⟨h1, h2⟩ := List.getElem?_eq_some_iff.1 h
      exact ⟨h1, by rw [List.getD_eq_getElem?_getD, h]; rfl⟩
    · rename_i e
      simp only [e]
      split at h
      · rename_i hk; cases h; exact ⟨Nat.le_of_ble_eq_true hk, rfl⟩
      · cases h
    · cases h
  · cases h
noncomputable def evPs (env : List (Nat × AV)) : List (Nat × Operand) → Option (List (Nat × AV))
  | [] => some []
  | (i, x) :: xs => match evX env x with
    | some v => match evPs env xs with
      | some vs => some ((i, v) :: vs)
      | none => none
    | none => none
theorem evPs_spec {env : List (Nat × AV)} : ∀ {xs : List (Nat × Operand)} {vs : List (Nat × AV)}, evPs env xs = some vs → (∀ c, uoks c (evA env) (xs.map (·.2))) ∧ (xs.map fun p => (p.1, un (evA env p.2))) = vs
  | [], vs, h => by simp [evPs] at h; subst h; exact ⟨fun _ => trivial, rfl⟩
  | (i, x) :: xs, vs, h => by
    simp only [evPs] at h
    cases h1 : evX env x with
    | none => simp [h1] at h
    | some v =>
      cases h2 : evPs env xs with
      | none => simp [h1, h2] at h
      | some vs' =>
        simp only [h1, h2, Option.some.injEq] at h
        subst h
        have a := evX_spec h1
        have b := evPs_spec h2
        exact ⟨fun c => ⟨a.1 c, b.1 c⟩, by rw [List.map_cons, a.2, b.2]⟩
noncomputable def evO (env : List (Nat × AV)) : Option Operand → Option (Option AV)
  | none => some none
  | some x => match evX env x with
    | some v => some (some v)
    | none => none
theorem evO_spec {env : List (Nat × AV)} {x : Option Operand} {v : Option AV} (h : evO env x = some v) : (∀ c, uoks c (evA env) x.toList) ∧ x.map (fun y => un (evA env y)) = v := by
  cases x with
  | none => simp [evO] at h; subst h; exact ⟨fun _ => trivial, rfl⟩
  | some x =>
    simp only [evO] at h
    cases h1 : evX env x with
    | none => simp [h1] at h
    | some v' =>
      simp only [h1, Option.some.injEq] at h
      subst h
      have a := evX_spec h1
      exact ⟨fun c => ⟨a.1 c, trivial⟩, by simp [a.2]⟩
noncomputable def aLoad (P : Program) (boxes : List (List AV)) (rows : List (Option Row)) (env : List (Nat × AV)) (t : TypeId) (a : Operand) : Option AV := match evX env a with
  | some a => loadX P t (cellsAt boxes rows a)
  | none => none
noncomputable def aBin (P : Program) (env : List (Nat × AV)) (op : BinOp) (t : TypeId) (x y : Operand) : Option AV := match evX env x with
  | some a => match evX env y with
    | some b => rBinY P op t a b
    | none => none
  | none => none
noncomputable def aUn (env : List (Nat × AV)) (op : UnOp) (x : Operand) : Option AV := match evX env x with
  | some a => rUnX op a
  | none => none
noncomputable def aConv (P : Program) (env : List (Nat × AV)) (s d : TypeId) (x : Operand) : Option AV := match evX env x with
  | some a => rConvX P s d a
  | none => none
noncomputable def aFA (P : Program) (env : List (Nat × AV)) (s : TypeId) (x : Operand) (f : Nat) : Option AV := match evX env x with
  | some a => rFAX (fldO P s f) a
  | none => none
noncomputable def aIA (P : Program) (env : List (Nat × AV)) (t : TypeId) (x i : Operand) : Option AV := match evX env x with
  | some a => match evX env i with
    | some b => rIAX P t a b
    | none => none
  | none => none
noncomputable def aBuild (P : Program) (env : List (Nat × AV)) (t : TypeId) (parts : Array (Nat × Operand)) : Option AV := match evPs env parts.toList with
  | some ps => rBuildX P t ps
  | none => none
noncomputable def aSl (P : Program) (env : List (Nat × AV)) (t : TypeId) (x : Operand) (lo hi mx : Option Operand) : Option AV := match evX env x, evO env lo, evO env hi, evO env mx with
  | some a, some l, some h, some m => rSlX P t a l h m
  | _, _, _, _ => none
noncomputable def aEx (env : List (Nat × AV)) (x : Operand) (i : Nat) : Option AV := match evX env x with
  | some a => rExX a i
  | none => none
noncomputable def aBi (P : Program) (env : List (Nat × AV)) (c : Call) : Option AV := match c.callee with
  | .builtin b => match evXs env c.args.toList with
    | some vs => rBiX P b c.argTypes.toList vs
    | none => none
  | _ => none
noncomputable def aFn (env : List (Nat × AV)) (fn : Fn) (f c : Array Operand) : Option AV := match c.size, f.size with
  | 0, 0 => some (.lit (.func fn #[] #[]))
  | _, 0 => match fn with
    | .func g => match evXs env c.toList with
      | some vs => some (.fn g vs)
      | none => none
    | _ => none
  | _, _ => none
/-- what is yielded by an operation that leaves memory alone, not a choice and no call of a function -/
noncomputable def aresX (P : Program) (boxes : List (List AV)) (rows : List (Option Row)) (env : List (Nat × AV)) (op : Op) : Option AV :=
  match op with
  | .move x => evX env x
  | .assign x => evX env x
  | .load t a => aLoad P boxes rows env t a
  | .binOp op t x y _ => aBin P env op t x y
  | .unOp op _ x => aUn env op x
  | .convert s d x => aConv P env s d x
  | .fieldAddr s x f => aFA P env s x f
  | .indexAddr t x i => aIA P env t x i
  | .build t parts => aBuild P env t parts
  | .slice t x lo hi mx => aSl P env t x lo hi mx
  | .extract x i => aEx env x i
  | .call c => aBi P env c
  | .makeFunc fn f c => aFn env fn f c
  | _ => none
theorem aresX_sound {P : Program} {boxes : List (List AV)} {rows : List (Option Row)} {env : List (Nat × AV)} {op : Op} {v : AV} (h : aresX P boxes rows env op = some v) :
    (∀ c, uoks c (evA env) op.operands.toList) ∧ (ares P boxes rows (fun x => un (evA env x)) op).2 ∧ (ares P boxes rows (fun x => un (evA env x)) op).1 = v := by
  have one : ∀ {x : Operand} {a : AV}, evX env x = some a → (∀ c, uok c (evA env x)) ∧ un (evA env x) = a := fun h => evX_spec h
  unfold aresX at h
  split at h
  · obtain ⟨a1, a2⟩ := one h
    exact ⟨fun c => ⟨a1 c, trivial⟩, trivial, a2⟩
  · obtain ⟨a1, a2⟩ := one h
    exact ⟨fun c => ⟨a1 c, trivial⟩, trivial, a2⟩
  · unfold aLoad at h
    split at h
    · rename_i e; obtain ⟨a1, a2⟩ := one e
      simp only [ares, a2]
      exact ⟨fun c => ⟨a1 c, trivial⟩, loadX_sound h⟩
    · cases h
  · unfold aBin at h
    split at h
    · rename_i e; obtain ⟨a1, a2⟩ := one e
      split at h
      · rename_i e2; obtain ⟨b1, b2⟩ := one e2
        simp only [ares, a2, b2]
        exact ⟨fun c => ⟨a1 c, b1 c, trivial⟩, rBinY_sound h⟩
      · cases h
    · cases h
  · unfold aUn at h
    split at h
    · rename_i e; obtain ⟨a1, a2⟩ := one e
      simp only [ares, a2]
      exact ⟨fun c => ⟨a1 c, trivial⟩, rUnX_sound h⟩
    · cases h
  · unfold aConv at h
    split at h
    · rename_i e; obtain ⟨a1, a2⟩ := one e
      simp only [ares, a2]
      exact ⟨fun c => ⟨a1 c, trivial⟩, rConvX_sound h⟩
    · cases h
  · unfold aFA at h
    split at h
    · rename_i e; obtain ⟨a1, a2⟩ := one e
      simp only [ares, a2]
      exact ⟨fun c => ⟨a1 c, trivial⟩, rFAX_sound h⟩
    · cases h
  · unfold aIA at h
    split at h
    · rename_i e; obtain ⟨a1, a2⟩ := one e
      split at h
      · rename_i e2; obtain ⟨b1, b2⟩ := one e2
        simp only [ares, a2, b2]
        exact ⟨fun c => ⟨a1 c, b1 c, trivial⟩, rIAX_sound h⟩
      · cases h
    · cases h
  · unfold aBuild at h
    split at h
    · rename_i e
      obtain ⟨a1, a2⟩ := evPs_spec e
      simp only [ares, a2]
      exact ⟨fun c => by simpa [Op.operands] using a1 c, rBuildX_sound h⟩
    · cases h
  · unfold aSl at h
    split at h
    · rename_i e1 e2 e3 e4
      obtain ⟨a1, a2⟩ := one e1
      obtain ⟨b1, b2⟩ := evO_spec e2
      obtain ⟨c1, c2⟩ := evO_spec e3
      obtain ⟨d1, d2⟩ := evO_spec e4
      simp only [ares, a2]
      have mp : ∀ y : Option Operand, Option.map (fun x => un (evA env x)) y = y.map fun y => un (evA env y) := fun _ => rfl
      rw [b2, c2, d2]
      refine ⟨fun c => ?_, rSlX_sound h⟩
      have app : ∀ (l m : List Operand), uoks c (evA env) l → uoks c (evA env) m → uoks c (evA env) (l ++ m) := by
        intro l m hl hm
        induction l with
        | nil => exact hm
        | cons x l ih => exact ⟨hl.1, ih hl.2⟩
      have ot : ∀ (y : Option Operand), y.toArray.toList = y.toList := fun y => by cases y <;> rfl
      simp only [Op.operands, Array.toList_append, ot]
      exact app _ _ (app _ _ (app _ _ ⟨a1 c, trivial⟩ (b1 c)) (c1 c)) (d1 c)
    · cases h
  · unfold aEx at h
    split at h
    · rename_i e; obtain ⟨a1, a2⟩ := one e
      simp only [ares, a2]
      exact ⟨fun c => ⟨a1 c, trivial⟩, rExX_sound h⟩
    · cases h
  · unfold aBi at h
    split at h
    · rename_i e0
      split at h
      · rename_i e
        obtain ⟨a1, a2⟩ := evXs_spec e
        simp only [ares, e0, a2]
        exact ⟨fun c => by simpa [Op.operands, Call.operands, e0] using a1 c, rBiX_sound h⟩
      · cases h
    · cases h
  · rename_i fn f c
    unfold aFn at h
    split at h
    · rename_i hc hf
      cases h
      have hc' := Array.eq_empty_of_size_eq_zero hc
      have hf' := Array.eq_empty_of_size_eq_zero hf
      subst hc'; subst hf'
      exact ⟨fun _ => trivial, trivial, rfl⟩
    · rename_i hf hc
      have hf' := Array.eq_empty_of_size_eq_zero hf
      subst hf'
      split at h
      · split at h
        · rename_i e
          obtain ⟨a1, a2⟩ := evXs_spec e
          cases h
          simp only [ares]
          refine ⟨fun c' => by simpa [Op.operands] using a1 c', ?_⟩
          split
          · rename_i h0 h1; exact absurd h0 hc
          · exact ⟨trivial, by rw [a2]⟩
          · rename_i h0 h1 h2; exact absurd h1 (by simp)
        · cases h
      · cases h
    · cases h
  · cases h
end Go.AL

namespace Go.AL
open Go.RowKit
set_option linter.unusedSimpArgs false
set_option linter.unusedVariables false

section run
variable {R : Type}
variable {P : Program}

noncomputable def pureF (P : Program) (call : FuncId → List AV → Option AV) (boxes : List (List AV)) (rows : List (Option Row)) (env : List (Nat × AV)) (op : Op) (k : AV → Option R) : Option R :=
  match op with
  | .pick x y z => match evX env x with
    | some (.lit (.bool true)) => match evX env y with
      | some (.lit (.bool b)) => k (.lit (.bool b))
      | _ => none
    | some (.lit (.bool false)) => match evX env z with
      | some (.lit (.bool b)) => k (.lit (.bool b))
      | _ => none
    | _ => none
  | .call ⟨.value f, args, _⟩ => match evX env f with
    | some fv => match fnOf fv with
      | some g => match evXs env args.toList with
        | some vs => lendFL boxes rows vs fun ls => lendFL boxes rows g.2 fun cs => match call g.1 (ls ++ cs) with
          | some r => match r.scalar || (noOwnL vs && noOwnL g.2) with
            | true => k r
            | false => none
          | none => none
        | none => none
      | none => none
    | none => none
  | op => match aresX P boxes rows env op with
    | some v => k v
    | none => none

theorem pureF_sound {call : FuncId → List AV → Option AV} (hcall : ∀ g args r, call g args = some r → ACall P g args r) {boxes : List (List AV)} {rows : List (Option Row)} {env : List (Nat × AV)} {op : Op} {k : AV → Option R} {r : R}
    (h : pureF P call boxes rows env op k = some r) : ∃ v, k v = some r ∧ ∀ K : AV → Prop, K v → apureE P boxes rows (evA env) true op K := by
  unfold pureF at h
  split at h
  · rename_i x y z
    split at h
    · rename_i e1
      obtain ⟨a1, a2⟩ := evX_spec e1
      split at h
      · rename_i b e2
        obtain ⟨b1, b2⟩ := evX_spec e2
        refine ⟨_, h, fun K hK => ?_⟩
        simp only [apureE, a2, b2, isB, boolD]
        exact ⟨a1 _, b1 _, (by cases hz : evA env z <;> simp [uok]), fun _ _ => trivial, fun _ h => (by cases h), hK⟩
      · cases h
    · rename_i e1
      obtain ⟨a1, a2⟩ := evX_spec e1
      split at h
      · rename_i b e2
        obtain ⟨b1, b2⟩ := evX_spec e2
        refine ⟨_, h, fun K hK => ?_⟩
        simp only [apureE, a2, b2, isB, boolD]
        exact ⟨a1 _, (by cases hz : evA env y <;> simp [uok]), b1 _, fun _ h => (by cases h), fun _ _ => trivial, hK⟩
      · cases h
    · cases h
  · rename_i f args tys
    split at h
    · rename_i fv e1
      obtain ⟨a1, a2⟩ := evX_spec e1
      split at h
      · rename_i g e2
        split at h
        · rename_i vs e3
          obtain ⟨b1, b2⟩ := evXs_spec e3
          simp only [lendFL_eq] at h
          split at h
          · rename_i r' e4
            split at h
            · rename_i e5
              refine ⟨_, h, fun K hK => ?_⟩
              simp only [apureE, a2, e2]
              refine ⟨a1 _, b1 _, r', fun _ => ?_, by rw [b2]; exact e5, hK⟩
              have := hcall _ _ _ e4
              rw [← b2, List.map_map] at this
              exact this
            · cases h
          · cases h
        · cases h
      · cases h
    · cases h
  · rename_i h1 h2
    split at h
    · rename_i v e1
      obtain ⟨a1, a2, a3⟩ := aresX_sound e1
      refine ⟨_, h, fun K hK => ?_⟩
      unfold apureE
      split
      · exact absurd rfl (h1 _ _ _)
      · exact absurd rfl (h2 _ _ _)
      · exact ⟨a1 _, fun _ => a2, by rw [a3]; exact hK⟩
    · cases h

noncomputable def sAlloc (P : Program) (E : List (Nat × AV)) (B : List (List AV)) (W : List (Option Row)) (t : TypeId) (k : AV → ASt → Option R) : Option R :=
  match zeroL P t with
    | some z => match z.all fun v => v.oneCell' with
      | true => frcL (z.map .lit) fun cs => snocF B cs fun bs => k (.bp B.length 0) ⟨E, bs, W⟩
      | false => none
    | none => none

noncomputable def sBox (P : Program) (E : List (Nat × AV)) (B : List (List AV)) (W : List (Option Row)) (t : TypeId) (x : Operand) (k : AV → ASt → Option R) : Option R :=
  match evX E x with
    | some v => match acells v with
      | some cs => match cs.all AV.one with
        | true => snocF B cs fun bs => k (.bp B.length 0) ⟨E, bs, W⟩
        | false => none
      | none => none
    | none => none

noncomputable def sStore (P : Program) (E : List (Nat × AV)) (B : List (List AV)) (W : List (Option Row)) (t : TypeId) (p x : Operand) (k : AV → ASt → Option R) : Option R :=
  match evX E x, evX E p with
    | some v, some pv => match acells v with
      | some cs => match decide (szT P t = some cs.length) && cs.all AV.one with
        | true => match pv with
          | .bp b off => match B[b]? with
            | some old => match Nat.ble (off + cs.length) old.length with
              | true => frcL (splice old off cs) fun cs' => setF B b cs' fun bs => k .any ⟨E, bs, W⟩
              | false => none
            | none => none
          | .rp r sz i f => match getRow W r sz with
            | some ⟨rt, rz, re⟩ => match Nat.ble (i + 1) re.length && Nat.ble (f + cs.length) sz && cs.all AV.cl with
              | true => frcL (splice (re.getD i []) f cs) fun e => setF re i e fun es => setF W r (some ⟨rt, rz, es⟩) fun rs => k .any ⟨E, B, rs⟩
              | false => none
            | none => none
          | _ => none
        | false => none
      | none => none
    | _, _ => none

noncomputable def sBuildS (P : Program) (E : List (Nat × AV)) (B : List (List AV)) (W : List (Option Row)) (t : TypeId) (len : Nat) (parts : Array (Nat × Operand)) (k : AV → ASt → Option R) : Option R :=
  match apT P t with
    | some q => match evPs E parts.toList with
      | some ps => match partsA q.2.1 0 ps with
        | some xs => match Nat.beq xs.length len && Nat.ble (len * q.2.1) 16777216 with
          | true => frcN q.1 fun q1 => frcN q.2.1 fun q2 => frcLL xs fun xs => snocF W (some ⟨q1, q2, xs⟩) fun rs => k (.own W.length q2 0 len) ⟨E, B, rs⟩
          | false => none
        | none => none
      | none => none
    | none => none

noncomputable def sMakeS (P : Program) (E : List (Nat × AV)) (B : List (List AV)) (W : List (Option Row)) (t : TypeId) (n c : Operand) (k : AV → ASt → Option R) : Option R :=
  match apT P t with
    | some q => match zeroL P q.1, evA E n, evA E c with
      | some z, .lit (.int _ m), .lit (.int _ m') => match decide (m = m') && decide (0 ≤ m) && decide (m * q.2.2 ≤ 140737488355328) && z.all fun v => v.oneCell' with
        | true => frcN q.1 fun q1 => frcN q.2.1 fun q2 => frcLL (List.replicate m.toNat (z.map .lit)) fun xs => snocF W (some ⟨q1, q2, xs⟩) fun rs => k (.own W.length q2 0 m.toNat) ⟨E, B, rs⟩
        | false => none
      | _, _, _ => none
    | none => none

noncomputable def sAppend (P : Program) (E : List (Nat × AV)) (B : List (List AV)) (W : List (Option Row)) (args : Array Operand) (ts : Array TypeId) (k : AV → ASt → Option R) : Option R :=
  match args.toList, ts.toList with
    | [s, x], [t, t'] => match Nat.beq t t', evX E s, evX E x, apT P t with
      | true, some sv, some xv, some q => match elemsOf W xv with
        | some y => match Nat.beq y.1 q.2.1 || y.2.isEmpty with
          | true => match sv with
            | .own r sz off len => match getRow W r sz with
              | some ⟨rt, rz, re⟩ => match Nat.beq off 0 && Nat.beq sz q.2.1 && Nat.beq rt q.1 && Nat.ble ((len + y.2.length) * q.2.2) 140737488355328 with
                | true => killF r E fun e => killBF r B fun B' => frcLL (re.take len ++ y.2) fun es => setF W r (some ⟨rt, rz, es⟩) fun rs => k (.own r sz 0 (len + y.2.length)) ⟨e, B', rs⟩
                | false => none
              | none => none
            | .lit (.slice none 0 0) => match Nat.ble (y.2.length * q.2.2) 140737488355328 with
              | true => frcN q.1 fun q1 => frcN q.2.1 fun q2 => frcLL y.2 fun es => snocF W (some ⟨q1, q2, es⟩) fun rs => k (.own W.length q2 0 y.2.length) ⟨E, B, rs⟩
              | false => none
            | _ => none
          | false => none
        | none => none
      | _, _, _, _ => none
    | _, _ => none

noncomputable def astepF (P : Program) (call : FuncId → List AV → Option AV) (st : ASt) (op : Op) (k : AV → ASt → Option R) : Option R :=
  match st with
  | ⟨E, B, W⟩ => match op with
  | .alloc t => sAlloc P E B W t k
  | .box t x => sBox P E B W t x k
  | .store t p x => sStore P E B W t p x k
  | .buildSlice t len parts => sBuildS P E B W t len parts k
  | .makeSlice t n c => sMakeS P E B W t n c k
  | .call ⟨.builtin .append, args, ts⟩ => sAppend P E B W args ts k
  | op => pureF P call B W E op fun v => k v ⟨E, B, W⟩

theorem astepF_sound {call : FuncId → List AV → Option AV} (hcall : ∀ g args r, call g args = some r → ACall P g args r) {st : ASt} {op : Op} {k : AV → ASt → Option R} {r : R}
    (h : astepF P call st op k = some r) : ∃ v st', k v st' = some r ∧ ∀ K : AV → ASt → Prop, K v st' → astep P st op K := by
  obtain ⟨E, B, W⟩ := st
  unfold astepF at h
  simp only at h
  split at h
  · unfold sAlloc at h
    split at h
    · rename_i z e
      split at h
      · rename_i e2
        simp only [frcL_eq, snocF_eq] at h
        refine ⟨_, _, h, fun K hK => ?_⟩
        simp only [astep, e]
        exact ⟨e2, hK⟩
      · cases h
    · cases h
  · unfold sBox at h
    split at h
    · rename_i v e
      obtain ⟨a1, a2⟩ := evX_spec e
      split at h
      · rename_i cs e2
        split at h
        · rename_i e3
          simp only [frcL_eq, snocF_eq] at h
          refine ⟨_, _, h, fun K hK => ?_⟩
          simp only [astep, a2, e2]
          exact ⟨a1 _, e3, hK⟩
        · cases h
      · cases h
    · cases h
  · unfold sStore at h
    split at h
    · rename_i v pv e e'
      obtain ⟨a1, a2⟩ := evX_spec e
      obtain ⟨b1, b2⟩ := evX_spec e'
      split at h
      · rename_i cs e2
        split at h
        · rename_i e3
          simp only [Bool.and_eq_true, decide_eq_true_eq] at e3
          split at h
          · rename_i b off
            split at h
            · rename_i old e4
              split at h
              · rename_i e5
                simp only [frcL_eq, setF_eq] at h
                refine ⟨_, _, h, fun K hK => ?_⟩
                simp only [astep, a2, b2, e2, e4]
                exact ⟨a1 _, b1 _, e3.1, e3.2, Nat.le_of_ble_eq_true e5, hK⟩
              · cases h
            · cases h
          · rename_i r0 sz i f
            split at h
            · rename_i rw_ e4
              split at h
              · rename_i e5
                simp only [Bool.and_eq_true] at e5
                simp only [frcL_eq, setF_eq] at h
                refine ⟨_, _, h, fun K hK => ?_⟩
                simp only [astep, a2, b2, e2, e4]
                exact ⟨a1 _, b1 _, e3.1, e3.2, Nat.le_of_ble_eq_true e5.1.1, Nat.le_of_ble_eq_true e5.1.2, e5.2, hK⟩
              · cases h
            · cases h
          · cases h
        · cases h
      · cases h
    · cases h
  · unfold sBuildS at h
    split at h
    · rename_i q e
      split at h
      · rename_i ps e1
        obtain ⟨a1, a2⟩ := evPs_spec e1
        split at h
        · rename_i xs e2
          split at h
          · rename_i e3
            simp only [Bool.and_eq_true] at e3
            simp only [frcLL_eq, frcN_eq, snocF_eq] at h
            refine ⟨_, _, h, fun K hK => ?_⟩
            simp only [astep, e, a2, e2]
            exact ⟨a1 _, Nat.eq_of_beq_eq_true e3.1, Nat.le_of_ble_eq_true e3.2, hK⟩
          · cases h
        · cases h
      · cases h
    · cases h
  · unfold sMakeS at h
    split at h
    · rename_i q e
      split at h
      · rename_i z k1 m k2 m' e1 e2 e3
        split at h
        · rename_i e4
          simp only [Bool.and_eq_true, decide_eq_true_eq, and_assoc] at e4
          simp only [frcLL_eq, frcN_eq, snocF_eq] at h
          refine ⟨_, _, h, fun K hK => ?_⟩
          simp only [astep, e, e1, e2, e3]
          exact ⟨e4.1, e4.2.1, e4.2.2.1, e4.2.2.2, hK⟩
        · cases h
      · cases h
    · cases h
  · rename_i args ts
    unfold sAppend at h
    split at h
    · rename_i s x t t' ea et
      split at h
      · rename_i sv xv q e0 e1 e2 e3
        obtain ⟨a1, a2⟩ := evX_spec e1
        obtain ⟨b1, b2⟩ := evX_spec e2
        split at h
        · rename_i y e4
          split at h
          · rename_i e5
            have e5' : y.1 = q.2.1 ∨ y.2 = [] := by
              rcases Bool.or_eq_true_iff.1 e5 with h | h
              · exact .inl (Nat.eq_of_beq_eq_true h)
              · exact .inr (List.isEmpty_iff.1 h)
            split at h
            · rename_i r0 sz off len
              split at h
              · rename_i rw_ e6
                split at h
                · rename_i e7
                  simp only [Bool.and_eq_true, and_assoc] at e7
                  simp only [killF_eq, killBF_eq, frcLL_eq, setF_eq] at h
                  refine ⟨_, _, h, fun K hK => ?_⟩
                  simp only [astep, ea, et, e3, b2, e4, a2, e6]
                  exact ⟨Nat.eq_of_beq_eq_true e0, a1 _, b1 _, e5', Nat.eq_of_beq_eq_true e7.1, Nat.eq_of_beq_eq_true e7.2.1, Nat.eq_of_beq_eq_true e7.2.2.1, Nat.le_of_ble_eq_true e7.2.2.2, hK⟩
                · cases h
              · cases h
            · split at h
              · rename_i e7
                simp only [frcLL_eq, frcN_eq, snocF_eq] at h
                refine ⟨_, _, h, fun K hK => ?_⟩
                simp only [astep, ea, et, e3, b2, e4, a2]
                exact ⟨Nat.eq_of_beq_eq_true e0, a1 _, b1 _, e5', Nat.le_of_ble_eq_true e7, hK⟩
              · cases h
            · cases h
          · cases h
        · cases h
      · cases h
    · cases h
  · rename_i h1 h2 h3 h4 h5 h6
    obtain ⟨v, e1, e2⟩ := pureF_sound hcall h
    refine ⟨v, _, e1, fun K hK => ?_⟩
    unfold astep
    split
    · exact absurd rfl (h1 _)
    · exact absurd rfl (h2 _ _)
    · exact absurd rfl (h3 _ _ _)
    · exact absurd rfl (h4 _ _ _)
    · exact absurd rfl (h5 _ _ _)
    · exact absurd rfl (h6 _ _)
    · exact e2 _ hK

noncomputable def giveF (o : Option AV) (k : AV → Option R) : Option R := match o with
  | some v => k v
  | none => none
/-- the same, with the common operations at once -/
noncomputable def fastF (P : Program) (call : FuncId → List AV → Option AV) (st : ASt) (op : Op) (k : AV → ASt → Option R) : Option R :=
  match st with
  | ⟨E, B, W⟩ => match op with
    | .move x => giveF (evX E x) fun v => k v ⟨E, B, W⟩
    | .assign x => giveF (evX E x) fun v => k v ⟨E, B, W⟩
    | .load t a => giveF (aLoad P B W E t a) fun v => k v ⟨E, B, W⟩
    | .binOp op t x y _ => giveF (aBin P E op t x y) fun v => k v ⟨E, B, W⟩
    | .convert s d x => giveF (aConv P E s d x) fun v => k v ⟨E, B, W⟩
    | .fieldAddr s x f => giveF (aFA P E s x f) fun v => k v ⟨E, B, W⟩
    | .indexAddr t x i => giveF (aIA P E t x i) fun v => k v ⟨E, B, W⟩
    | .build t parts => giveF (aBuild P E t parts) fun v => k v ⟨E, B, W⟩
    | .extract x i => giveF (aEx E x i) fun v => k v ⟨E, B, W⟩
    | .box t x => sBox P E B W t x k
    | .store t p x => sStore P E B W t p x k
    | op => astepF P call ⟨E, B, W⟩ op k
theorem fastF_eq (P : Program) (call : FuncId → List AV → Option AV) (st : ASt) (op : Op) (k : AV → ASt → Option R) : fastF P call st op k = astepF P call st op k := by
  obtain ⟨E, B, W⟩ := st
  cases op <;> rfl

/-! which results are scalar (a guess alone: nothing leans on it) -/
noncomputable def scT (P : Program) : Nat → TypeId → Bool
  | 0, _ => false
  | d + 1, t => match P.underlying t with
    | some .bool => true
    | some (.int _) => true
    | some .string => true
    | some (.struct fs) => fs.toList.all fun f => scT P d f.type
    | some (.array _ e) => scT P d e
    | _ => false
noncomputable def scF (P : Program) (g : FuncId) : Bool := match P.funcs[g]? with
  | some fn => fn.resultTypes.toList.all (scT P 6)
  | none => false
mutual
noncomputable def AV.rowsOf : AV → List Nat
  | .own r _ _ _ => [r]
  | .rp r _ _ _ => [r]
  | .agg cs => rowsOfL cs
  | .tup cs => rowsOfL cs
  | .fn _ cs => rowsOfL cs
  | .opt _ _ => []
  | .lit _ => []
  | .any => []
  | .ro _ _ => []
  | .rop _ => []
  | .bp _ _ => []
noncomputable def rowsOfL : List AV → List Nat
  | [] => []
  | c :: cs => AV.rowsOf c ++ rowsOfL cs
end
noncomputable def frcNL : List Nat → (List Nat → R) → R
  | [], k => k []
  | n :: ns, k => frcN n fun n => frcNL ns fun ns => k (n :: ns)
theorem frcNL_eq : ∀ (l : List Nat) (k : List Nat → R), frcNL l k = k l
  | [], k => rfl
  | n :: ns, k => by simp only [frcNL, frcN_eq, frcNL_eq ns]
/-- what the calls come to: contracts at hand; calls that hand on; results alone; results with the rows that are the caller's own from then on -/
structure Calling where
  X : FuncId → List AV → Option AV
  C : FuncId → List AV → Option AV
  N : FuncId → List AV → Option (AV × List (Option Row))
structure Calling.Sound (cl : Calling) (P : Program) : Prop where
  x : ∀ g args r, cl.X g args = some r → ACallX P g args r
  c : ∀ g args r, cl.C g args = some r → ACall P g args r
  n : ∀ g args r, cl.N g args = some r → ACallN P g args r.1 r.2
/-- a call that is not guarded -/
noncomputable def callF (P : Program) (c : Calling) (st : ASt) (dst : Option Nat) (f : Operand) (args : List Operand) (k : ASt → Option R) (other : Option R) : Option R :=
  match evX st.env f with
  | some fv => match fnOf fv with
    | some g => match evXs st.env args with
      | some vs => match c.X g.1 (vs ++ g.2) with
        | some r => putF st dst r k
        | none => match scF P g.1 with
          | true => other
          | false => frcNL ((List.range st.rows.length).filter fun j => !(kpX (rowsOfL vs ++ rowsOfL g.2) j)) fun keep => freezeF keep st fun st1 => match evX st1.env f with
            | some fv => match fnOf fv with
              | some g => match evXs st1.env args with
                | some vs => match noOwnL vs && noOwnL g.2 with
                  | true => lendFL st1.boxes st1.rows vs fun ls => lendFL st1.boxes st1.rows g.2 fun cs => match c.N g.1 (ls ++ cs) with
                    | some r => match st1 with
                      | ⟨E, B, W⟩ => frcA (r.1.shift W.length) fun v => appF W r.2 fun W' => putF ⟨E, B, W'⟩ dst v k
                    | none => none
                  | false => none
                | none => none
              | none => none
            | none => none
      | none => none
    | none => none
  | none => none
noncomputable def isCall : Op → Option (Operand × List Operand)
  | .call ⟨.value f, args, _⟩ => some (f, args.toList)
  | _ => none
theorem isCall_spec {op : Op} {f : Operand} {l : List Operand} (h : isCall op = some (f, l)) : ∃ args ts, op = .call ⟨.value f, args, ts⟩ ∧ args.toList = l := by
  unfold isCall at h
  split at h
  · cases h; exact ⟨_, _, rfl, rfl⟩
  · cases h
theorem callF_sound {c : Calling} (hc : c.Sound P) {n : Nat} {st : ASt} {o : Oper} {f : Operand} {l : List Operand} (ho : isCall o.op = some (f, l)) (hg : o.guard = none) (hd : dok n o.dst) {k : ASt → Option R} {other : Option R} {r : R}
    (h : callF P c st o.dst f l k other = some r) : other = some r ∨ ∃ st1 st', (st1 = st ∨ ∃ keep, st1 = st.freeze keep) ∧ k st' = some r ∧ ((∀ K : ASt → Prop, K st' → aopX P n o st1 K) ∨ (∀ K : ASt → Prop, K st' → aopN P n o st1 K)) := by
  obtain ⟨args, ts, hop, rfl⟩ := isCall_spec ho
  unfold callF at h
  split at h
  · rename_i fv e1
    obtain ⟨a1, a2⟩ := evX_spec e1
    split at h
    · rename_i g e2
      split at h
      · rename_i vs e3
        obtain ⟨b1, b2⟩ := evXs_spec e3
        split at h
        · rename_i r' e4
          rw [putF_eq] at h
          refine .inr ⟨st, _, .inl rfl, h, .inl fun K hK => ⟨hd, hg, ?_⟩⟩
          simp only [hop, a2, e2]
          have := hc.x _ _ _ e4
          rw [← b2] at this
          exact ⟨a1 _, b1 _, r', this, hK⟩
        · split at h
          · exact .inl h
          · simp only [frcNL_eq, freezeF_eq] at h
            generalize (List.filter _ _) = keep at h
            refine .inr ⟨st.freeze keep, ?_⟩
            split at h
            · rename_i fv' e5
              obtain ⟨c1, c2⟩ := evX_spec e5
              split at h
              · rename_i g' e6
                split at h
                · rename_i vs' e7
                  obtain ⟨d1, d2⟩ := evXs_spec e7
                  split at h
                  · rename_i e8
                    simp only [lendFL_eq, frcA_eq, putF_eq, appF_eq] at h
                    split at h
                    · rename_i r' e9
                      refine ⟨_, .inr ⟨_, rfl⟩, h, .inr fun K hK => ⟨hd, hg, ?_⟩⟩
                      simp only [hop, c2, e6]
                      have := hc.n _ _ _ e9
                      rw [← d2, List.map_map] at this
                      exact ⟨c1 _, d1 _, r'.1, r'.2, this, by rw [d2]; exact e8, hK⟩
                    · cases h
                  · cases h
                · cases h
              · cases h
            · cases h
      · cases h
    · cases h
  · cases h

/-- rows that are laid into others are frozen first -/
noncomputable def laidRows (E : List (Nat × AV)) (op : Op) : List Nat := match op with
  | .buildSlice _ _ parts => match evPs E parts.toList with
    | some ps => rowsOfL (ps.map (·.2))
    | none => []
  | .store _ p x => match evX E p with
    | some (.rp _ _ _ _) => match evX E x with
      | some v => v.rowsOf
      | none => []
    | _ => []
  | _ => []
noncomputable def preFz (used : List Nat) (st : ASt) (k : ASt → Option R) : Option R := match used with
  | [] => k st
  | u :: us => frcNL (u :: us) fun used => frcNL ((List.range st.rows.length).filter fun j => !(kpX used j)) fun keep => freezeF keep st k
theorem preFz_sound {used : List Nat} {st : ASt} {k : ASt → Option R} {r : R} (h : preFz used st k = some r) : ∃ st1, (st1 = st ∨ ∃ keep, st1 = st.freeze keep) ∧ k st1 = some r := by
  unfold preFz at h
  split at h
  · exact ⟨st, .inl rfl, h⟩
  · simp only [frcNL_eq, freezeF_eq] at h
    exact ⟨_, .inr ⟨_, rfl⟩, h⟩
noncomputable def dokX (n : Nat) : Option Nat → Bool
  | none => true
  | some d => Nat.ble (d + 1) n
theorem dokX_spec {n : Nat} {d : Option Nat} (h : dokX n d = true) : dok n d := by
  cases d with
  | none => trivial
  | some d => exact Nat.le_of_ble_eq_true h
noncomputable def xop (P : Program) (c : Calling) (n : Nat) (gs : Nat → Option Nat) (o : Oper) (st : ASt) (k : ASt → Option R) : Option R :=
  match dokX n o.dst with
  | false => none
  | true => match o.guard with
    | none => match isCall o.op with
      | some p => callF P c st o.dst p.1 p.2 k (fastF P c.C st o.op fun v st' => putF st' o.dst v k)
      | none => preFz (laidRows st.env o.op) st fun st => fastF P c.C st o.op fun v st' => putF st' o.dst v k
    | some (j, want) => match gs j with
      | some g => match gcond want (egetX st.env g) with
        | some true => preFz (laidRows st.env o.op) st fun st1 => match gcond want (egetX st1.env g) with
          | some true => fastF P c.C st1 o.op fun v st' => putF st' o.dst (.opt true v) k
          | _ => none
        | some false => putF st o.dst (.opt false (.lit (.bool false))) k
        | none => none
      | none => none
theorem xop_sound {c : Calling} (hc : c.Sound P) {n : Nat} {gs : Nat → Option Nat} {o : Oper} {st : ASt} {k : ASt → Option R} {r : R}
    (h : xop P c n gs o st k = some r) : ∃ st1 st', (st1 = st ∨ ∃ keep, st1 = st.freeze keep) ∧ k st' = some r ∧
      ((∀ K : ASt → Prop, K st' → aop P n gs o st1 K) ∨ (∀ K : ASt → Prop, K st' → aopN P n o st1 K) ∨ (∀ K : ASt → Prop, K st' → aopX P n o st1 K) ∨ (∀ K : ASt → Prop, K st' → aopG P n gs o st1 K)) := by
  have hcall := hc.c
  unfold xop at h
  split at h
  · cases h
  · rename_i hd
    have hd := dokX_spec hd
    split at h
    · rename_i hg
      have plain : (fastF P c.C st o.op fun v st' => putF st' o.dst v k) = some r → ∃ st1 st', (st1 = st ∨ ∃ keep, st1 = st.freeze keep) ∧ k st' = some r ∧
          ((∀ K : ASt → Prop, K st' → aop P n gs o st1 K) ∨ (∀ K : ASt → Prop, K st' → aopN P n o st1 K) ∨ (∀ K : ASt → Prop, K st' → aopX P n o st1 K) ∨ (∀ K : ASt → Prop, K st' → aopG P n gs o st1 K)) := by
        intro h
        rw [fastF_eq] at h
        obtain ⟨v, st', h, e2⟩ := astepF_sound hcall h
        rw [putF_eq] at h
        refine ⟨st, _, .inl rfl, h, .inl fun K hK => ⟨hd, ?_⟩⟩
        simp only [hg]
        exact e2 _ hK
      split at h
      · rename_i p hp
        rcases callF_sound hc hp hg hd h with h | ⟨st1, st', h1, h2, h3⟩
        · exact plain h
        · exact ⟨st1, st', h1, h2, h3.elim (fun h => .inr (.inr (.inl h))) (fun h => .inr (.inl h))⟩
      · obtain ⟨st1, hst1, h⟩ := preFz_sound h
        rw [fastF_eq] at h
        obtain ⟨v, st', h, e2⟩ := astepF_sound hcall h
        rw [putF_eq] at h
        refine ⟨st1, _, hst1, h, .inl fun K hK => ⟨hd, ?_⟩⟩
        simp only [hg]
        exact e2 _ hK
    · rename_i j want hg
      split at h
      · rename_i g e0
        simp only [egetX_eq] at h
        split at h
        · obtain ⟨st1, hst1, h⟩ := preFz_sound h
          split at h
          · rename_i e1
            rw [fastF_eq] at h
            obtain ⟨v, st', h, e2⟩ := astepF_sound hcall h
            rw [putF_eq] at h
            refine ⟨st1, _, hst1, h, .inr (.inr (.inr fun K hK => ⟨hd, ?_⟩))⟩
            simp only [hg, e0]
            exact .inr ⟨e1, e2 _ hK⟩
          · cases h
        · rename_i e1
          rw [putF_eq] at h
          refine ⟨st, _, .inl rfl, h, .inr (.inr (.inr fun K hK => ⟨hd, ?_⟩))⟩
          simp only [hg, e0]
          exact .inl ⟨e1, hK⟩
        · cases h
      · cases h
noncomputable def xops (P : Program) (c : Calling) (n : Nat) (gs : Nat → Option Nat) : List Oper → List (List Nat) → ASt → (ASt → Option R) → Option R
  | [], _, st, k => k st
  | o :: os, d :: dd, st, k => xop P c n gs o st fun st' => dropSF d st' fun st' => xops P c n gs os dd st' k
  | o :: os, [], st, k => xop P c n gs o st fun st' => xops P c n gs os [] st' k
theorem xops_sound {c : Calling} (hc : c.Sound P) {n : Nat} {gs : Nat → Option Nat} : ∀ {l : List Oper} {dd : List (List Nat)} {st : ASt} {k : ASt → Option R} {r : R},
    xops P c n gs l dd st k = some r → ∃ dd' st', k st' = some r ∧ ∀ K : ASt → Prop, K st' → aops P n gs l dd' st K
  | [], dd, st, k, r, h => ⟨[], st, h, fun K hK => hK⟩
  | o :: os, d :: dd, st, k, r, h => by
    simp only [xops] at h
    obtain ⟨st1, st', e1, h, e2⟩ := xop_sound hc h
    rw [dropSF_eq] at h
    obtain ⟨dd', st'', h, e3⟩ := xops_sound hc h
    exact ⟨d :: dd', st'', h, fun K hK => ⟨st1, e1, e2.imp (fun f => f _ (e3 K hK)) (Or.imp (fun f => f _ (e3 K hK)) (Or.imp (fun f => f _ (e3 K hK)) (fun f => f _ (e3 K hK))))⟩⟩
  | o :: os, [], st, k, r, h => by
    simp only [xops] at h
    obtain ⟨st1, st', e1, h, e2⟩ := xop_sound hc h
    obtain ⟨dd', st'', h, e3⟩ := xops_sound hc h
    exact ⟨[] :: dd', st'', h, fun K hK => ⟨st1, e1, e2.imp (fun f => f _ (e3 K hK)) (Or.imp (fun f => f _ (e3 K hK)) (Or.imp (fun f => f _ (e3 K hK)) (fun f => f _ (e3 K hK))))⟩⟩
/-- memory that is made and never written again -/
noncomputable def memF (P : Program) (call : FuncId → List AV → Option AV) (st : ASt) (op : Op) (k : AV → Option R) : Option R := match op with
  | .buildSlice t len parts => match apT P t with
    | some q => match evPs st.env parts.toList with
      | some ps => match partsA q.2.1 0 ps with
        | some xs => match Nat.beq xs.length len && Nat.ble (len * q.2.1) 16777216 with
          | true => frcN q.2.1 fun q2 => frcLL xs fun xs => k (.ro q2 xs)
          | false => none
        | none => none
      | none => none
    | none => none
  | .box t x => match evX st.env x with
    | some v => match acells v with
      | some cs => match cs.all AV.one && cs.all AV.cl with
        | true => k (.rop cs)
        | false => none
      | none => none
    | none => none
  | op => pureF P call st.boxes st.rows st.env op k
theorem memF_sound {call : FuncId → List AV → Option AV} (hcall : ∀ g args r, call g args = some r → ACall P g args r) {st : ASt} {op : Op} {k : AV → Option R} {r : R}
    (h : memF P call st op k = some r) : ∃ v, k v = some r ∧ ∀ K : AV → Prop, K v → apureD P st.boxes st.rows (evA st.env) true op K := by
  unfold memF at h
  split at h
  · split at h
    · rename_i q e
      split at h
      · rename_i ps e1
        obtain ⟨a1, a2⟩ := evPs_spec e1
        split at h
        · rename_i xs e2
          split at h
          · rename_i e3
            simp only [Bool.and_eq_true] at e3
            simp only [frcLL_eq, frcN_eq] at h
            refine ⟨_, h, fun K hK => .inr (.inr ⟨rfl, ?_⟩)⟩
            simp only [amem, e, a2, e2]
            exact ⟨a1 _, Nat.eq_of_beq_eq_true e3.1, Nat.le_of_ble_eq_true e3.2, hK⟩
          · cases h
        · cases h
      · cases h
    · cases h
  · split at h
    · rename_i v e
      obtain ⟨a1, a2⟩ := evX_spec e
      split at h
      · rename_i cs e2
        split at h
        · rename_i e3
          simp only [Bool.and_eq_true] at e3
          refine ⟨_, h, fun K hK => .inr (.inr ⟨rfl, ?_⟩)⟩
          simp only [amem, a2, e2]
          exact ⟨a1 _, e3.1, e3.2, hK⟩
        · cases h
      · cases h
    · cases h
  · obtain ⟨v, e1, e2⟩ := pureF_sound hcall h
    exact ⟨v, e1, fun K hK => .inr (.inl (e2 K hK))⟩
/-- in a region whose order is drawn -/
noncomputable def xopD (P : Program) (call : FuncId → List AV → Option AV) (n : Nat) (gs : Nat → Option Nat) (o : Oper) (st : ASt) (k : ASt → Option R) : Option R :=
  match dokX n o.dst with
  | false => none
  | true => match o.guard with
    | none => memF P call st o.op fun v => putF st o.dst v k
    | some (j, want) => match gs j with
      | some g => match gcond want (egetX st.env g) with
        | some true => memF P call st o.op fun v => putF st o.dst (.opt true v) k
        | some false => putF st o.dst (.opt false (.lit (.bool false))) k
        | none => none
      | none => none
theorem xopD_sound {call : FuncId → List AV → Option AV} (hcall : ∀ g args r, call g args = some r → ACall P g args r) {n : Nat} {gs : Nat → Option Nat} {o : Oper} {st : ASt} {k : ASt → Option R} {r : R}
    (h : xopD P call n gs o st k = some r) : ∃ st', k st' = some r ∧ ∀ K : ASt → Prop, K st' → aopDM P n gs o st K := by
  unfold xopD at h
  split at h
  · cases h
  · rename_i hd
    have hd := dokX_spec hd
    split at h
    · rename_i hg
      obtain ⟨v, h, e2⟩ := memF_sound hcall h
      rw [putF_eq] at h
      refine ⟨_, h, fun K hK => ⟨hd, ?_⟩⟩
      simp only [hg]
      exact e2 _ hK
    · rename_i j want hg
      split at h
      · rename_i g e0
        simp only [egetX_eq] at h
        split at h
        · rename_i e1
          obtain ⟨v, h, e2⟩ := memF_sound hcall h
          rw [putF_eq] at h
          refine ⟨_, h, fun K hK => ⟨hd, ?_⟩⟩
          simp only [hg, e0, e1]
          exact e2 _ hK
        · rename_i e1
          rw [putF_eq] at h
          refine ⟨_, h, fun K hK => ⟨hd, ?_⟩⟩
          simp only [hg, e0, e1]
          exact .inl ⟨rfl, hK⟩
        · cases h
      · cases h
noncomputable def xopsD (P : Program) (call : FuncId → List AV → Option AV) (n : Nat) (gs : Nat → Option Nat) : List Oper → ASt → (ASt → Option R) → Option R
  | [], st, k => k st
  | o :: os, st, k => xopD P call n gs o st fun st' => xopsD P call n gs os st' k
theorem xopsD_sound {call : FuncId → List AV → Option AV} (hcall : ∀ g args r, call g args = some r → ACall P g args r) {n : Nat} {gs : Nat → Option Nat} : ∀ {l : List Oper} {st : ASt} {k : ASt → Option R} {r : R},
    xopsD P call n gs l st k = some r → ∃ st', k st' = some r ∧ ∀ K : ASt → Prop, K st' → aopsD P n gs l st K
  | [], st, k, r, h => ⟨st, h, fun K hK => hK⟩
  | o :: os, st, k, r, h => by
    simp only [xopsD] at h
    obtain ⟨st', h, e2⟩ := xopD_sound hcall h
    obtain ⟨st'', h, e3⟩ := xopsD_sound hcall h
    exact ⟨st'', h, fun K hK => e2 _ (e3 K hK)⟩
end run

section code
variable {P : Program} {n : Nat}
/-- rounds of a loop, one by one -/
noncomputable def Trace (P : Program) (n : Nat) (c : Code) : Nat → ASt → Exit → ASt → Prop
  | 0, _, _, _ => False
  | m + 1, st, e, st' => (∃ s1, AWp P n c (fun e' s' => e' = .normal ∧ s' = s1) st ∧ Trace P n c m s1 e st') ∨ (e ≠ .normal ∧ AWp P n c (fun e' s' => e' = e ∧ s' = st') st)
theorem Trace.awp {c : Code} {m : Nat} {st st' : ASt} {e : Exit} (h : Trace P n c m st e st') : AWp P n (.loop c) (fun e' s' => e' = e ∧ s' = st') st := by
  refine AWp.loop (α := Nat × ASt) (fun x => Trace P n c x.1 x.2 e st') (fun x => x.2) (fun x => x.1) (m, st) h (Wk.refl _) ?_
  rintro ⟨m, st⟩ hx
  cases m with
  | zero => exact hx.elim
  | succ m =>
    rcases hx with ⟨s1, h1, h2⟩ | ⟨h1, h2⟩
    · refine h1.mono fun e' s' h => ?_
      obtain ⟨rfl, rfl⟩ := h
      exact ⟨(m, s'), h2, Wk.refl _, Nat.lt_succ_self m⟩
    · refine h2.mono fun e' s' h => ?_
      obtain ⟨rfl, rfl⟩ := h
      cases e' <;> first | exact absurd rfl h1 | exact ⟨rfl, rfl⟩

noncomputable def keysX : List (Nat × AV) → List Nat
  | [] => []
  | (k, _) :: t => k :: keysX t
noncomputable def cReg {R : Type} (P : Program) (cl : Calling) (n : Nat) (dd : List (List Nat)) (l : List Oper) (st : ASt) (k : ASt → Option R) : Option R := match dd with
  | d :: dd => dropSF d st fun st => xops P cl n (gslot l) l dd st k
  | [] => xops P cl n (gslot l) l [] st k
noncomputable def cPrune {R : Type} (F : List Nat) (st : ASt) (k : ASt → Option R) : Option R := match st with
  | ⟨E, B, W⟩ => match F with
    | [] => frcNL (keysX E) fun F => pruneF F E fun e => k ⟨e, B, W⟩
    | j :: F => pruneF (j :: F) E fun e => k ⟨e, B, W⟩
theorem AWp.freeze {c : Code} {Q : Exit → ASt → Prop} {st : ASt} (keep : List Nat) (h : AWp P n c Q (st.freeze keep)) : AWp P n c Q st := AWp.weaken (fun _ _ _ _ _ hr => hr.freeze keep) h
noncomputable def opRows (E : List (Nat × AV)) (op : Op) : List Nat := (op.operands.toList.map fun x => match x with
  | .tmp t => (egetX E t).rowsOf
  | _ => []).flatten
noncomputable def lays (P : Program) (op : Op) : Bool := match op with
  | .buildSlice _ _ _ => true
  | .box _ _ => true
  | .call ⟨.value f, _, _⟩ => match f with
    | .func g => !(scF P g)
    | _ => true
  | _ => false
/-- the rows that a drawn region may lay into others -/
noncomputable def regRows (P : Program) (E : List (Nat × AV)) (l : List Oper) : List Nat := match l.any fun o => lays P o.op with
  | true => (l.map fun o => opRows E o.op).flatten
  | false => []
noncomputable def cRegD {R : Type} (P : Program) (cl : Calling) (n : Nat) (F : List Nat) (ops : Array Oper) (st : ASt) (k : ASt → Option R) : Option R := match Region.lexB .any ops with
  | true => preFz (regRows P st.env ops.toList) st fun st => xopsD P cl.C n (gslot ops.toList) ops.toList st fun st' => cPrune F st' k
  | false => none
noncomputable def cCond {R : Type} (v : AV) (x y : Option R) : Option R := match v with
  | .lit (.bool true) => x
  | .lit (.bool false) => y
  | _ => none
noncomputable def cSeq {R : Type} (e : Exit) (x : Unit → Option R) (k : Exit → Option R) : Option R := match e with
  | .normal => x ()
  | e => k e
noncomputable def cBlk {R : Type} (id : Nat) (e : Exit) (k : Exit → Option R) : Option R := match e with
  | .exit i => match Nat.beq i id with
    | true => k .normal
    | false => k (.exit i)
  | e => k e
noncomputable def cSco {R : Type} (e : Exit) (k : Exit → Option R) : Option R := match e with
  | .goto _ => none
  | e => k e
noncomputable def cStep {R : Type} (P : Program) (cl : Calling) (n : Nat) (D : Nat → List (List Nat)) (F : Nat → List Nat) (rec : Code → ASt → (Exit → ASt → Option R) → Option R) (code : Code) (st : ASt) (k : Exit → ASt → Option R) : Option R :=
  match code with
  | .skip => k .normal st
  | .region id ops b => match b with
    | false => cReg P cl n (D id) ops.toList st (k .normal)
    | true => cRegD P cl n (F id) ops st (k .normal)
  | .seq a b => rec a st fun e st' => cSeq e (fun _ => rec b st' k) fun e => k e st'
  | .cond c x y => cCond (evA st.env c) (rec x st k) (rec y st k)
  | .block id c => rec c st fun e st' => cBlk id e fun e => k e st'
  | .loop c => rec c st fun e st' => cSeq e (fun _ => rec (.loop c) st' k) fun e => k e st'
  | .exit id => k (.exit id) st
  | .label _ => k .normal st
  | .ret => k .ret st
  | .scope c => rec c st fun e st' => cSco e fun e => k e st'
  | _ => none
noncomputable def xcode {R : Type} (P : Program) (cl : Calling) (n : Nat) (D : Nat → List (List Nat)) (F : Nat → List Nat) (fuel : Nat) : Code → ASt → (Exit → ASt → Option R) → Option R :=
  Nat.rec (motive := fun _ => Code → ASt → (Exit → ASt → Option R) → Option R) (fun _ _ _ => none) (fun _ ih => cStep P cl n D F ih) fuel

theorem xcode_sound {R : Type} (hm : P.follows .mixedOrders = true) {cl : Calling} (hc : cl.Sound P) {D : Nat → List (List Nat)} {F : Nat → List Nat} :
    ∀ (f : Nat) (c : Code) (st : ASt) (k : Exit → ASt → Option R) (r : R), xcode P cl n D F f c st k = some r →
      ∃ e st', k e st' = some r ∧ AWp P n c (fun e' s' => e' = e ∧ s' = st') st ∧ ∀ b, c = .loop b → ∃ m, Trace P n b m st e st'
  | 0, c, st, k, r, h => by cases h
  | f + 1, c, st, k, r, h => by
    have fin : ∀ {e : Exit} {st' : ASt}, (∀ b, c ≠ .loop b) → k e st' = some r → AWp P n c (fun e' s' => e' = e ∧ s' = st') st →
        ∃ e st', k e st' = some r ∧ AWp P n c (fun e' s' => e' = e ∧ s' = st') st ∧ ∀ b, c = .loop b → ∃ m, Trace P n b m st e st' :=
      fun hn h1 h2 => ⟨_, _, h1, h2, fun b hb => absurd hb (hn b)⟩
    have h : cStep P cl n D F (xcode P cl n D F f) c st k = some r := h
    cases c with
    | skip => exact fin (fun b hb => by cases hb) h (AWp.skip ⟨rfl, rfl⟩)
    | region id ops b =>
      have harr : ops = ops.toList.toArray := by simp
      cases b with
      | false =>
        simp only [cStep] at h
        unfold cReg at h
        split at h
        · rename_i d dd hD
          rw [dropSF_eq] at h
          obtain ⟨dd', st', h, e⟩ := xops_sound hc h
          refine fin (fun b hb => by cases hb) h ?_
          rw [harr]
          exact AWp.region d dd' (e _ ⟨rfl, rfl⟩)
        · obtain ⟨dd', st', h, e⟩ := xops_sound hc h
          refine fin (fun b hb => by cases hb) h ?_
          rw [harr]
          exact AWp.region [] dd' (e _ ⟨rfl, rfl⟩)
      | true =>
        simp only [cStep] at h
        unfold cRegD at h
        split at h
        · rename_i hB
          obtain ⟨st1, hst1, h⟩ := preFz_sound h
          have wk : ∀ {e : Exit} {s : ASt}, AWp P n (.region id ops true) (fun e' s' => e' = e ∧ s' = s) st1 → AWp P n (.region id ops true) (fun e' s' => e' = e ∧ s' = s) st := by
            intro e s hw
            rcases hst1 with rfl | ⟨keep, rfl⟩
            · exact hw
            · exact hw.freeze keep
          obtain ⟨st', h, e⟩ := xopsD_sound hc.c h
          obtain ⟨E, B, W⟩ := st'
          unfold cPrune at h
          simp only at h
          split at h
          · simp only [frcNL_eq, pruneF_eq] at h
            refine fin (fun b hb => by cases hb) h (wk ?_)
            rw [harr] at hB ⊢
            exact AWp.regionD (keysX E) hm hB (e _ ⟨rfl, rfl⟩)
          · simp only [pruneF_eq] at h
            refine fin (fun b hb => by cases hb) h (wk ?_)
            rw [harr] at hB ⊢
            exact AWp.regionD _ hm hB (e _ ⟨rfl, rfl⟩)
        · cases h
    | seq a b =>
      simp only [cStep] at h
      obtain ⟨e1, s1, h1, h2, _⟩ := xcode_sound hm hc f a st _ r h
      cases e1 with
      | normal =>
        obtain ⟨e2, s2, h3, h4, _⟩ := xcode_sound hm hc f b s1 k r h1
        exact fin (fun b hb => by cases hb) h3 (AWp.seq (h2.mono fun e' s' h => by obtain ⟨rfl, rfl⟩ := h; exact h4))
      | _ => exact fin (fun b hb => by cases hb) h1 (AWp.seq (h2.mono fun e' s' h => by obtain ⟨rfl, rfl⟩ := h; exact ⟨rfl, rfl⟩))
    | cond c' x y =>
      simp only [cStep] at h
      unfold cCond at h
      split at h
      · rename_i e
        obtain ⟨e2, s2, h3, h4, _⟩ := xcode_sound hm hc f x st k r h
        exact fin (fun b hb => by cases hb) h3 (AWp.cond e (fun _ => h4) (fun h => by cases h))
      · rename_i e
        obtain ⟨e2, s2, h3, h4, _⟩ := xcode_sound hm hc f y st k r h
        exact fin (fun b hb => by cases hb) h3 (AWp.cond e (fun h => by cases h) (fun _ => h4))
      · cases h
    | block id c' =>
      simp only [cStep] at h
      obtain ⟨e1, s1, h1, h2, _⟩ := xcode_sound hm hc f c' st _ r h
      cases e1 with
      | exit i =>
        simp only [cBlk] at h1
        split at h1
        · rename_i hi
          have hi := Nat.eq_of_beq_eq_true hi
          exact fin (fun b hb => by cases hb) h1 (AWp.block (h2.mono fun e' s' h => by obtain ⟨rfl, rfl⟩ := h; simp only [aBlock, if_pos hi]; exact ⟨trivial, trivial⟩))
        · rename_i hi
          have hi := Nat.ne_of_beq_eq_false hi
          exact fin (fun b hb => by cases hb) h1 (AWp.block (h2.mono fun e' s' h => by obtain ⟨rfl, rfl⟩ := h; simp only [aBlock, if_neg hi]; exact ⟨trivial, trivial⟩))
      | _ => exact fin (fun b hb => by cases hb) h1 (AWp.block (h2.mono fun e' s' h => by obtain ⟨rfl, rfl⟩ := h; exact ⟨rfl, rfl⟩))
    | loop c' =>
      simp only [cStep] at h
      obtain ⟨e1, s1, h1, h2, _⟩ := xcode_sound hm hc f c' st _ r h
      have key : ∃ e st', k e st' = some r ∧ ∃ m, Trace P n c' m st e st' := by
        cases e1 with
        | normal =>
          obtain ⟨e2, s2, h3, _, h5⟩ := xcode_sound hm hc f (.loop c') s1 k r h1
          obtain ⟨m, hm'⟩ := h5 c' rfl
          exact ⟨e2, s2, h3, m + 1, .inl ⟨s1, h2, hm'⟩⟩
        | _ => exact ⟨_, s1, h1, 1, .inr ⟨by simp, h2⟩⟩
      obtain ⟨e, st', h3, m, h4⟩ := key
      exact ⟨e, st', h3, h4.awp, fun b hb => by cases hb; exact ⟨m, h4⟩⟩
    | exit id => exact fin (fun b hb => by cases hb) h (AWp.exit ⟨rfl, rfl⟩)
    | label l => exact fin (fun b hb => by cases hb) h (AWp.label ⟨rfl, rfl⟩)
    | ret => exact fin (fun b hb => by cases hb) h (AWp.ret ⟨rfl, rfl⟩)
    | scope c' =>
      simp only [cStep] at h
      obtain ⟨e1, s1, h1, h2, _⟩ := xcode_sound hm hc f c' st _ r h
      cases e1 with
      | goto l => cases h1
      | _ => exact fin (fun b hb => by cases hb) h1 (AWp.scope (h2.mono fun e' s' h => by obtain ⟨rfl, rfl⟩ := h; exact ⟨rfl, rfl⟩))
    | _ => cases h

noncomputable def resX (P : Program) (st : ASt) : ResultVar → Option AV
  | .tmp t => some (egetX st.env t)
  | .cell p ty => loadX P ty (cellsAt st.boxes st.rows (egetX st.env p))
theorem resX_sound {st : ASt} {x : ResultVar} {v : AV} (h : resX P st x = some v) : (resA P st x).2 ∧ (resA P st x).1 = v := by
  cases x with
  | tmp t => simp only [resX, egetX_eq, Option.some.injEq] at h; exact ⟨trivial, h⟩
  | cell p ty => simp only [resX, egetX_eq] at h; exact loadX_sound h
noncomputable def outLX (P : Program) (st : ASt) : List ResultVar → Option (List AV)
  | [] => some []
  | r :: rs => match resX P st r with
    | some v => match outLX P st rs with
      | some vs => some (v :: vs)
      | none => none
    | none => none
theorem outLX_sound {st : ASt} : ∀ {rs : List ResultVar} {vs : List AV}, outLX P st rs = some vs → (outL P st rs).2 ∧ (outL P st rs).1 = vs
  | [], vs, h => by simp [outLX] at h; subst h; exact ⟨trivial, rfl⟩
  | r :: rs, vs, h => by
    simp only [outLX] at h
    split at h
    · rename_i v e1
      split at h
      · rename_i vs' e2
        cases h
        have a := resX_sound e1
        have b := outLX_sound e2
        exact ⟨⟨a.1, b.1⟩, by simp only [outL]; rw [a.2, b.2]⟩
      · cases h
    · cases h
noncomputable def outX (P : Program) (st : ASt) (rs : List ResultVar) : Option AV :=
  match rs with
  | [r] => resX P st r
  | rs => match outLX P st rs with
    | some vs => some (.tup vs)
    | none => none
theorem outX_sound {st : ASt} {rs : List ResultVar} {v : AV} (h : outX P st rs = some v) : (outA P st rs).2 ∧ (outA P st rs).1 = v := by
  unfold outX at h
  split at h
  · exact resX_sound h
  · rename_i hn
    split at h
    · rename_i vs e
      have a := outLX_sound e
      cases h
      unfold outA
      split
      · exact absurd rfl (hn _)
      · exact ⟨a.1, by rw [a.2]⟩
    · cases h
/-- a function, run: what it returns, and the state that it leaves -/
noncomputable def xrun (P : Program) (c : Calling) (D : FuncId → Nat → List (List Nat)) (F : FuncId → Nat → List Nat) (fuel : Nat) (g : FuncId) (args : List AV) : Option (AV × ASt) :=
  match P.funcs[g]? with
  | some fn => match fn.body with
    | some code => match Nat.ble args.length fn.ntmps with
      | true => argsF 0 args fun e => xcode P c fn.ntmps (D g) (F g) fuel code ⟨e, [], []⟩ fun e st => match e with
        | .ret => match outX P st fn.results.toList with
          | some v => some (v, st)
          | none => none
        | .normal => match outX P st fn.results.toList with
          | some v => some (v, st)
          | none => none
        | _ => none
      | false => none
    | none => none
  | none => none
theorem xrun_sound (hm : P.follows .mixedOrders = true) {c : Calling} (hc : c.Sound P) {D : FuncId → Nat → List (List Nat)} {F : FuncId → Nat → List Nat} {fuel : Nat} {g : FuncId} {args : List AV} {v : AV} {st : ASt}
    (h : xrun P c D F fuel g args = some (v, st)) : ∃ fn code e, P.funcs[g]? = some fn ∧ fn.body = some code ∧ Nat.ble args.length fn.ntmps = true ∧ (e = .ret ∨ e = .normal) ∧ AWp P fn.ntmps code (fun e' s' => e' = e ∧ s' = st) ⟨argsE 0 args, [], []⟩ ∧
      (outA P st fn.results.toList).2 ∧ (outA P st fn.results.toList).1 = v := by
  unfold xrun at h
  split at h
  · rename_i fn hf
    split at h
    · rename_i code hb
      split at h
      · rename_i hle
        rw [argsF_eq] at h
        obtain ⟨e, st', h1, h2, _⟩ := xcode_sound hm hc _ _ _ _ _ h
        have key : ∀ {o : Option AV}, (match o with | some v => some (v, st') | none => none) = some (v, st) → o = some v ∧ st' = st := by
          intro o h
          cases o with
          | none => cases h
          | some v' => cases h; exact ⟨rfl, rfl⟩
        cases e with
        | ret =>
          obtain ⟨a, rfl⟩ := key h1
          exact ⟨fn, code, _, hf, hb, hle, .inl rfl, h2, outX_sound a⟩
        | normal =>
          obtain ⟨a, rfl⟩ := key h1
          exact ⟨fn, code, _, hf, hb, hle, .inr rfl, h2, outX_sound a⟩
        | _ => cases h1
      · cases h
    · cases h
  · cases h
/-- 'X', 'O': contracts at hand -/
noncomputable def xcalling (P : Program) (X O : FuncId → List AV → Option AV) (D : FuncId → Nat → List (List Nat)) (F : FuncId → Nat → List Nat) (fuel : Nat) : Nat → Calling
  | 0 => ⟨X, O, fun _ _ => none⟩
  | f + 1 => ⟨X,
    fun g args => match O g args with
      | some r => some r
      | none => match xrun P (xcalling P X O D F fuel f) D F fuel g args with
        | some p => borF p.2.rows p.1 fun v => some v
        | none => none,
    fun g args => match xrun P (xcalling P X O D F fuel f) D F fuel g args with
      | some p => frcNL p.1.rowsOf fun keep => frzF keep p.2.rows p.1 fun v => frzRF keep 0 p.2.rows fun rows => match v.lowB 0 p.2.rows.length with
        | true => some (v, rows)
        | false => none
      | none => none⟩
theorem xcalling_sound (hm : P.follows .mixedOrders = true) (hn : P.funcs.toList.all (fun fn => !(fn.name == "runtime.NumGoroutine")) = true) {X O : FuncId → List AV → Option AV} (hX : ∀ g args r, X g args = some r → ACallX P g args r)
    (hO : ∀ g args r, O g args = some r → ACall P g args r) {D : FuncId → Nat → List (List Nat)} {F : FuncId → Nat → List Nat} {fuel : Nat} : ∀ (f : Nat), (xcalling P X O D F fuel f).Sound P
  | 0 => ⟨hX, hO, fun g args r h => by cases h⟩
  | f + 1 => by
    have ih := xcalling_sound hm hn hX hO (D := D) (F := F) (fuel := fuel) f
    have nm : ∀ {g : FuncId} {fn : Func}, P.funcs[g]? = some fn → (fn.name == "runtime.NumGoroutine") = false := by
      intro g fn hf
      have := List.all_eq_true.1 hn fn (by
        have := Array.mem_of_getElem? hf
        simpa using this)
      simpa using this
    refine ⟨hX, fun g args r h => ?_, fun g args r h => ?_⟩
    · simp only [xcalling] at h
      split at h
      · rename_i r' e; cases h; exact hO _ _ _ e
      · split at h
        · rename_i p e
          obtain ⟨v, st⟩ := p
          obtain ⟨fn, code, ex, hf, hb, hle, he, hw, ho1, ho2⟩ := xrun_sound hm ih e
          rw [borF_eq] at h
          cases h
          refine acall_of hf hb (nm hf) rfl rfl hle (hw.mono fun e' s' he' => ?_)
          obtain ⟨rfl, rfl⟩ := he'
          rcases he with rfl | rfl <;> exact ⟨ho1, by rw [ho2]; exact AVle.refl _⟩
        · cases h
    · simp only [xcalling] at h
      split at h
      · rename_i p e
        obtain ⟨v, st⟩ := p
        obtain ⟨fn, code, ex, hf, hb, hle, he, hw, ho1, ho2⟩ := xrun_sound hm ih e
        simp only [frcNL_eq, frzF_eq, frzRF_eq] at h
        split at h
        · rename_i hlow
          cases h
          refine acallN_of v.rowsOf hf hb (nm hf) rfl rfl hle (hw.mono fun e' s' he' => ?_)
          obtain ⟨rfl, rfl⟩ := he'
          rcases he with rfl | rfl <;> exact ⟨ho1, by rw [ho2]; exact AVle.refl _, hlow, rfl⟩
        · cases h
      · cases h
noncomputable def xcall (P : Program) (X O : FuncId → List AV → Option AV) (D : FuncId → Nat → List (List Nat)) (F : FuncId → Nat → List Nat) (fuel depth : Nat) (g : FuncId) (args : List AV) : Option AV := (xcalling P X O D F fuel depth).C g args
theorem xcall_sound (hm : P.follows .mixedOrders = true) (hn : P.funcs.toList.all (fun fn => !(fn.name == "runtime.NumGoroutine")) = true) {X O : FuncId → List AV → Option AV} (hX : ∀ g args r, X g args = some r → ACallX P g args r)
    (hO : ∀ g args r, O g args = some r → ACall P g args r) {D : FuncId → Nat → List (List Nat)} {F : FuncId → Nat → List Nat} {fuel depth : Nat} {g : FuncId} {args : List AV} {r : AV} (h : xcall P X O D F fuel depth g args = some r) : ACall P g args r :=
  (xcalling_sound hm hn hX hO depth).c g args r h
end code
end Go.AL
