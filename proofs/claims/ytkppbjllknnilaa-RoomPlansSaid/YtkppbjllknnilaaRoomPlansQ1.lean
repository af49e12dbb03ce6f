/- A part of the proof of RoomPlans: an abstract machine, or what functions come to on it. -/
import Derived.Test.YtkppbjllknnilaaAlmQ6
import Derived.Lib.Strings
set_option linter.unusedVariables false
set_option linter.unusedSimpArgs false
set_option linter.defProp false
namespace Go.Am
variable {T : FuncId → Option AFunc}
theorem app_nil {sz b : Nat} {σ : St} {xs : List AV} {tk t : Option Nat} {f f' : Bool} : appendAV sz b σ (.lit xs f' tk) (.lit [] f t) = some (.lit xs f' tk, σ) := by
 simp [appendAV, view]
end Go.Am
namespace Go.Am
variable {T : FuncId → Option AFunc}
def intss (l : List (List Int)) : AV := .lit (l.map ints) false none
theorem data_intss (l : List (List Int)) : Data (intss l) := data_list data_ints l
end Go.Am
namespace Go.Am
instance (l : List (List Int)) : Dat (intss l) := ⟨data_intss l⟩
end Go.Am
namespace Go.Am.Room
theorem least_bd {below i : Nat} {c : List Int} (h : c ∈ choices below i) : 0 ≤ least i c ∧ least i c ≤ below := by
 obtain ⟨q1, q2⟩ := choices_spec below i c h
 unfold least
 split
 ·rename_i hi
  have hlt : i - 1 < c.length := by omega
  have := q2 c[i - 1] (List.getElem_mem hlt)
  simp [hlt]
  omega
 ·omega
theorem nexts_len {below i : Nat} {c : List Int} (h : c ∈ choices below i) : (nexts below i c).length ≤ below := by
 have := least_bd h
 simp [nexts, numbers_len]
 omega
theorem flat_le {α β : Type} (f : α → List β) (b : Nat) : ∀ l : List α, (∀ x ∈ l, (f x).length ≤ b) → (l.flatMap f).length ≤ l.length * b
 | [], _ => by simp
 | x :: l, h => by
  have h1 := h x (by simp)
  have h2 := flat_le f b l fun y hy => h y (List.mem_cons_of_mem _ hy)
  simp only [List.flatMap_cons, List.length_append, List.length_cons, Nat.add_mul]
  omega
theorem choices_len (below : Nat) : ∀ i, (choices below i).length ≤ below ^ i
 | 0 => by simp [choices]
 | i + 1 => by
  have h1 := choices_len below i
  have h2 := flat_le (nexts below i) below (choices below i) fun c hc => nexts_len hc
  simp only [choices, Nat.pow_succ]
  exact Nat.le_trans h2 (Nat.mul_le_mul_right _ h1)
theorem choices_small {below i : Nat} (h1 : below ≤ 8) (h2 : i ≤ 8) : (choices below i).length ≤ 16777216 := by
 refine Nat.le_trans (choices_len below i) ?_
 calc below ^ i ≤ 8 ^ i := Nat.pow_le_pow_left h1 i
  _ ≤ 8 ^ 8 := Nat.pow_le_pow_right (by omega) h2
  _ = 16777216 := by decide
theorem allCells_ints (l : List (List Int)) : allCells 1 (l.map ints) = true := L_allM 1 ints l fun x => C_lit _ _ _
theorem allCells_int (l : List Int) : allCells 1 (l.map (.int .i64)) = true := L_allM 1 _ l fun x => C_int _ _
theorem numbers_cons {a : Int} {below : Nat} (h : a < below) : numbers a ((below : Int) - a).toNat = a :: numbers (a + 1) ((below : Int) - (a + 1)).toNat := by
 rw [show ((below : Int) - a).toNat = ((below : Int) - (a + 1)).toNat + 1 by omega]; rfl
theorem numbers_none {a : Int} {below : Nat} (h : ¬ a < below) : numbers a ((below : Int) - a).toNat = [] := by
 rw [show ((below : Int) - a).toNat = 0 by omega]; rfl
theorem choices_in (below many i k : Nat) (acc : List (List Int)) (ex : Bool) (c : List Int) (a0 : Int) (e : Env) (K : KJ) (hb : below ≤ 8) (hk1 : k < (choices below i).length) (hc : (choices below i)[k] = c) (hcl : c.length ≤ 8) (ha0 : 0 ≤ a0 ∧ a0 ≤ below) (hacc : acc.length ≤ 16777216)
  (e0 : Env.get e 0 = .int .i64 below) (e1 : Env.get e 1 = .int .i64 many) (e5 : Env.get e 5 = intss (choices below i)) (e6 : Env.get e 6 = .int .i64 i) (e7 : Env.get e 7 = .lit (acc.map ints) false (some 0)) (e8 : Env.get e 8 = .int .i64 k) (e10 : Env.get e 10 = .int .i64 a0)
  (hK : ∀ e' ex' new, new = (numbers a0 ((below : Int) - a0).toNat).map (fun n => c ++ [n]) → Env.get e' 0 = .int .i64 below → Env.get e' 1 = .int .i64 many → Env.get e' 5 = intss (choices below i) → Env.get e' 6 = .int .i64 i →
   Env.get e' 7 = .lit ((acc ++ new).map ints) false (some 0) → Env.get e' 8 = .int .i64 k → K (some (.exit 4)) e' [.tok 1 (acc ++ new).length ex']) :
  rK (K := ⟨K⟩) T (.loop L94_4) e [.tok 1 acc.length ex] := by
 refine loopE (S := Int × List (List Int) × Bool) (a0, acc, ex) (fun s => a0 ≤ s.1 ∧ s.1 ≤ below ∧ s.2.1.length ≤ acc.length + (s.1 - a0).toNat ∧ s.2.1 ++ (numbers s.1 ((below : Int) - s.1).toNat).map (fun n => c ++ [n]) = acc ++ (numbers a0 ((below : Int) - a0).toNat).map (fun n => c ++ [n])) (fun s => ((below : Int) - s.1).toNat)
  (fun s => [(0, .int .i64 below), (1, .int .i64 many), (5, intss (choices below i)), (6, .int .i64 i), (7, .lit (s.2.1.map ints) false (some 0)), (8, .int .i64 k), (10, .int .i64 s.1)]) (fun s => [.tok 1 s.2.1.length s.2.2]) ⟨by simp, by simp; omega, by simp, rfl⟩ rfl ?_ fun s hs => ?_
 ·try simp only [TrimX, QE, Nat.reduceLT, reduceIte, Nat.reduceEqDiff, Nat.reduceAdd, Nat.reduceLeDiff, Nat.reduceMul, Nat.reduceBEq, e0, e1, e5, e6, e7, e8, e10]
  try simp
 ·obtain ⟨a, l, ex1⟩ := s
  obtain ⟨h1, h1b, h2, h3⟩ := hs
  simp only at h1 h2 h3 h1b
  (repeat (first | simp only [↓QA, QB, Nat.reduceLT, reduceIte, Nat.reduceEqDiff, Nat.reduceAdd, Nat.reduceLeDiff, Nat.reduceMul, Nat.reduceBEq, L94_4] | refine rd0 rfl ?_))
  refine iteP_intro (fun h => ?_) fun h => ?_
  ·have ha : a < below := by simpa using h
   have hw : IntKind.i64.wrap (a + 1) = a + 1 := wrap64 ⟨by omega, by omega⟩
   rw [numbers_cons ha] at h3
   have hk1' : k < (choices below i).length := hk1
   have hok : ∀ t f, AppOk 1 24 (l.map ints) [.lit (c.map (.int .i64) ++ [.int .i64 a]) f t] := fun t f => ⟨allCells_ints l, by simp [allCells, AV.cells, AV.cell], by simp [room]; omega, by simp [room]; omega⟩
   have fin : (∃ s' : Int × List (List Int) × Bool, s' = (a + 1, l ++ [c ++ [a]], true)) := ⟨_, rfl⟩
   (repeat (first | simp only [↓QA, QB, Nat.reduceLT, reduceIte, Nat.reduceEqDiff, Nat.reduceAdd, Nat.reduceLeDiff, Nat.reduceMul, Nat.reduceBEq, intss, hk1', hc, ints, E_evs1] | refine rd0 rfl ?_))
   cases c with
   | nil =>
    have q2 : ∀ σ : St, appendAV 1 8 σ (.lit [] true none) (.lit [.int .i64 a] true none) = some (.lit [.int .i64 a] false (some σ.length), σ ++ [.tok 1 1 true]) := fun σ => app_full (xs := []) ⟨rfl, by simp [allCells, AV.cells, AV.cell], by simp [room], by simp [room]⟩ (by simp)
    have q3 : ∀ σ : St, appendAV 1 24 ((.tok 1 l.length ex1) :: σ) (.lit (l.map ints) false (some 0)) (.lit [.lit [.int .i64 a] false (some 1)] true none) = some (.lit (l.map ints ++ [.lit [.int .i64 a] false (some 1)]) false (some 0), (.tok 1 (l.length + 1) true) :: σ) := fun σ => by
     rw [app_tok (ex := ex1) (by simpa using hok (some 1) false) (by simp) (by simp)]; simp
    (repeat (first | simp only [↓QA, QB, Nat.reduceLT, reduceIte, Nat.reduceEqDiff, Nat.reduceAdd, Nat.reduceLeDiff, Nat.reduceMul, Nat.reduceBEq, app_nil, q2, q3, List.map_nil] | refine rd0 rfl ?_))
    refine ⟨(a + 1, l ++ [[a]], true), ?_, ?_, ?_⟩
    ·simp only [List.length_append, List.length_cons, List.length_nil, List.append_assoc]
     exact ⟨by omega, by omega, by omega, by simpa using h3⟩
    ·simp only; omega
    ·try simp only [TrimX, QE, Nat.reduceLT, reduceIte, Nat.reduceEqDiff, Nat.reduceAdd, Nat.reduceLeDiff, Nat.reduceMul, Nat.reduceBEq, hw, List.map_append, List.length_append, List.map_cons, List.map_nil, intss]
     try simp [okBlk]
   | cons x xs =>
    have q1 : ∀ σ : St, appendAV 1 8 σ (.lit [] true none) (.lit (.int .i64 x :: xs.map (.int .i64)) false none) = some (.lit (.int .i64 x :: xs.map (.int .i64)) false (some σ.length), σ ++ [.tok 1 (xs.length + 1) true]) := fun σ => by
     rw [app_full (ys := .int .i64 x :: xs.map (.int .i64)) ⟨rfl, allCells_int (x :: xs), by simp [room] at hcl ⊢; omega, by simp [room] at hcl ⊢; omega⟩ (by simp)]; simp
    have q2 : ∀ b : ABlk, appendAV 1 8 [b, .tok 1 (xs.length + 1) true] (.lit (.int .i64 x :: xs.map (.int .i64)) false (some 1)) (.lit [.int .i64 a] true none) = some (.lit (.int .i64 x :: (xs.map (.int .i64) ++ [.int .i64 a])) false (some 1), [b, .tok 1 (xs.length + 2) true]) := fun b => by
     rw [app_tok (xs := .int .i64 x :: xs.map (.int .i64)) (ex := true) ⟨allCells_int (x :: xs), by simp [allCells, AV.cells, AV.cell], by simp [room] at hcl ⊢; omega, by simp [room] at hcl ⊢; omega⟩ (by simp) (by simp)]; simp
    have q3 : ∀ σ : St, appendAV 1 24 ((.tok 1 l.length ex1) :: σ) (.lit (l.map ints) false (some 0)) (.lit [.lit (.int .i64 x :: (xs.map (.int .i64) ++ [.int .i64 a])) false (some 1)] true none) = some (.lit (l.map ints ++ [.lit (.int .i64 x :: (xs.map (.int .i64) ++ [.int .i64 a])) false (some 1)]) false (some 0), (.tok 1 (l.length + 1) true) :: σ) := fun σ => by
     rw [app_tok (ex := ex1) (by simpa using hok (some 1) false) (by simp) (by simp)]; simp
    (repeat (first | simp only [↓QA, QB, Nat.reduceLT, reduceIte, Nat.reduceEqDiff, Nat.reduceAdd, Nat.reduceLeDiff, Nat.reduceMul, Nat.reduceBEq, q1, q2, q3, List.map_cons] | refine rd0 rfl ?_))
    refine ⟨(a + 1, l ++ [x :: xs ++ [a]], true), ?_, ?_, ?_⟩
    ·simp only [List.length_append, List.length_cons, List.length_nil, List.append_assoc]
     exact ⟨by omega, by omega, by omega, by simpa using h3⟩
    ·simp only; omega
    ·try simp only [TrimX, QE, Nat.reduceLT, reduceIte, Nat.reduceEqDiff, Nat.reduceAdd, Nat.reduceLeDiff, Nat.reduceMul, Nat.reduceBEq, hw, List.map_append, List.length_append, List.map_cons, List.map_nil, intss]
     try simp [okBlk]
  ·have ha : ¬ a < below := by simpa using h
   rw [numbers_none ha] at h3
   obtain rfl : l = acc ++ (numbers a0 ((below : Int) - a0).toNat).map (fun n => c ++ [n]) := by simpa using h3
   (repeat (first | simp only [↓QA, QB, Nat.reduceLT, reduceIte, Nat.reduceEqDiff, Nat.reduceAdd, Nat.reduceLeDiff, Nat.reduceMul, Nat.reduceBEq] | refine rd0 rfl ?_))
   refine hK _ ex1 _ rfl ?_ ?_ ?_ ?_ ?_ ?_
   all_goals try simp only [TrimX, QE, Nat.reduceLT, reduceIte, Nat.reduceEqDiff, Nat.reduceAdd, Nat.reduceLeDiff, Nat.reduceMul, Nat.reduceBEq]
theorem choices_ok (below many : Nat) (hb : below ≤ 8) (hm : many ≤ 8) : Pure T 94 [.int .i64 below, .int .i64 many] (intss (choices below many)) := by
 refine pure_fn (af := a94) rfl (by simp [a94]) dd ?_
 (repeat (first | simp only [↓QA, QB, Nat.reduceLT, reduceIte, Nat.reduceEqDiff, Nat.reduceAdd, Nat.reduceLeDiff, Nat.reduceMul, Nat.reduceBEq, a94] | refine rd0 rfl ?_))
 refine loopE (S := Nat) 0 (fun i => i ≤ many) (fun i => many - i) (fun i => [(0, .int .i64 below), (1, .int .i64 many), (5, intss (choices below i)), (6, .int .i64 i)]) (fun _ => []) (Nat.zero_le _) rfl ?_ fun i hi => ?_
 ·try simp only [TrimX, QE, Nat.reduceLT, reduceIte, Nat.reduceEqDiff, Nat.reduceAdd, Nat.reduceLeDiff, Nat.reduceMul, Nat.reduceBEq]
  simp [intss, ints, choices, clr, clrs]
 ·(repeat (first | simp only [↓QA, QB, Nat.reduceLT, reduceIte, Nat.reduceEqDiff, Nat.reduceAdd, Nat.reduceLeDiff, Nat.reduceMul, Nat.reduceBEq, L94_0, intss] | refine rd0 rfl ?_))
  refine iteP_intro (fun h => ?_) fun h => ?_
  ·have hi1 : i < many := by simpa using h
   have hsm := choices_small hb (show i ≤ 8 by omega)
   have hsm1 := choices_small hb (show i + 1 ≤ 8 by omega)
   (repeat (first | simp only [↓QA, QB, Nat.reduceLT, reduceIte, Nat.reduceEqDiff, Nat.reduceAdd, Nat.reduceLeDiff, Nat.reduceMul, Nat.reduceBEq] | refine rd0 rfl ?_))
   refine ghostK 7 1 [] rfl ?_
   refine loopE (S := Nat × List (List Int) × Bool) (0, [], false) (fun s => s.1 ≤ (choices below i).length ∧ s.2.1 ++ ((choices below i).drop s.1).flatMap (nexts below i) = choices below (i + 1)) (fun s => (choices below i).length - s.1)
    (fun s => [(0, .int .i64 below), (1, .int .i64 many), (5, intss (choices below i)), (6, .int .i64 i), (7, .lit (s.2.1.map ints) false (some 0)), (8, .int .i64 s.1)]) (fun s => [.tok 1 s.2.1.length s.2.2]) ⟨Nat.zero_le _, by simp [choices]⟩ rfl ?_ fun s hs => ?_
   ·try simp only [TrimX, QE, Nat.reduceLT, reduceIte, Nat.reduceEqDiff, Nat.reduceAdd, Nat.reduceLeDiff, Nat.reduceMul, Nat.reduceBEq, intss]
    try simp
   ·obtain ⟨k, acc, ex⟩ := s
    obtain ⟨hk, hacc⟩ := hs
    simp only at hk hacc
    (repeat (first | simp only [↓QA, QB, Nat.reduceLT, reduceIte, Nat.reduceEqDiff, Nat.reduceAdd, Nat.reduceLeDiff, Nat.reduceMul, Nat.reduceBEq, L94_2, intss] | refine rd0 rfl ?_))
    refine iteP_intro (fun h2 => ?_) fun h2 => ?_
    ·have hk1 : k < (choices below i).length := by simpa using h2
     have hmem := List.getElem_mem hk1
     obtain ⟨c, hc⟩ : ∃ c, (choices below i)[k] = c := ⟨_, rfl⟩
     rw [hc] at hmem
     obtain ⟨hlen, hrng⟩ := choices_spec below i c hmem
     have hlb := least_bd hmem
     rw [List.drop_eq_getElem_cons hk1, hc, List.flatMap_cons] at hacc
     have hacl : acc.length ≤ 16777216 := by
      have := congrArg List.length hacc
      simp only [List.length_append] at this
      omega
     have hw1 : 0 < i → IntKind.i64.wrap ((i : Int) - 1) = ((i - 1 : Nat) : Int) := fun h => by rw [wrap64 ⟨by omega, by omega⟩]; omega
     have hwk : IntKind.i64.wrap ((k : Int) + 1) = ((k + 1 : Nat) : Int) := wrapN hk1 (by omega)
     by_cases h0 : 0 < i
     ·have g0 : decide (0 < (i : Int)) = true := by simpa using h0
      have hi2 : i - 1 < c.length := by omega
      have hx := hrng c[i - 1] (List.getElem_mem hi2)
      have hwx : IntKind.i64.wrap (c[i - 1] + 1) = c[i - 1] + 1 := wrap64 ⟨by omega, by omega⟩
      have hl : least i c = c[i - 1] + 1 := by simp [least, h0, hi2]
      (repeat (first | simp only [↓QA, QB, Nat.reduceLT, reduceIte, Nat.reduceEqDiff, Nat.reduceAdd, Nat.reduceLeDiff, Nat.reduceMul, Nat.reduceBEq, hk1, g0, hw1 h0, hc, intss, ints, hi2, hwx] | refine rd0 rfl ?_))
      refine choices_in below many i k acc ex c (c[i - 1] + 1) _ _ hb hk1 hc (by omega) (by omega) hacl ?_ ?_ ?_ ?_ ?_ ?_ ?_ ?_
      all_goals try simp only [TrimX, QE, Nat.reduceLT, reduceIte, Nat.reduceEqDiff, Nat.reduceAdd, Nat.reduceLeDiff, Nat.reduceMul, Nat.reduceBEq, intss]
      intro e' ex' new hnew q0 q1 q5 q6 q7 q8
      (repeat (first | simp only [↓QA, QB, Nat.reduceLT, reduceIte, Nat.reduceEqDiff, Nat.reduceAdd, Nat.reduceLeDiff, Nat.reduceMul, Nat.reduceBEq, q0, q1, q5, q6, q7, q8, hwk] | refine rd0 rfl ?_))
      refine ⟨(k + 1, acc ++ new, ex'), ⟨by simp only; omega, ?_⟩, by simp only; omega, ?_⟩
      ·rw [← hacc, hnew]; simp [nexts, hl]
      ·try simp only [TrimX, QE, Nat.reduceLT, reduceIte, Nat.reduceEqDiff, Nat.reduceAdd, Nat.reduceLeDiff, Nat.reduceMul, Nat.reduceBEq, q0, q1, q5, q6, q7, q8, intss, okBlk]
       try simp [okBlk]
     ·have g0 : decide (0 < (i : Int)) = false := by simpa using h0
      have hl : least i c = 0 := by simp [least, h0]
      (repeat (first | simp only [↓QA, QB, Nat.reduceLT, reduceIte, Nat.reduceEqDiff, Nat.reduceAdd, Nat.reduceLeDiff, Nat.reduceMul, Nat.reduceBEq, hk1, g0] | refine rd0 rfl ?_))
      refine choices_in below many i k acc ex c 0 _ _ hb hk1 hc (by omega) (by omega) hacl ?_ ?_ ?_ ?_ ?_ ?_ ?_ ?_
      all_goals try simp only [TrimX, QE, Nat.reduceLT, reduceIte, Nat.reduceEqDiff, Nat.reduceAdd, Nat.reduceLeDiff, Nat.reduceMul, Nat.reduceBEq, intss]
      intro e' ex' new hnew q0 q1 q5 q6 q7 q8
      (repeat (first | simp only [↓QA, QB, Nat.reduceLT, reduceIte, Nat.reduceEqDiff, Nat.reduceAdd, Nat.reduceLeDiff, Nat.reduceMul, Nat.reduceBEq, q0, q1, q5, q6, q7, q8, hwk] | refine rd0 rfl ?_))
      refine ⟨(k + 1, acc ++ new, ex'), ⟨by simp only; omega, ?_⟩, by simp only; omega, ?_⟩
      ·rw [← hacc, hnew]; simp [nexts, hl]
      ·try simp only [TrimX, QE, Nat.reduceLT, reduceIte, Nat.reduceEqDiff, Nat.reduceAdd, Nat.reduceLeDiff, Nat.reduceMul, Nat.reduceBEq, q0, q1, q5, q6, q7, q8, intss, okBlk]
       try simp [okBlk]
    ·have hk1 : k = (choices below i).length := by simp at h2; omega
     have hfin : acc = choices below (i + 1) := by rw [← hacc, hk1, List.drop_length]; simp
     (repeat (first | simp only [↓QA, QB, Nat.reduceLT, reduceIte, Nat.reduceEqDiff, Nat.reduceAdd, Nat.reduceLeDiff, Nat.reduceMul, Nat.reduceBEq] | refine rd0 rfl ?_))
     refine ⟨i + 1, by omega, by omega, ?_⟩
     try simp only [TrimX, QE, Nat.reduceLT, reduceIte, Nat.reduceEqDiff, Nat.reduceAdd, Nat.reduceLeDiff, Nat.reduceMul, Nat.reduceBEq, wrapN hi1 (show many < 9223372036854775808 by omega), intss, hfin]
  ·have hi1 : i = many := by simp at h; omega
   subst hi1
   (repeat (first | simp only [↓QA, QB, Nat.reduceLT, reduceIte, Nat.reduceEqDiff, Nat.reduceAdd, Nat.reduceLeDiff, Nat.reduceMul, Nat.reduceBEq, intss] | refine rd0 rfl ?_))
end Go.Am.Room
set_option maxRecDepth 4000
namespace Go.Am.Room
theorem known_ok (r : Rm) (e : Int) (hf : Fits r) (hv : e = 0 → Vd r) : Pure T 80 [encRoom r, .int .i64 e] (.int .i64 (errKnown r e)) := by
 refine pure_fn (af := a80) rfl (by simp [a80]) dd ?_
 (repeat (first | simp only [↓QA, QB, Nat.reduceLT, reduceIte, Nat.reduceEqDiff, Nat.reduceAdd, Nat.reduceLeDiff, Nat.reduceMul, Nat.reduceBEq, QXRm6, a80] | refine rd0 rfl ?_))
 cases h0 : (e == 0)
 ·have h0' : e ≠ 0 := by simpa using h0
  (repeat (first | simp only [↓QA, QB, Nat.reduceLT, reduceIte, Nat.reduceEqDiff, Nat.reduceAdd, Nat.reduceLeDiff, Nat.reduceMul, Nat.reduceBEq, QXRm6, h0, errKnown, h0'] | refine rd0 rfl ?_))
 ·have h0' : e = 0 := by simpa using h0
  subst h0'
  (repeat (first | simp only [↓QA, QB, Nat.reduceLT, reduceIte, Nat.reduceEqDiff, Nat.reduceAdd, Nat.reduceLeDiff, Nat.reduceMul, Nat.reduceBEq, QXRm6] | refine rd0 rfl ?_))
  refine callK_v (some_ok r [] (hv rfl) hf (by simp)) (room_nil r) (room_nil_ok r) ?_
  cases hs : someB r []
  all_goals
   (repeat (first | simp only [↓QA, QB, Nat.reduceLT, reduceIte, Nat.reduceEqDiff, Nat.reduceAdd, Nat.reduceLeDiff, Nat.reduceMul, Nat.reduceBEq, QXRm6, errKnown, hs, reduceCtorEq, Bool.false_eq_true] | refine rd0 rfl ?_))
theorem asked_ok (r : Rm) (n lo hi : Int) (hf : Fits r) : Pure T 81 [encRoom r, .int .i64 n, .int .i64 lo, .int .i64 hi] (.int .i64 (errAsk r n lo hi)) := by
 refine pure_fn (af := a81) rfl (by simp [a81]) dd ?_
 (repeat (first | simp only [↓QA, QB, Nat.reduceLT, reduceIte, Nat.reduceEqDiff, Nat.reduceAdd, Nat.reduceLeDiff, Nat.reduceMul, Nat.reduceBEq, QXRm6, a81] | refine rd0 rfl ?_))
 ((first | refine callK_d (refcheck_ok r hf) rfl dd ?_ | refine callD_d (refcheck_ok r hf) rfl dd ?_); (repeat (first | simp only [↓QA, QB, Nat.reduceLT, reduceIte, Nat.reduceEqDiff, Nat.reduceAdd, Nat.reduceLeDiff, Nat.reduceMul, Nat.reduceBEq, QXRm6, enc3] | refine rd0 rfl ?_)))
 cases h0 : ((check r).2.2 == 0)
 ·have h0' : (check r).2.2 ≠ 0 := by simpa using h0
  (repeat (first | simp only [↓QA, QB, Nat.reduceLT, reduceIte, Nat.reduceEqDiff, Nat.reduceAdd, Nat.reduceLeDiff, Nat.reduceMul, Nat.reduceBEq, QXRm6, h0, errAsk, h0'] | refine rd0 rfl ?_))
 ·have h0' : (check r).2.2 = 0 := by simpa using h0
  (repeat (first | simp only [↓QA, QB, Nat.reduceLT, reduceIte, Nat.reduceEqDiff, Nat.reduceAdd, Nat.reduceLeDiff, Nat.reduceMul, Nat.reduceBEq, QXRm6, h0] | refine rd0 rfl ?_))
  ((first | refine callK_d (in_ok _ _ _) rfl dd ?_ | refine callD_d (in_ok _ _ _) rfl dd ?_); (repeat (first | simp only [↓QA, QB, Nat.reduceLT, reduceIte, Nat.reduceEqDiff, Nat.reduceAdd, Nat.reduceLeDiff, Nat.reduceMul, Nat.reduceBEq, QXRm6, h0] | refine rd0 rfl ?_)))
  cases hs : inR n lo hi
  all_goals
   (repeat (first | simp only [↓QA, QB, Nat.reduceLT, reduceIte, Nat.reduceEqDiff, Nat.reduceAdd, Nat.reduceLeDiff, Nat.reduceMul, Nat.reduceBEq, QXRm6, errAsk, hs, h0', reduceCtorEq, Bool.false_eq_true] | refine rd0 rfl ?_))
end Go.Am.Room
set_option maxRecDepth 4000
namespace Go.Am.Room
def QXRm8 := And.intro @setE_eq (And.intro @bits_len (And.intro @bits_cell (And.intro @bits_take (And.intro @bits_drop (And.intro @bits_zero (And.intro @Nat.mul_one (And.intro @Int.toNat_natCast (And.intro @encRoom_eq (And.intro @roomCells_eq (And.intro @encSetting_eq (And.intro @encLook_eq (And.intro @encSpan_eq (@S_bits)))))))))))))
theorem listsOf_len (m : Nat) : ∀ i, (listsOf m i).length ≤ m ^ i
 | 0 => by simp [listsOf]
 | i + 1 => by
  have h1 := listsOf_len m i
  have h2 := flat_le (fun c : List Int => (numbers 0 m).map fun n => c ++ [n]) m (listsOf m i) fun c hc => by simp [numbers_len]
  simp only [listsOf, Nat.pow_succ]
  exact Nat.le_trans h2 (Nat.mul_le_mul_right _ h1)
theorem listsOf_small {m i : Nat} (h1 : m ≤ 4) (h2 : i ≤ 8) : (listsOf m i).length ≤ 65536 := by
 refine Nat.le_trans (listsOf_len m i) ?_
 calc m ^ i ≤ 4 ^ i := Nat.pow_le_pow_left h1 i
  _ ≤ 4 ^ 8 := Nat.pow_le_pow_right (by omega) h2
  _ = 65536 := by decide
theorem lists_in (r : Rm) (m many i k : Nat) (acc : List (List Int)) (ex : Bool) (c : List Int) (e : Env) (K : KJ) (hm : r.settings.length = m) (hm4 : m ≤ 4) (hk1 : k < (listsOf m i).length) (hc : (listsOf m i)[k] = c) (hcl : c.length ≤ 8) (hacc : acc.length ≤ 65536)
  (e2 : Env.get e 2 = .ptr 0 0) (e1 : Env.get e 1 = .int .i64 many) (e5 : Env.get e 5 = intss (listsOf m i)) (e6 : Env.get e 6 = .int .i64 i) (e7 : Env.get e 7 = .lit (acc.map ints) false (some 1)) (e8 : Env.get e 8 = .int .i64 k) (e9 : Env.get e 9 = .int .i64 0)
  (hK : ∀ e' ex' new, new = (numbers 0 m).map (fun n => c ++ [n]) → Env.get e' 2 = .ptr 0 0 → Env.get e' 1 = .int .i64 many → Env.get e' 5 = intss (listsOf m i) → Env.get e' 6 = .int .i64 i →
   Env.get e' 7 = .lit ((acc ++ new).map ints) false (some 1) → Env.get e' 8 = .int .i64 k → K (some (.exit 4)) e' [.cells (roomCells r), .tok 1 (acc ++ new).length ex']) :
  rK (K := ⟨K⟩) T (.loop L115_4) e [.cells (roomCells r), .tok 1 acc.length ex] := by
 refine loopE (S := Nat × List (List Int) × Bool) (0, acc, ex) (fun s => s.1 ≤ m ∧ s.2.1.length ≤ acc.length + s.1 ∧ s.2.1 ++ (numbers s.1 (m - s.1)).map (fun n => c ++ [n]) = acc ++ (numbers 0 m).map (fun n => c ++ [n])) (fun s => m - s.1)
  (fun s => [(2, .ptr 0 0), (1, .int .i64 many), (5, intss (listsOf m i)), (6, .int .i64 i), (7, .lit (s.2.1.map ints) false (some 1)), (8, .int .i64 k), (9, .int .i64 s.1)]) (fun s => [.cells (roomCells r), .tok 1 s.2.1.length s.2.2]) ⟨by simp, by simp, by simp⟩ rfl ?_ fun s hs => ?_
 ·try simp only [TrimX, QE, Nat.reduceLT, reduceIte, Nat.reduceEqDiff, Nat.reduceAdd, Nat.reduceLeDiff, Nat.reduceMul, Nat.reduceBEq, QXRm8, e1, e2, e5, e6, e7, e8, e9]
  try simp
 ·obtain ⟨a, l, ex1⟩ := s
  obtain ⟨h1, h2, h3⟩ := hs
  simp only at h1 h2 h3
  (repeat (first | simp only [↓QA, QB, Nat.reduceLT, reduceIte, Nat.reduceEqDiff, Nat.reduceAdd, Nat.reduceLeDiff, Nat.reduceMul, Nat.reduceBEq, QXRm8, L115_4, hm] | refine rd0 rfl ?_))
  refine iteP_intro (fun h => ?_) fun h => ?_
  ·have ha : a < m := by simpa using h
   have hw : IntKind.i64.wrap ((a : Int) + 1) = ((a + 1 : Nat) : Int) := wrapN ha (by omega)
   rw [show m - a = (m - (a + 1)) + 1 by omega] at h3
   simp only [numbers, List.map_cons] at h3
   have h3' : l ++ [c ++ [(a : Int)]] ++ (numbers ((a + 1 : Nat) : Int) (m - (a + 1))).map (fun n => c ++ [n]) = acc ++ (numbers 0 m).map (fun n => c ++ [n]) := by
    rw [← h3]; simp
   have hk1' : k < (listsOf m i).length := hk1
   have hok : ∀ t f, AppOk 1 24 (l.map ints) [.lit (c.map (.int .i64) ++ [.int .i64 a]) f t] := fun t f => ⟨allCells_ints l, by simp [allCells, AV.cells, AV.cell], by simp [room]; omega, by simp [room]; omega⟩
   have hset : ∀ (b : ABlk) (τ : St), (b :: (.tok 1 l.length ex1) :: τ)[1]? = some (.tok 1 l.length ex1) := fun b τ => by simp
   (repeat (first | simp only [↓QA, QB, Nat.reduceLT, reduceIte, Nat.reduceEqDiff, Nat.reduceAdd, Nat.reduceLeDiff, Nat.reduceMul, Nat.reduceBEq, QXRm8, intss, hk1', hc, ints, E_evs1] | refine rd0 rfl ?_))
   cases c with
   | nil =>
    have q2 : ∀ σ : St, appendAV 1 8 σ (.lit [] true none) (.lit [.int .i64 a] true none) = some (.lit [.int .i64 a] false (some σ.length), σ ++ [.tok 1 1 true]) := fun σ => app_full (xs := []) ⟨rfl, by simp [allCells, AV.cells, AV.cell], by simp [room], by simp [room]⟩ (by simp)
    have q3 : ∀ (b : ABlk) (σ : St), appendAV 1 24 (b :: (.tok 1 l.length ex1) :: σ) (.lit (l.map ints) false (some 1)) (.lit [.lit [.int .i64 a] false (some 2)] true none) = some (.lit (l.map ints ++ [.lit [.int .i64 a] false (some 2)]) false (some 1), b :: (.tok 1 (l.length + 1) true) :: σ) := fun b σ => by
     rw [app_tok (ex := ex1) (by simpa using hok (some 2) false) (by simp) (by simp)]; simp
    (repeat (first | simp only [↓QA, QB, Nat.reduceLT, reduceIte, Nat.reduceEqDiff, Nat.reduceAdd, Nat.reduceLeDiff, Nat.reduceMul, Nat.reduceBEq, QXRm8, app_nil, q2, q3, List.map_nil] | refine rd0 rfl ?_))
    refine ⟨(a + 1, l ++ [[(a : Int)]], true), ⟨by simp only; omega, by simp only [List.length_append, List.length_cons, List.length_nil]; omega, by simpa using h3'⟩, by simp only; omega, ?_⟩
    try simp only [TrimX, QE, Nat.reduceLT, reduceIte, Nat.reduceEqDiff, Nat.reduceAdd, Nat.reduceLeDiff, Nat.reduceMul, Nat.reduceBEq, QXRm8, hw, List.map_append, List.length_append, List.map_cons, List.map_nil, intss]
    try simp [okBlk]
   | cons x xs =>
    have q1 : ∀ σ : St, appendAV 1 8 σ (.lit [] true none) (.lit (.int .i64 x :: xs.map (.int .i64)) false none) = some (.lit (.int .i64 x :: xs.map (.int .i64)) false (some σ.length), σ ++ [.tok 1 (xs.length + 1) true]) := fun σ => by
     rw [app_full (ys := .int .i64 x :: xs.map (.int .i64)) ⟨rfl, allCells_int (x :: xs), by simp [room] at hcl ⊢; omega, by simp [room] at hcl ⊢; omega⟩ (by simp)]; simp
    have q2 : ∀ b c : ABlk, appendAV 1 8 [b, c, .tok 1 (xs.length + 1) true] (.lit (.int .i64 x :: xs.map (.int .i64)) false (some 2)) (.lit [.int .i64 a] true none) = some (.lit (.int .i64 x :: (xs.map (.int .i64) ++ [.int .i64 a])) false (some 2), [b, c, .tok 1 (xs.length + 2) true]) := fun b c => by
     rw [app_tok (xs := .int .i64 x :: xs.map (.int .i64)) (ex := true) ⟨allCells_int (x :: xs), by simp [allCells, AV.cells, AV.cell], by simp [room] at hcl ⊢; omega, by simp [room] at hcl ⊢; omega⟩ (by simp) (by simp)]; simp
    have q3 : ∀ (b : ABlk) (σ : St), appendAV 1 24 (b :: (.tok 1 l.length ex1) :: σ) (.lit (l.map ints) false (some 1)) (.lit [.lit (.int .i64 x :: (xs.map (.int .i64) ++ [.int .i64 a])) false (some 2)] true none) = some (.lit (l.map ints ++ [.lit (.int .i64 x :: (xs.map (.int .i64) ++ [.int .i64 a])) false (some 2)]) false (some 1), b :: (.tok 1 (l.length + 1) true) :: σ) := fun b σ => by
     rw [app_tok (ex := ex1) (by simpa using hok (some 2) false) (by simp) (by simp)]; simp
    (repeat (first | simp only [↓QA, QB, Nat.reduceLT, reduceIte, Nat.reduceEqDiff, Nat.reduceAdd, Nat.reduceLeDiff, Nat.reduceMul, Nat.reduceBEq, QXRm8, q1, q2, q3, List.map_cons] | refine rd0 rfl ?_))
    refine ⟨(a + 1, l ++ [x :: xs ++ [(a : Int)]], true), ⟨by simp only; omega, by simp only [List.length_append, List.length_cons, List.length_nil]; omega, by simpa using h3'⟩, by simp only; omega, ?_⟩
    try simp only [TrimX, QE, Nat.reduceLT, reduceIte, Nat.reduceEqDiff, Nat.reduceAdd, Nat.reduceLeDiff, Nat.reduceMul, Nat.reduceBEq, QXRm8, hw, List.map_append, List.length_append, List.map_cons, List.map_nil, intss]
    try simp [okBlk]
  ·have ha : a = m := by simp at h; omega
   subst ha
   rw [Nat.sub_self] at h3
   simp only [numbers, List.map_nil, List.append_nil] at h3
   subst h3
   (repeat (first | simp only [↓QA, QB, Nat.reduceLT, reduceIte, Nat.reduceEqDiff, Nat.reduceAdd, Nat.reduceLeDiff, Nat.reduceMul, Nat.reduceBEq, QXRm8] | refine rd0 rfl ?_))
   refine hK _ ex1 _ rfl ?_ ?_ ?_ ?_ ?_ ?_
   all_goals try simp only [TrimX, QE, Nat.reduceLT, reduceIte, Nat.reduceEqDiff, Nat.reduceAdd, Nat.reduceLeDiff, Nat.reduceMul, Nat.reduceBEq, QXRm8]
theorem lists_ok (r : Rm) (many : Nat) (hv : Vd r) (hm : many ≤ 7) : Pure T 115 [encRoom r, .int .i64 many] (intss (listsOf r.settings.length many)) := by
 refine pure_fn (af := a115) rfl (by simp [a115]) dd ?_
 obtain ⟨m, hmm⟩ : ∃ m, r.settings.length = m := ⟨_, rfl⟩
 have hm4 : m ≤ 4 := by have := hv.nset; omega
 rw [hmm]
 (repeat (first | simp only [↓QA, QB, Nat.reduceLT, reduceIte, Nat.reduceEqDiff, Nat.reduceAdd, Nat.reduceLeDiff, Nat.reduceMul, Nat.reduceBEq, QXRm8, a115] | refine rd0 rfl ?_))
 refine loopE (S := Nat) 0 (fun i => i ≤ many) (fun i => many - i) (fun i => [(2, .ptr 0 0), (1, .int .i64 many), (5, intss (listsOf m i)), (6, .int .i64 i)]) (fun _ => [.cells (roomCells r)]) (Nat.zero_le _) (by simp [roomCells, ints]) ?_ fun i hi => ?_
 ·try simp only [TrimX, QE, Nat.reduceLT, reduceIte, Nat.reduceEqDiff, Nat.reduceAdd, Nat.reduceLeDiff, Nat.reduceMul, Nat.reduceBEq, QXRm8]
  simp [intss, ints, listsOf, clr, clrs]
 ·(repeat (first | simp only [↓QA, QB, Nat.reduceLT, reduceIte, Nat.reduceEqDiff, Nat.reduceAdd, Nat.reduceLeDiff, Nat.reduceMul, Nat.reduceBEq, QXRm8, L115_0, intss] | refine rd0 rfl ?_))
  refine iteP_intro (fun h => ?_) fun h => ?_
  ·have hi1 : i < many := by simpa using h
   have hsm := listsOf_small hm4 (show i ≤ 8 by omega)
   have hsm1 := listsOf_small hm4 (show i + 1 ≤ 8 by omega)
   (repeat (first | simp only [↓QA, QB, Nat.reduceLT, reduceIte, Nat.reduceEqDiff, Nat.reduceAdd, Nat.reduceLeDiff, Nat.reduceMul, Nat.reduceBEq, QXRm8] | refine rd0 rfl ?_))
   refine ghostK 7 1 [] rfl ?_
   refine loopE (S := Nat × List (List Int) × Bool) (0, [], false) (fun s => s.1 ≤ (listsOf m i).length ∧ s.2.1 ++ ((listsOf m i).drop s.1).flatMap (fun c => (numbers 0 m).map fun n => c ++ [n]) = listsOf m (i + 1)) (fun s => (listsOf m i).length - s.1)
    (fun s => [(2, .ptr 0 0), (1, .int .i64 many), (5, intss (listsOf m i)), (6, .int .i64 i), (7, .lit (s.2.1.map ints) false (some 1)), (8, .int .i64 s.1)]) (fun s => [.cells (roomCells r), .tok 1 s.2.1.length s.2.2]) ⟨Nat.zero_le _, by simp [listsOf]⟩ (by simp [roomCells, ints]) ?_ fun s hs => ?_
   ·try simp only [TrimX, QE, Nat.reduceLT, reduceIte, Nat.reduceEqDiff, Nat.reduceAdd, Nat.reduceLeDiff, Nat.reduceMul, Nat.reduceBEq, QXRm8, intss]
    try simp
   ·obtain ⟨k, acc, ex⟩ := s
    obtain ⟨hk, hacc⟩ := hs
    simp only at hk hacc
    (repeat (first | simp only [↓QA, QB, Nat.reduceLT, reduceIte, Nat.reduceEqDiff, Nat.reduceAdd, Nat.reduceLeDiff, Nat.reduceMul, Nat.reduceBEq, QXRm8, L115_2, intss] | refine rd0 rfl ?_))
    refine iteP_intro (fun h2 => ?_) fun h2 => ?_
    ·have hk1 : k < (listsOf m i).length := by simpa using h2
     have hmem := List.getElem_mem hk1
     obtain ⟨c, hc⟩ : ∃ c, (listsOf m i)[k] = c := ⟨_, rfl⟩
     rw [hc] at hmem
     obtain ⟨hlen, hrng⟩ := listsOf_spec m i c hmem
     rw [List.drop_eq_getElem_cons hk1, hc, List.flatMap_cons] at hacc
     have hacl : acc.length ≤ 65536 := by
      have := congrArg List.length hacc
      simp only [List.length_append] at this
      omega
     have hwk : IntKind.i64.wrap ((k : Int) + 1) = ((k + 1 : Nat) : Int) := wrapN hk1 (by omega)
     (repeat (first | simp only [↓QA, QB, Nat.reduceLT, reduceIte, Nat.reduceEqDiff, Nat.reduceAdd, Nat.reduceLeDiff, Nat.reduceMul, Nat.reduceBEq, QXRm8] | refine rd0 rfl ?_))
     have hin := lists_in r m many i k acc ex c
     rw [roomCells_eq] at hin
     refine hin _ _ hmm hm4 hk1 hc (by omega) hacl ?_ ?_ ?_ ?_ ?_ ?_ ?_ ?_
     all_goals try simp only [TrimX, QE, Nat.reduceLT, reduceIte, Nat.reduceEqDiff, Nat.reduceAdd, Nat.reduceLeDiff, Nat.reduceMul, Nat.reduceBEq, QXRm8, intss]
     intro e' ex' new hnew q0 q1 q5 q6 q7 q8
     (repeat (first | simp only [↓QA, QB, Nat.reduceLT, reduceIte, Nat.reduceEqDiff, Nat.reduceAdd, Nat.reduceLeDiff, Nat.reduceMul, Nat.reduceBEq, QXRm8, q0, q1, q5, q6, q7, q8, hwk] | refine rd0 rfl ?_))
     refine ⟨(k + 1, acc ++ new, ex'), ⟨by simp only; omega, ?_⟩, by simp only; omega, ?_⟩
     ·rw [← hacc, hnew]; simp
     ·try simp only [TrimX, QE, Nat.reduceLT, reduceIte, Nat.reduceEqDiff, Nat.reduceAdd, Nat.reduceLeDiff, Nat.reduceMul, Nat.reduceBEq, QXRm8, q0, q1, q5, q6, q7, q8, intss, okBlk]
      try simp [okBlk]
    ·have hk1 : k = (listsOf m i).length := by simp at h2; omega
     have hfin : acc = listsOf m (i + 1) := by rw [← hacc, hk1, List.drop_length]; simp
     (repeat (first | simp only [↓QA, QB, Nat.reduceLT, reduceIte, Nat.reduceEqDiff, Nat.reduceAdd, Nat.reduceLeDiff, Nat.reduceMul, Nat.reduceBEq, QXRm8] | refine rd0 rfl ?_))
     refine ⟨i + 1, by omega, by omega, ?_⟩
     try simp only [TrimX, QE, Nat.reduceLT, reduceIte, Nat.reduceEqDiff, Nat.reduceAdd, Nat.reduceLeDiff, Nat.reduceMul, Nat.reduceBEq, QXRm8, wrapN hi1 (show many < 9223372036854775808 by omega), intss, hfin]
  ·have hi1 : i = many := by simp at h; omega
   subst hi1
   (repeat (first | simp only [↓QA, QB, Nat.reduceLT, reduceIte, Nat.reduceEqDiff, Nat.reduceAdd, Nat.reduceLeDiff, Nat.reduceMul, Nat.reduceBEq, QXRm8, intss] | refine rd0 rfl ?_))
end Go.Am.Room
set_option maxRecDepth 4000
namespace Go.Am.Room
def QXRm10 := And.intro @setE_eq (And.intro @bits_len (And.intro @bits_cell (And.intro @bits_take (And.intro @bits_drop (And.intro @bits_zero (And.intro @Nat.mul_one (And.intro @Int.toNat_natCast (And.intro @encRoom_eq (And.intro @roomCells_eq (And.intro @encSetting_eq (And.intro @encLook_eq (And.intro @encSpan_eq (@S_bits)))))))))))))
def encBest (o : Option (List Int × Int)) : AV := match o with | none => .tuple [ints [], .int .i64 (-1)] | some x => .tuple [ints x.1, .int .i64 x.2]
def atOf (o : Option (Nat × Int)) : Int := match o with | none => -1 | some x => x.1
def chOf (o : Option (Nat × Int)) : Int := match o with | none => 0 | some x => x.2
def AtOk (o : Option (Nat × Int)) (n : Nat) : Prop := match o with | none => True | some x => x.1 < n
theorem best_ok (r : Rm) (s : Span) (b : Int) (many : Nat) (c : Int) (hv : Vd r) (hm : many ≤ 7) (h0 : 0 ≤ s.lo) (h1 : 0 ≤ s.hi) (h2 : s.lo < 1000) (h3 : s.hi < 1000) :
  Pure T 90 [encRoom r, encSpan s, .int .i64 b, .int .i64 many, .int .i64 c] (encBest (bestOf r s b many c)) := by
 have hns := hv.nset
 have hsm := listsOf_small hns.2 (show many ≤ 8 by omega)
 have hspec := listsOf_spec r.settings.length many
 unfold bestOf
 obtain ⟨all, hall⟩ : ∃ all, listsOf r.settings.length many = all := ⟨_, rfl⟩
 rw [hall] at hsm hspec ⊢
 refine pure_fn (af := a90) rfl (by simp [a90]) dd ?_
 (repeat (first | simp only [↓QA, QB, Nat.reduceLT, reduceIte, Nat.reduceEqDiff, Nat.reduceAdd, Nat.reduceLeDiff, Nat.reduceMul, Nat.reduceBEq, QXRm10, a90] | refine rd0 rfl ?_))
 ((first | refine callK_d (lists_ok r many hv hm) rfl dd ?_ | refine callD_d (lists_ok r many hv hm) rfl dd ?_); (repeat (first | simp only [↓QA, QB, Nat.reduceLT, reduceIte, Nat.reduceEqDiff, Nat.reduceAdd, Nat.reduceLeDiff, Nat.reduceMul, Nat.reduceBEq, QXRm10, hall] | refine rd0 rfl ?_)))
 refine loopE (S := Nat × Option (Nat × Int)) (0, none) (fun x => x.1 ≤ all.length ∧ bestIx r s b c (all.drop x.1) x.1 x.2 = bestIx r s b c all 0 none ∧ AtOk x.2 all.length) (fun x => all.length - x.1)
  (fun x => [(2, .int .i64 b), (4, .int .i64 c), (5, .ptr 0 0), (6, .ptr 1 0), (12, intss all), (13, .int .i64 (atOf x.2)), (14, .int .i64 (chOf x.2)), (15, .int .i64 x.1)])
  (fun _ => [.cells (roomCells r), .cells [.int .i64 s.lo, .int .i64 s.hi]]) ⟨by simp, by simp, trivial⟩ (by simp [roomCells, ints]) ?_ fun x hx => ?_
 ·try simp only [TrimX, QE, Nat.reduceLT, reduceIte, Nat.reduceEqDiff, Nat.reduceAdd, Nat.reduceLeDiff, Nat.reduceMul, Nat.reduceBEq, QXRm10, atOf, chOf]
  try simp
 ·obtain ⟨k, o⟩ := x
  obtain ⟨hk, hq, hat⟩ := hx
  simp only at hk hq hat
  (repeat (first | simp only [↓QA, QB, Nat.reduceLT, reduceIte, Nat.reduceEqDiff, Nat.reduceAdd, Nat.reduceLeDiff, Nat.reduceMul, Nat.reduceBEq, QXRm10, L90_0, intss] | refine rd0 rfl ?_))
  refine iteP_intro (fun h => ?_) fun h => ?_
  ·have hk1 : k < all.length := by simpa using h
   have hw := wrapN hk1 (by omega)
   obtain ⟨hlen, hrng⟩ := hspec _ (List.getElem_mem hk1)
   have hl7 : all[k].length < 9223372036854775808 := by omega
   rw [List.drop_eq_getElem_cons hk1] at hq
   simp only [bestIx] at hq
   (repeat (first | simp only [↓QA, QB, Nat.reduceLT, reduceIte, Nat.reduceEqDiff, Nat.reduceAdd, Nat.reduceLeDiff, Nat.reduceMul, Nat.reduceBEq, QXRm10, hk1] | refine rd0 rfl ?_))
   ((first | refine callK_d (changes_ok b all[k] hl7) rfl dd ?_ | refine callD_d (changes_ok b all[k] hl7) rfl dd ?_); (repeat (first | simp only [↓QA, QB, Nat.reduceLT, reduceIte, Nat.reduceEqDiff, Nat.reduceAdd, Nat.reduceLeDiff, Nat.reduceMul, Nat.reduceBEq, QXRm10, hk1] | refine rd0 rfl ?_)))
   have fin : ∀ o', (if changesOf b all[k] ≤ r.opens ∧ betr o (changesOf b all[k]) = true ∧ givesOf r s all[k] c = true then some (k, changesOf b all[k]) else o) = o' → bestIx r s b c (all.drop (k + 1)) (k + 1) o' = bestIx r s b c all 0 none := by
    rintro o' rfl; exact hq
   cases g1 : decide (changesOf b all[k] ≤ r.opens)
   ·have g1' : ¬ changesOf b all[k] ≤ r.opens := by simpa using g1
    (repeat (first | simp only [↓QA, QB, Nat.reduceLT, reduceIte, Nat.reduceEqDiff, Nat.reduceAdd, Nat.reduceLeDiff, Nat.reduceMul, Nat.reduceBEq, QXRm10, g1, hk1, intss] | refine rd0 rfl ?_))
    refine ⟨(k + 1, o), ⟨by simp only; omega, fin _ (if_neg fun h => g1' h.1), hat⟩, by simp only; omega, ?_⟩
    try simp only [TrimX, QE, Nat.reduceLT, reduceIte, Nat.reduceEqDiff, Nat.reduceAdd, Nat.reduceLeDiff, Nat.reduceMul, Nat.reduceBEq, QXRm10, hw, intss]
    try simp [okBlk, okVs, okV]
   ·have g1' : changesOf b all[k] ≤ r.opens := by simpa using g1
    cases o with
    | none =>
     (repeat (first | simp only [↓QA, QB, Nat.reduceLT, reduceIte, Nat.reduceEqDiff, Nat.reduceAdd, Nat.reduceLeDiff, Nat.reduceMul, Nat.reduceBEq, QXRm10, g1, hk1, intss, atOf, chOf, show decide ((-1 : Int) < 0) = true from rfl] | refine rd0 rfl ?_))
     ((first | refine callK_d (gives_ok r s all[k] c hv (by omega) hrng h0 h1 h2 h3) rfl dd ?_ | refine callD_d (gives_ok r s all[k] c hv (by omega) hrng h0 h1 h2 h3) rfl dd ?_); (repeat (first | simp only [↓QA, QB, Nat.reduceLT, reduceIte, Nat.reduceEqDiff, Nat.reduceAdd, Nat.reduceLeDiff, Nat.reduceMul, Nat.reduceBEq, QXRm10, hk1, intss] | refine rd0 rfl ?_)))
     cases g2 : givesOf r s all[k] c
     ·(repeat (first | simp only [↓QA, QB, Nat.reduceLT, reduceIte, Nat.reduceEqDiff, Nat.reduceAdd, Nat.reduceLeDiff, Nat.reduceMul, Nat.reduceBEq, QXRm10, g2, hk1, intss] | refine rd0 rfl ?_))
      refine ⟨(k + 1, none), ⟨by simp only; omega, fin _ (if_neg fun h => by rw [g2] at h; cases h.2.2), trivial⟩, by simp only; omega, ?_⟩
      try simp only [TrimX, QE, Nat.reduceLT, reduceIte, Nat.reduceEqDiff, Nat.reduceAdd, Nat.reduceLeDiff, Nat.reduceMul, Nat.reduceBEq, QXRm10, hw, intss, atOf, chOf]
      try simp [okBlk, okVs, okV]
     ·(repeat (first | simp only [↓QA, QB, Nat.reduceLT, reduceIte, Nat.reduceEqDiff, Nat.reduceAdd, Nat.reduceLeDiff, Nat.reduceMul, Nat.reduceBEq, QXRm10, g2, hk1, intss] | refine rd0 rfl ?_))
      refine ⟨(k + 1, some (k, changesOf b all[k])), ⟨by simp only; omega, fin _ (if_pos ⟨g1', rfl, g2⟩), hk1⟩, by simp only; omega, ?_⟩
      try simp only [TrimX, QE, Nat.reduceLT, reduceIte, Nat.reduceEqDiff, Nat.reduceAdd, Nat.reduceLeDiff, Nat.reduceMul, Nat.reduceBEq, QXRm10, hw, intss, atOf, chOf]
      try simp [okBlk, okVs, okV]
    | some x =>
     obtain ⟨j, n⟩ := x
     have gj : decide ((j : Int) < 0) = false := by simp
     (repeat (first | simp only [↓QA, QB, Nat.reduceLT, reduceIte, Nat.reduceEqDiff, Nat.reduceAdd, Nat.reduceLeDiff, Nat.reduceMul, Nat.reduceBEq, QXRm10, g1, hk1, intss, atOf, chOf, gj] | refine rd0 rfl ?_))
     cases g3 : decide (changesOf b all[k] < n)
     ·have g3' : ¬ changesOf b all[k] < n := by simpa using g3
      (repeat (first | simp only [↓QA, QB, Nat.reduceLT, reduceIte, Nat.reduceEqDiff, Nat.reduceAdd, Nat.reduceLeDiff, Nat.reduceMul, Nat.reduceBEq, QXRm10, g3, hk1, intss] | refine rd0 rfl ?_))
      refine ⟨(k + 1, some (j, n)), ⟨by simp only; omega, fin _ (if_neg fun h => g3' (of_decide_eq_true h.2.1)), hat⟩, by simp only; omega, ?_⟩
      try simp only [TrimX, QE, Nat.reduceLT, reduceIte, Nat.reduceEqDiff, Nat.reduceAdd, Nat.reduceLeDiff, Nat.reduceMul, Nat.reduceBEq, QXRm10, hw, intss, atOf, chOf]
      try simp [okBlk, okVs, okV]
     ·have g3' : changesOf b all[k] < n := by simpa using g3
      (repeat (first | simp only [↓QA, QB, Nat.reduceLT, reduceIte, Nat.reduceEqDiff, Nat.reduceAdd, Nat.reduceLeDiff, Nat.reduceMul, Nat.reduceBEq, QXRm10, g3, hk1, intss] | refine rd0 rfl ?_))
      ((first | refine callK_d (gives_ok r s all[k] c hv (by omega) hrng h0 h1 h2 h3) rfl dd ?_ | refine callD_d (gives_ok r s all[k] c hv (by omega) hrng h0 h1 h2 h3) rfl dd ?_); (repeat (first | simp only [↓QA, QB, Nat.reduceLT, reduceIte, Nat.reduceEqDiff, Nat.reduceAdd, Nat.reduceLeDiff, Nat.reduceMul, Nat.reduceBEq, QXRm10, hk1, intss] | refine rd0 rfl ?_)))
      cases g2 : givesOf r s all[k] c
      ·(repeat (first | simp only [↓QA, QB, Nat.reduceLT, reduceIte, Nat.reduceEqDiff, Nat.reduceAdd, Nat.reduceLeDiff, Nat.reduceMul, Nat.reduceBEq, QXRm10, g2, hk1, intss] | refine rd0 rfl ?_))
       refine ⟨(k + 1, some (j, n)), ⟨by simp only; omega, fin _ (if_neg fun h => by rw [g2] at h; cases h.2.2), hat⟩, by simp only; omega, ?_⟩
       try simp only [TrimX, QE, Nat.reduceLT, reduceIte, Nat.reduceEqDiff, Nat.reduceAdd, Nat.reduceLeDiff, Nat.reduceMul, Nat.reduceBEq, QXRm10, hw, intss, atOf, chOf]
       try simp [okBlk, okVs, okV]
      ·(repeat (first | simp only [↓QA, QB, Nat.reduceLT, reduceIte, Nat.reduceEqDiff, Nat.reduceAdd, Nat.reduceLeDiff, Nat.reduceMul, Nat.reduceBEq, QXRm10, g2, hk1, intss] | refine rd0 rfl ?_))
       refine ⟨(k + 1, some (k, changesOf b all[k])), ⟨by simp only; omega, fin _ (if_pos ⟨g1', decide_eq_true g3', g2⟩), hk1⟩, by simp only; omega, ?_⟩
       try simp only [TrimX, QE, Nat.reduceLT, reduceIte, Nat.reduceEqDiff, Nat.reduceAdd, Nat.reduceLeDiff, Nat.reduceMul, Nat.reduceBEq, QXRm10, hw, intss, atOf, chOf]
       try simp [okBlk, okVs, okV]
  ·have hk1 : k = all.length := by simp at h; omega
   rw [hk1, List.drop_length] at hq
   simp only [bestIx] at hq
   rw [← hq]
   cases o with
   | none =>
    (repeat (first | simp only [↓QA, QB, Nat.reduceLT, reduceIte, Nat.reduceEqDiff, Nat.reduceAdd, Nat.reduceLeDiff, Nat.reduceMul, Nat.reduceBEq, QXRm10, atOf, chOf, show decide ((-1 : Int) < 0) = true from rfl, encBest, Option.map_none] | refine rd0 rfl ?_))
    rfl
   | some x =>
    obtain ⟨j, n⟩ := x
    have hj : j < all.length := hat
    have gj : decide ((j : Int) < 0) = false := by simp
    (repeat (first | simp only [↓QA, QB, Nat.reduceLT, reduceIte, Nat.reduceEqDiff, Nat.reduceAdd, Nat.reduceLeDiff, Nat.reduceMul, Nat.reduceBEq, QXRm10, atOf, chOf, gj, hj, encBest, Option.map_some, intss] | refine rd0 rfl ?_))
    try simp [hj]
    try try simp only [QS, QC, Nat.reduceLT, reduceIte, Nat.reduceEqDiff, Nat.reduceAdd, Nat.reduceLeDiff, Nat.reduceMul, Nat.reduceBEq, QXRm10, intss]
end Go.Am.Room
set_option maxRecDepth 4000
namespace Go.Am.Room
def QXRm11 := And.intro @setE_eq (And.intro @bits_len (And.intro @bits_cell (And.intro @bits_take (And.intro @bits_drop (And.intro @bits_zero (And.intro @Nat.mul_one (And.intro @Int.toNat_natCast (And.intro @encRoom_eq (And.intro @roomCells_eq (And.intro @encSetting_eq (And.intro @encLook_eq (And.intro @encSpan_eq (@S_bits)))))))))))))
theorem listsOf_mem {r : Rm} {b c : Int} {s : Span} {all : List (List Int)} : ∀ (ls : List (List Int)) (i : Nat) (o : Option (Nat × Int)), (∀ x, o = some x → 0 ≤ x.2) → ∀ x, bestIx r s b c ls i o = some x → 0 ≤ x.2
 | [], _, o, h, x, hx => h x hx
 | l :: ls, i, o, h, x, hx => by
  simp only [bestIx] at hx
  refine listsOf_mem (all := all) ls (i + 1) _ ?_ x hx
  intro y hy
  split at hy
  ·cases hy; exact (changesOf_bd l b).1
  ·exact h y hy
theorem best_nn {r : Rm} {s : Span} {b c : Int} {many : Nat} {x : List Int × Int} (h : bestOf r s b many c = some x) : 0 ≤ x.2 := by
 unfold bestOf at h
 cases h1 : bestIx r s b c (listsOf r.settings.length many) 0 none with
 | none => rw [h1] at h; cases h
 | some y =>
  rw [h1] at h
  cases h
  exact listsOf_mem (all := []) _ _ _ (fun x hx => by cases hx) y h1
theorem refplan_ok (r : Rm) (day c : Int) (hf : Fits r) : Pure T 30 [encRoom r, .int .i64 day, .int .i64 c] (encLNE (planOf r day c)) := by
 refine pure_fn (af := a30) rfl (by simp [a30]) dd ?_
 (repeat (first | simp only [↓QA, QB, Nat.reduceLT, reduceIte, Nat.reduceEqDiff, Nat.reduceAdd, Nat.reduceLeDiff, Nat.reduceMul, Nat.reduceBEq, QXRm11, a30] | refine rd0 rfl ?_))
 ((first | refine callK_d (today_ok r) rfl dd ?_ | refine callD_d (today_ok r) rfl dd ?_); (repeat (first | simp only [↓QA, QB, Nat.reduceLT, reduceIte, Nat.reduceEqDiff, Nat.reduceAdd, Nat.reduceLeDiff, Nat.reduceMul, Nat.reduceBEq, QXRm11] | refine rd0 rfl ?_)))
 ((first | refine callK_d (asked_ok r day r.ran.length r.days hf) rfl dd ?_ | refine callD_d (asked_ok r day r.ran.length r.days hf) rfl dd ?_); (repeat (first | simp only [↓QA, QB, Nat.reduceLT, reduceIte, Nat.reduceEqDiff, Nat.reduceAdd, Nat.reduceLeDiff, Nat.reduceMul, Nat.reduceBEq, QXRm11] | refine rd0 rfl ?_)))
 cases h0 : (errAsk r day r.ran.length r.days == 0)
 case' false =>
  have h0' : errAsk r day r.ran.length r.days ≠ 0 := by simpa using h0
  have hw : errWant (errAsk r day r.ran.length r.days) c = errAsk r day r.ran.length r.days := by simp [errWant, h0']
  (repeat (first | simp only [↓QA, QB, Nat.reduceLT, reduceIte, Nat.reduceEqDiff, Nat.reduceAdd, Nat.reduceLeDiff, Nat.reduceMul, Nat.reduceBEq, QXRm11, h0] | refine rd0 rfl ?_))
 case' true =>
  have h0' : errAsk r day r.ran.length r.days = 0 := by simpa using h0
  (repeat (first | simp only [↓QA, QB, Nat.reduceLT, reduceIte, Nat.reduceEqDiff, Nat.reduceAdd, Nat.reduceLeDiff, Nat.reduceMul, Nat.reduceBEq, QXRm11, h0] | refine rd0 rfl ?_))
  ((first | refine callK_d (iscolour_ok c) rfl dd ?_ | refine callD_d (iscolour_ok c) rfl dd ?_); (repeat (first | simp only [↓QA, QB, Nat.reduceLT, reduceIte, Nat.reduceEqDiff, Nat.reduceAdd, Nat.reduceLeDiff, Nat.reduceMul, Nat.reduceBEq, QXRm11] | refine rd0 rfl ?_)))
  cases h1 : isColour c
  case' false =>
   have hw : errWant (errAsk r day r.ran.length r.days) c = 7 := by simp [errWant, h0', h1]
   (repeat (first | simp only [↓QA, QB, Nat.reduceLT, reduceIte, Nat.reduceEqDiff, Nat.reduceAdd, Nat.reduceLeDiff, Nat.reduceMul, Nat.reduceBEq, QXRm11, h1] | refine rd0 rfl ?_))
  case' true =>
   have hw : errWant (errAsk r day r.ran.length r.days) c = errAsk r day r.ran.length r.days := by simp [errWant, h0', h1]
   (repeat (first | simp only [↓QA, QB, Nat.reduceLT, reduceIte, Nat.reduceEqDiff, Nat.reduceAdd, Nat.reduceLeDiff, Nat.reduceMul, Nat.reduceBEq, QXRm11, h1] | refine rd0 rfl ?_))
 all_goals
  have hpe : planErr r day c = errKnown r (errWant (errAsk r day r.ran.length r.days) c) := rfl
  have hk := known_ok r (errWant (errAsk r day r.ran.length r.days) c) hf (fun h => (errAsk_ok (errWant_ok h).1).1)
  rw [← hpe, hw] at hk
  ((first | refine callK_d (hk) rfl dd ?_ | refine callD_d (hk) rfl dd ?_); (repeat (first | simp only [↓QA, QB, Nat.reduceLT, reduceIte, Nat.reduceEqDiff, Nat.reduceAdd, Nat.reduceLeDiff, Nat.reduceMul, Nat.reduceBEq, QXRm11] | refine rd0 rfl ?_)))
  cases h5 : (planErr r day c == 0)
  ·have h5' : planErr r day c ≠ 0 := by simpa using h5
   (repeat (first | simp only [↓QA, QB, Nat.reduceLT, reduceIte, Nat.reduceEqDiff, Nat.reduceAdd, Nat.reduceLeDiff, Nat.reduceMul, Nat.reduceBEq, QXRm11, h5, planOf, if_neg h5', encLNE] | refine rd0 rfl ?_))
   try rfl
  ·have h5' : planErr r day c = 0 := by simpa using h5
   obtain ⟨h6, hs⟩ := errKnown_ok h5'
   obtain ⟨hv, hd0, hd1⟩ := errAsk_ok (errWant_ok h6).1
   have hdd := hv.days
   have hdr := hv.ranLen
   obtain ⟨b0, b1, b2, b3⟩ := now_is hv hs
   have hends : joinTo (dayB r [] r.ran.length) 160 = ptsS r r.ran.length := ptsS_eq hv _
   have hsub : IntKind.i64.wrap (day - (r.ran.length : Int)) = (((day - r.ran.length).toNat : Nat) : Int) := by rw [wrap64 ⟨by omega, by omega⟩]; omega
   (repeat (first | simp only [↓QA, QB, Nat.reduceLT, reduceIte, Nat.reduceEqDiff, Nat.reduceAdd, Nat.reduceLeDiff, Nat.reduceMul, Nat.reduceBEq, QXRm11, h5] | refine rd0 rfl ?_))
   ((first | refine callK_d (now_ok r hv hf) rfl dd ?_ | refine callD_d (now_ok r hv hf) rfl dd ?_); (repeat (first | simp only [↓QA, QB, Nat.reduceLT, reduceIte, Nat.reduceEqDiff, Nat.reduceAdd, Nat.reduceLeDiff, Nat.reduceMul, Nat.reduceBEq, QXRm11] | refine rd0 rfl ?_)))
   ((first | refine callK_d (setends_ok _) rfl dd ?_ | refine callD_d (setends_ok _) rfl dd ?_); (repeat (first | simp only [↓QA, QB, Nat.reduceLT, reduceIte, Nat.reduceEqDiff, Nat.reduceAdd, Nat.reduceLeDiff, Nat.reduceMul, Nat.reduceBEq, QXRm11, encEnds, hends] | refine rd0 rfl ?_)))
   ((first | refine callK_d (before_ok r hf) rfl dd ?_ | refine callD_d (before_ok r hf) rfl dd ?_); (repeat (first | simp only [↓QA, QB, Nat.reduceLT, reduceIte, Nat.reduceEqDiff, Nat.reduceAdd, Nat.reduceLeDiff, Nat.reduceMul, Nat.reduceBEq, QXRm11] | refine rd0 rfl ?_)))
   ((first | refine callK_d (today_ok r) rfl dd ?_ | refine callD_d (today_ok r) rfl dd ?_); (repeat (first | simp only [↓QA, QB, Nat.reduceLT, reduceIte, Nat.reduceEqDiff, Nat.reduceAdd, Nat.reduceLeDiff, Nat.reduceMul, Nat.reduceBEq, QXRm11, hsub] | refine rd0 rfl ?_)))
   ((first | refine callK_d (best_ok r (ptsS r r.ran.length) (beforeOf r) (day - r.ran.length).toNat c hv (by omega) b0 (by omega) (by omega) (by omega)) rfl dd ?_ | refine callD_d (best_ok r (ptsS r r.ran.length) (beforeOf r) (day - r.ran.length).toNat c hv (by omega) b0 (by omega) (by omega) (by omega)) rfl dd ?_); (repeat (first | simp only [↓QA, QB, Nat.reduceLT, reduceIte, Nat.reduceEqDiff, Nat.reduceAdd, Nat.reduceLeDiff, Nat.reduceMul, Nat.reduceBEq, QXRm11] | refine rd0 rfl ?_)))
   cases hb : bestOf r (ptsS r r.ran.length) (beforeOf r) (day - r.ran.length).toNat c with
   | none =>
    (repeat (first | simp only [↓QA, QB, Nat.reduceLT, reduceIte, Nat.reduceEqDiff, Nat.reduceAdd, Nat.reduceLeDiff, Nat.reduceMul, Nat.reduceBEq, QXRm11, encBest, show decide ((-1 : Int) < 0) = true from rfl, planOf, if_pos h5', hb, encLNE] | refine rd0 rfl ?_))
    try rfl
   | some x =>
    have hx := best_nn hb
    have gx : decide (x.2 < 0) = false := by simp; omega
    (repeat (first | simp only [↓QA, QB, Nat.reduceLT, reduceIte, Nat.reduceEqDiff, Nat.reduceAdd, Nat.reduceLeDiff, Nat.reduceMul, Nat.reduceBEq, QXRm11, encBest, gx, planOf, if_pos h5', hb, encLNE] | refine rd0 rfl ?_))
    try rfl
end Go.Am.Room
set_option maxRecDepth 4000
namespace Go.Am.Room
def QXRm12 := And.intro @setE_eq (And.intro @bits_len (And.intro @bits_cell (And.intro @bits_take (And.intro @bits_drop (And.intro @bits_zero (And.intro @Nat.mul_one (And.intro @Int.toNat_natCast (And.intro @encRoom_eq (And.intro @roomCells_eq (And.intro @encSetting_eq (And.intro @encLook_eq (And.intro @encSpan_eq (@S_bits)))))))))))))
theorem append_int1 {b : ABlk} {l : List Int} {a : Int} {ex : Bool} (hn : l.length < 100) : appendAV 1 8 [b, .tok 1 l.length ex] (.lit (l.map (.int .i64)) false (some 1)) (.lit [.int .i64 a] true none) = some (.lit ((l ++ [a]).map (.int .i64)) false (some 1), [b, .tok 1 (l.length + 1) true]) := by
 rw [app_tok (ex := ex) ⟨L_allM 1 _ l (fun x => C_int _ _), by simp [allCells, AV.cells, AV.cell], by simp [room]; omega, by simp [room]; omega⟩ (by simp) (by simp)]
 simp
theorem reffill_ok (r : Rm) (day c : Int) (hf : Fits r) : Pure T 32 [encRoom r, .int .i64 day, .int .i64 c] (encLE (fillOf r day c)) := by
 refine pure_fn (af := a32) rfl (by simp [a32]) dd ?_
 (repeat (first | simp only [↓QA, QB, Nat.reduceLT, reduceIte, Nat.reduceEqDiff, Nat.reduceAdd, Nat.reduceLeDiff, Nat.reduceMul, Nat.reduceBEq, QXRm12, a32] | refine rd0 rfl ?_))
 ((first | refine callK_d (asked_ok r day 0 r.days hf) rfl dd ?_ | refine callD_d (asked_ok r day 0 r.days hf) rfl dd ?_); (repeat (first | simp only [↓QA, QB, Nat.reduceLT, reduceIte, Nat.reduceEqDiff, Nat.reduceAdd, Nat.reduceLeDiff, Nat.reduceMul, Nat.reduceBEq, QXRm12] | refine rd0 rfl ?_)))
 cases h0 : (errAsk r day 0 r.days == 0)
 ·have h0' : errAsk r day 0 r.days ≠ 0 := by simpa using h0
  have hw : fillErr r day c = errAsk r day 0 r.days := by simp [fillErr, errWant, h0']
  have hfo : fillOf r day c = ([], fillErr r day c) := if_neg (by rw [hw]; exact h0')
  rw [hfo, hw]
  (repeat (first | simp only [↓QA, QB, Nat.reduceLT, reduceIte, Nat.reduceEqDiff, Nat.reduceAdd, Nat.reduceLeDiff, Nat.reduceMul, Nat.reduceBEq, QXRm12, h0] | refine rd0 rfl ?_))
  rfl
 ·have h0' : errAsk r day 0 r.days = 0 := by simpa using h0
  (repeat (first | simp only [↓QA, QB, Nat.reduceLT, reduceIte, Nat.reduceEqDiff, Nat.reduceAdd, Nat.reduceLeDiff, Nat.reduceMul, Nat.reduceBEq, QXRm12, h0] | refine rd0 rfl ?_))
  ((first | refine callK_d (iscolour_ok c) rfl dd ?_ | refine callD_d (iscolour_ok c) rfl dd ?_); (repeat (first | simp only [↓QA, QB, Nat.reduceLT, reduceIte, Nat.reduceEqDiff, Nat.reduceAdd, Nat.reduceLeDiff, Nat.reduceMul, Nat.reduceBEq, QXRm12] | refine rd0 rfl ?_)))
  cases h1 : isColour c
  ·have hw : fillErr r day c = 7 := by simp [fillErr, errWant, h0', h1]
   have hfo : fillOf r day c = ([], fillErr r day c) := if_neg (by rw [hw]; decide)
   rw [hfo, hw]
   (repeat (first | simp only [↓QA, QB, Nat.reduceLT, reduceIte, Nat.reduceEqDiff, Nat.reduceAdd, Nat.reduceLeDiff, Nat.reduceMul, Nat.reduceBEq, QXRm12, h1, show ((7 : Int) == 0) = false from rfl] | refine rd0 rfl ?_))
   rfl
  ·have hw : fillErr r day c = errAsk r day 0 r.days := by simp [fillErr, errWant, h0', h1]
   have h5' : fillErr r day c = 0 := hw.trans h0'
   obtain ⟨hv, hd0, hd1⟩ := errAsk_ok (errWant_ok h5').1
   have hdd := hv.days
   have hst := hv.start
   obtain ⟨D, hD⟩ : ∃ D : Nat, D = (day + 1).toNat := ⟨_, rfl⟩
   (repeat (first | simp only [↓QA, QB, Nat.reduceLT, reduceIte, Nat.reduceEqDiff, Nat.reduceAdd, Nat.reduceLeDiff, Nat.reduceMul, Nat.reduceBEq, QXRm12, h0, h1] | refine rd0 rfl ?_))
   have hfo : fillOf r day c = ((numbers 0 (day + 1).toNat).filter (fills r day c), 0) := if_pos h5'
   rw [hfo, ← hD]
   obtain ⟨R, hR⟩ : ∃ R, (numbers 0 D).filter (fills r day c) = R := ⟨_, rfl⟩
   have hR' : [] ++ (numbers ((0 : Nat) : Int) (D - 0)).filter (fills r day c) = R := hR
   rw [hR]
   refine ghostK 9 1 [] rfl ?_
   refine loopE (S := Nat × List Int × Bool) (0, [], false) (fun s => s.1 ≤ D ∧ s.2.1.length ≤ s.1 ∧ s.2.1 ++ (numbers s.1 (D - s.1)).filter (fills r day c) = R) (fun s => D - s.1)
    (fun s => [(1, .int .i64 day), (2, .int .i64 c), (3, .ptr 0 0), (9, .lit (s.2.1.map (.int .i64)) false (some 1)), (10, .int .i64 s.1)])
    (fun s => [.cells (roomCells r), .tok 1 s.2.1.length s.2.2]) ⟨by simp, by simp, hR'⟩ (by simp [roomCells, ints]) ?_ fun s hs => ?_
   ·try simp only [TrimX, QE, Nat.reduceLT, reduceIte, Nat.reduceEqDiff, Nat.reduceAdd, Nat.reduceLeDiff, Nat.reduceMul, Nat.reduceBEq, QXRm12]
    try simp
   ·obtain ⟨k, acc, ex⟩ := s
    obtain ⟨hk, hal, hacc⟩ := hs
    simp only at hk hal hacc
    (repeat (first | simp only [↓QA, QB, Nat.reduceLT, reduceIte, Nat.reduceEqDiff, Nat.reduceAdd, Nat.reduceLeDiff, Nat.reduceMul, Nat.reduceBEq, QXRm12, L32_0] | refine rd0 rfl ?_))
    refine iteP_intro (fun h => ?_) fun h => ?_
    ·have hk1 : k < D := by simp at h; omega
     have hw : IntKind.i64.wrap ((k : Int) + 1) = ((k + 1 : Nat) : Int) := wrapN hk1 (by omega)
     have hsub : IntKind.i64.wrap (day - (k : Int)) = (((day - k).toNat : Nat) : Int) := by rw [wrap64 ⟨by omega, by omega⟩]; omega
     rw [show D - k = (D - (k + 1)) + 1 by omega] at hacc
     simp only [numbers, List.filter_cons] at hacc
     (repeat (first | simp only [↓QA, QB, Nat.reduceLT, reduceIte, Nat.reduceEqDiff, Nat.reduceAdd, Nat.reduceLeDiff, Nat.reduceMul, Nat.reduceBEq, QXRm12, hsub] | refine rd0 rfl ?_))
     ((first | refine callK_d (best_ok r r.start (-1) (day - k).toNat c hv (by omega) hst.1 (by omega) (by omega) (by omega)) rfl dd ?_ | refine callD_d (best_ok r r.start (-1) (day - k).toNat c hv (by omega) hst.1 (by omega) (by omega) (by omega)) rfl dd ?_); (repeat (first | simp only [↓QA, QB, Nat.reduceLT, reduceIte, Nat.reduceEqDiff, Nat.reduceAdd, Nat.reduceLeDiff, Nat.reduceMul, Nat.reduceBEq, QXRm12] | refine rd0 rfl ?_)))
     cases hb : bestOf r r.start (-1) (day - k).toNat c with
     | none =>
      have hrc : fills r day c k = false := by unfold fills; rw [hb]; rfl
      rw [hrc] at hacc
      (repeat (first | simp only [↓QA, QB, Nat.reduceLT, reduceIte, Nat.reduceEqDiff, Nat.reduceAdd, Nat.reduceLeDiff, Nat.reduceMul, Nat.reduceBEq, QXRm12, encBest, show decide ((0 : Int) ≤ -1) = false from rfl] | refine rd0 rfl ?_))
      refine ⟨(k + 1, acc, ex), ⟨by simp only; omega, by simp only; omega, by simpa using hacc⟩, by simp only; omega, ?_⟩
      try simp only [TrimX, QE, Nat.reduceLT, reduceIte, Nat.reduceEqDiff, Nat.reduceAdd, Nat.reduceLeDiff, Nat.reduceMul, Nat.reduceBEq, QXRm12, hw]
      try simp [okBlk, okVs, okV]
     | some x =>
      have hx := best_nn hb
      have gx : decide (0 ≤ x.2) = true := by simpa using hx
      have hrc : fills r day c k = true := by unfold fills; rw [hb]; rfl
      rw [hrc] at hacc
      have hap := fun b => append_int1 (b := b) (l := acc) (a := k) (ex := ex) (by omega)
      (repeat (first | simp only [↓QA, QB, Nat.reduceLT, reduceIte, Nat.reduceEqDiff, Nat.reduceAdd, Nat.reduceLeDiff, Nat.reduceMul, Nat.reduceBEq, QXRm12, encBest, gx, hap] | refine rd0 rfl ?_))
      refine ⟨(k + 1, acc ++ [(k : Int)], true), ⟨by simp only; omega, by simp only [List.length_append, List.length_cons, List.length_nil]; omega, by simpa using hacc⟩, by simp only; omega, ?_⟩
      try simp only [TrimX, QE, Nat.reduceLT, reduceIte, Nat.reduceEqDiff, Nat.reduceAdd, Nat.reduceLeDiff, Nat.reduceMul, Nat.reduceBEq, QXRm12, hw, List.map_append, List.map_cons, List.map_nil]
      try simp [okBlk, okVs, okV]
    ·have hk1 : k = D := by simp at h; omega
     rw [hk1] at hacc
     simp only [Nat.sub_self, numbers, List.filter_nil, List.append_nil] at hacc
     (repeat (first | simp only [↓QA, QB, Nat.reduceLT, reduceIte, Nat.reduceEqDiff, Nat.reduceAdd, Nat.reduceLeDiff, Nat.reduceMul, Nat.reduceBEq, QXRm12, hacc, encLE] | refine rd0 rfl ?_))
     try rfl
theorem choices_pos : ∀ n : Fin 5, 0 < (choices n n).length := by decide
theorem refwrong_ok (r : Rm) (hf : Fits r) : Pure T 34 [encRoom r] (encLE (wrongOf r)) := by
 refine pure_fn (af := a34) rfl (by simp [a34]) dd ?_
 (repeat (first | simp only [↓QA, QB, Nat.reduceLT, reduceIte, Nat.reduceEqDiff, Nat.reduceAdd, Nat.reduceLeDiff, Nat.reduceMul, Nat.reduceBEq, QXRm12, a34] | refine rd0 rfl ?_))
 ((first | refine callK_d (refcheck_ok r hf) rfl dd ?_ | refine callD_d (refcheck_ok r hf) rfl dd ?_); (repeat (first | simp only [↓QA, QB, Nat.reduceLT, reduceIte, Nat.reduceEqDiff, Nat.reduceAdd, Nat.reduceLeDiff, Nat.reduceMul, Nat.reduceBEq, QXRm12, enc3] | refine rd0 rfl ?_)))
 cases h0 : ((check r).2.2 == 0)
 ·have h0' : (check r).2.2 ≠ 0 := by simpa using h0
  have hwo : wrongOf r = ([], (check r).2.2) := if_neg h0'
  rw [hwo]
  (repeat (first | simp only [↓QA, QB, Nat.reduceLT, reduceIte, Nat.reduceEqDiff, Nat.reduceAdd, Nat.reduceLeDiff, Nat.reduceMul, Nat.reduceBEq, QXRm12, h0, encLE] | refine rd0 rfl ?_))
  try rfl
 ·have h0' : (check r).2.2 = 0 := by simpa using h0
  have hwo : wrongOf r = (wrongFrom r r.looks.length 0, 0) := if_pos h0'
  rw [hwo]
  have hv := vd_of_check h0'
  have hll := hv.looksLen
  obtain ⟨N, hN⟩ : ∃ N, r.looks.length = N := ⟨_, rfl⟩
  rw [hN] at hll ⊢
  obtain ⟨W, hW⟩ : ∃ W, wrongFrom r N 0 = W := ⟨_, rfl⟩
  rw [hW]
  (repeat (first | simp only [↓QA, QB, Nat.reduceLT, reduceIte, Nat.reduceEqDiff, Nat.reduceAdd, Nat.reduceLeDiff, Nat.reduceMul, Nat.reduceBEq, QXRm12, h0, hN] | refine rd0 rfl ?_))
  refine loopE (S := Nat) 0 (fun m => m ≤ N ∧ wrongFrom r (N - m) m = W) (fun m => N - m) (fun m => [(1, .ptr 0 0), (7, .int .i64 m)]) (fun _ => [.cells (roomCells r)]) ⟨by simp, hW⟩ (by simp [roomCells, ints]) ?_ fun m hm => ?_
  ·try simp only [TrimX, QE, Nat.reduceLT, reduceIte, Nat.reduceEqDiff, Nat.reduceAdd, Nat.reduceLeDiff, Nat.reduceMul, Nat.reduceBEq, QXRm12]
   try simp
  ·obtain ⟨hm, hq⟩ := hm
   (repeat (first | simp only [↓QA, QB, Nat.reduceLT, reduceIte, Nat.reduceEqDiff, Nat.reduceAdd, Nat.reduceLeDiff, Nat.reduceMul, Nat.reduceBEq, QXRm12, L34_0, hN] | refine rd0 rfl ?_))
   refine iteP_intro (fun h => ?_) fun h => ?_
   ·have hm1 : m < N := by simpa using h
    have hw := wrapN hm1 (by omega)
    rw [show N - m = (N - (m + 1)) + 1 by omega] at hq
    simp only [wrongFrom, hN] at hq
    have hspec := choices_spec N m
    (repeat (first | simp only [↓QA, QB, Nat.reduceLT, reduceIte, Nat.reduceEqDiff, Nat.reduceAdd, Nat.reduceLeDiff, Nat.reduceMul, Nat.reduceBEq, QXRm12, hN] | refine rd0 rfl ?_))
    ((first | refine callK_d (choices_ok N m (by omega) (by omega)) rfl dd ?_ | refine callD_d (choices_ok N m (by omega) (by omega)) rfl dd ?_); (repeat (first | simp only [↓QA, QB, Nat.reduceLT, reduceIte, Nat.reduceEqDiff, Nat.reduceAdd, Nat.reduceLeDiff, Nat.reduceMul, Nat.reduceBEq, QXRm12, hN] | refine rd0 rfl ?_)))
    obtain ⟨L, hL⟩ : ∃ L, choices N m = L := ⟨_, rfl⟩
    rw [hL] at hq hspec ⊢
    have hLl : L.length < 9223372036854775808 := by
     rw [← hL]
     have := choices_len N m
     exact Nat.lt_of_le_of_lt this (by
      calc N ^ m ≤ 4 ^ m := Nat.pow_le_pow_left hll m
       _ ≤ 4 ^ 4 := Nat.pow_le_pow_right (by omega) (by omega)
       _ < 9223372036854775808 := by decide)
    (repeat (first | simp only [↓QA, QB, Nat.reduceLT, reduceIte, Nat.reduceEqDiff, Nat.reduceAdd, Nat.reduceLeDiff, Nat.reduceMul, Nat.reduceBEq, QXRm12, intss] | refine rd0 rfl ?_))
    refine loopE (S := Nat) 0 (fun j => j ≤ L.length ∧ (L.drop j).find? (someB r) = L.find? (someB r)) (fun j => L.length - j) (fun j => [(1, .ptr 0 0), (7, .int .i64 m), (8, intss L), (9, .int .i64 j)]) (fun _ => [.cells (roomCells r)]) ⟨by simp, by simp⟩ (by simp [roomCells, ints]) ?_ fun j hj => ?_
    ·try simp only [TrimX, QE, Nat.reduceLT, reduceIte, Nat.reduceEqDiff, Nat.reduceAdd, Nat.reduceLeDiff, Nat.reduceMul, Nat.reduceBEq, QXRm12, intss]
     try simp
    ·obtain ⟨hj, hfj⟩ := hj
     (repeat (first | simp only [↓QA, QB, Nat.reduceLT, reduceIte, Nat.reduceEqDiff, Nat.reduceAdd, Nat.reduceLeDiff, Nat.reduceMul, Nat.reduceBEq, QXRm12, L34_2, intss] | refine rd0 rfl ?_))
     refine iteP_intro (fun h2 => ?_) fun h2 => ?_
     ·have hj1 : j < L.length := by simpa using h2
      have hw2 := wrapN hj1 hLl
      obtain ⟨hlen, hrng⟩ := hspec _ (List.getElem_mem hj1)
      rw [List.drop_eq_getElem_cons hj1, List.find?_cons] at hfj
      (repeat (first | simp only [↓QA, QB, Nat.reduceLT, reduceIte, Nat.reduceEqDiff, Nat.reduceAdd, Nat.reduceLeDiff, Nat.reduceMul, Nat.reduceBEq, QXRm12, hj1, intss] | refine rd0 rfl ?_))
      ((first | refine callK_d (some_ok r L[j] hv hf (by omega)) rfl dd ?_ | refine callD_d (some_ok r L[j] hv hf (by omega)) rfl dd ?_); (repeat (first | simp only [↓QA, QB, Nat.reduceLT, reduceIte, Nat.reduceEqDiff, Nat.reduceAdd, Nat.reduceLeDiff, Nat.reduceMul, Nat.reduceBEq, QXRm12, hj1, intss] | refine rd0 rfl ?_)))
      cases hs : someB r L[j]
      ·rw [hs] at hfj
       (repeat (first | simp only [↓QA, QB, Nat.reduceLT, reduceIte, Nat.reduceEqDiff, Nat.reduceAdd, Nat.reduceLeDiff, Nat.reduceMul, Nat.reduceBEq, QXRm12, hj1, intss] | refine rd0 rfl ?_))
       refine ⟨j + 1, ⟨by omega, by simpa using hfj⟩, by omega, ?_⟩
       try simp only [TrimX, QE, Nat.reduceLT, reduceIte, Nat.reduceEqDiff, Nat.reduceAdd, Nat.reduceLeDiff, Nat.reduceMul, Nat.reduceBEq, QXRm12, hw2, intss]
       try simp [okBlk, okVs, okV]
      ·rw [hs] at hfj
       have hfind : L.find? (someB r) = some L[j] := by rw [← hfj]
       rw [hfind] at hq
       simp only at hq
       subst hq
       (repeat (first | simp only [↓QA, QB, Nat.reduceLT, reduceIte, Nat.reduceEqDiff, Nat.reduceAdd, Nat.reduceLeDiff, Nat.reduceMul, Nat.reduceBEq, QXRm12, hj1, intss, encLE] | refine rd0 rfl ?_))
       try try simp only [QS, QC, Nat.reduceLT, reduceIte, Nat.reduceEqDiff, Nat.reduceAdd, Nat.reduceLeDiff, Nat.reduceMul, Nat.reduceBEq, QXRm12]
     ·have hj1 : j = L.length := by simp at h2; omega
      rw [hj1, List.drop_length] at hfj
      simp only [List.find?_nil] at hfj
      rw [← hfj] at hq
      simp only at hq
      (repeat (first | simp only [↓QA, QB, Nat.reduceLT, reduceIte, Nat.reduceEqDiff, Nat.reduceAdd, Nat.reduceLeDiff, Nat.reduceMul, Nat.reduceBEq, QXRm12] | refine rd0 rfl ?_))
      refine ⟨m + 1, ⟨by omega, hq⟩, by omega, ?_⟩
      try simp only [TrimX, QE, Nat.reduceLT, reduceIte, Nat.reduceEqDiff, Nat.reduceAdd, Nat.reduceLeDiff, Nat.reduceMul, Nat.reduceBEq, QXRm12, hw]
      try simp [okBlk, okVs, okV]
   ·have hm1 : m = N := by simp at h; omega
    subst hm1
    have hp := choices_pos ⟨m, by omega⟩
    simp only at hp
    rw [Nat.sub_self] at hq
    simp only [wrongFrom, hN] at hq
    (repeat (first | simp only [↓QA, QB, Nat.reduceLT, reduceIte, Nat.reduceEqDiff, Nat.reduceAdd, Nat.reduceLeDiff, Nat.reduceMul, Nat.reduceBEq, QXRm12, hN] | refine rd0 rfl ?_))
    subst hq
    ((first | refine callK_d (choices_ok m m (by omega) (by omega)) rfl dd ?_ | refine callD_d (choices_ok m m (by omega) (by omega)) rfl dd ?_); (repeat (first | simp only [↓QA, QB, Nat.reduceLT, reduceIte, Nat.reduceEqDiff, Nat.reduceAdd, Nat.reduceLeDiff, Nat.reduceMul, Nat.reduceBEq, QXRm12, hN, intss, hp, V_idxI, Int.le_refl, Int.toNat_zero, encLE, List.getElem?_eq_getElem, Option.getD_some] | refine rd0 rfl ?_)))
    try simp [hp]
    try try simp only [QS, QC, Nat.reduceLT, reduceIte, Nat.reduceEqDiff, Nat.reduceAdd, Nat.reduceLeDiff, Nat.reduceMul, Nat.reduceBEq, QXRm12]
    try rfl
end Go.Am.Room
set_option maxRecDepth 8000
namespace Go.Am.Room
theorem plan_len (r : Rm) (day c : Int) : (planOf r day c).1.length ≤ 7 := by
 unfold planOf
 split
 ·rename_i h0
  obtain ⟨h1, hs⟩ := errKnown_ok h0
  obtain ⟨h2, _, _⟩ := errWant_ok h1
  obtain ⟨hv, hd0, hd1⟩ := errAsk_ok h2
  have hdd := hv.days
  have hdr := hv.ranLen
  rcases best_cases r (ptsS r r.ran.length) (beforeOf r) (day - r.ran.length).toNat c with ⟨hb, _⟩ | ⟨j, l, hl, hb, _⟩
  ·rw [hb]; simp
  ·rw [hb]
   have := (listsOf_spec _ _ l (List.mem_of_getElem? hl)).1
   simp only; omega
 ·simp
theorem fill_len (r : Rm) (day c : Int) : (fillOf r day c).1.length ≤ 7 := by
 unfold fillOf
 split
 ·rename_i h0
  obtain ⟨h1, _, _⟩ := errWant_ok h0
  obtain ⟨hv, hd0, hd1⟩ := errAsk_ok h1
  have hdd := hv.days
  have := List.length_filter_le (fills r day c) (numbers 0 (day + 1).toNat)
  rw [numbers_len] at this
  simp only; omega
 ·simp
theorem wrong_len (r : Rm) : (wrongOf r).1.length ≤ 4 := by
 unfold wrongOf
 split
 ·rename_i h0
  have hv := vd_of_check h0
  have hw := (wrFold_spec r r.looks.length (2 ^ r.looks.length) 0 none (fun w h => by cases h) (fun _ t h => by omega)).1 _ (wrong_eq hv)
  obtain ⟨_, t, _, e, _⟩ := hw
  have := lst_len r.looks.length t
  have := hv.looksLen
  simp only; rw [e]; omega
 ·simp
theorem roomplans_ok (r : Rm) (day c : Int) (hf : Fits r) : Pure T 5 [encRoom r, .int .i64 day, .int .i64 c] (.bool true) := by
 refine pure_fn (af := a5) rfl (by simp [a5]) dd ?_
 have h1 := plan_len r day c
 have h2 := fill_len r day c
 have h3 := wrong_len r
 (repeat (first | simp only [↓QA, QB, Nat.reduceLT, reduceIte, Nat.reduceEqDiff, Nat.reduceAdd, Nat.reduceLeDiff, Nat.reduceMul, Nat.reduceBEq, QXLaw2, a5] | refine rd0 rfl ?_))
 ((first | refine callK_d (plan_ok r day c hf) rfl dd ?_ | refine callD_d (plan_ok r day c hf) rfl dd ?_); (repeat (first | simp only [↓QA, QB, Nat.reduceLT, reduceIte, Nat.reduceEqDiff, Nat.reduceAdd, Nat.reduceLeDiff, Nat.reduceMul, Nat.reduceBEq, QXLaw2, encLNE] | refine rd0 rfl ?_)))
 ((first | refine callK_d (refplan_ok r day c hf) rfl dd ?_ | refine callD_d (refplan_ok r day c hf) rfl dd ?_); (repeat (first | simp only [↓QA, QB, Nat.reduceLT, reduceIte, Nat.reduceEqDiff, Nat.reduceAdd, Nat.reduceLeDiff, Nat.reduceMul, Nat.reduceBEq, QXLaw2, encLNE] | refine rd0 rfl ?_)))
 ((first | refine callK_d (ints_ok (planOf r day c).1 (planOf r day c).1 (by omega) (by omega)) rfl dd ?_ | refine callD_d (ints_ok (planOf r day c).1 (planOf r day c).1 (by omega) (by omega)) rfl dd ?_); (repeat (first | simp only [↓QA, QB, Nat.reduceLT, reduceIte, Nat.reduceEqDiff, Nat.reduceAdd, Nat.reduceLeDiff, Nat.reduceMul, Nat.reduceBEq, QXLaw2, eq_self] | refine rd0 rfl ?_)))
 ((first | refine callK_d (fill_ok r day c hf) rfl dd ?_ | refine callD_d (fill_ok r day c hf) rfl dd ?_); (repeat (first | simp only [↓QA, QB, Nat.reduceLT, reduceIte, Nat.reduceEqDiff, Nat.reduceAdd, Nat.reduceLeDiff, Nat.reduceMul, Nat.reduceBEq, QXLaw2, encLE] | refine rd0 rfl ?_)))
 ((first | refine callK_d (reffill_ok r day c hf) rfl dd ?_ | refine callD_d (reffill_ok r day c hf) rfl dd ?_); (repeat (first | simp only [↓QA, QB, Nat.reduceLT, reduceIte, Nat.reduceEqDiff, Nat.reduceAdd, Nat.reduceLeDiff, Nat.reduceMul, Nat.reduceBEq, QXLaw2, encLE] | refine rd0 rfl ?_)))
 ((first | refine callK_d (ints_ok (fillOf r day c).1 (fillOf r day c).1 (by omega) (by omega)) rfl dd ?_ | refine callD_d (ints_ok (fillOf r day c).1 (fillOf r day c).1 (by omega) (by omega)) rfl dd ?_); (repeat (first | simp only [↓QA, QB, Nat.reduceLT, reduceIte, Nat.reduceEqDiff, Nat.reduceAdd, Nat.reduceLeDiff, Nat.reduceMul, Nat.reduceBEq, QXLaw2, eq_self] | refine rd0 rfl ?_)))
 ((first | refine callK_d (pwrong_ok r hf) rfl dd ?_ | refine callD_d (pwrong_ok r hf) rfl dd ?_); (repeat (first | simp only [↓QA, QB, Nat.reduceLT, reduceIte, Nat.reduceEqDiff, Nat.reduceAdd, Nat.reduceLeDiff, Nat.reduceMul, Nat.reduceBEq, QXLaw2, encLE] | refine rd0 rfl ?_)))
 ((first | refine callK_d (refwrong_ok r hf) rfl dd ?_ | refine callD_d (refwrong_ok r hf) rfl dd ?_); (repeat (first | simp only [↓QA, QB, Nat.reduceLT, reduceIte, Nat.reduceEqDiff, Nat.reduceAdd, Nat.reduceLeDiff, Nat.reduceMul, Nat.reduceBEq, QXLaw2, encLE] | refine rd0 rfl ?_)))
 ((first | refine callK_d (ints_ok (wrongOf r).1 (wrongOf r).1 (by omega) (by omega)) rfl dd ?_ | refine callD_d (ints_ok (wrongOf r).1 (wrongOf r).1 (by omega) (by omega)) rfl dd ?_); (repeat (first | simp only [↓QA, QB, Nat.reduceLT, reduceIte, Nat.reduceEqDiff, Nat.reduceAdd, Nat.reduceLeDiff, Nat.reduceMul, Nat.reduceBEq, QXLaw2, eq_self] | refine rd0 rfl ?_)))
 refine callK_d awake_ok rfl datas_nil ?_
 (repeat (first | simp only [↓QA, QB, Nat.reduceLT, reduceIte, Nat.reduceEqDiff, Nat.reduceAdd, Nat.reduceLeDiff, Nat.reduceMul, Nat.reduceBEq, QXLaw2] | refine rd0 rfl ?_))
end Go.Am.Room
