/- A part of the proof of RoomBecomes: an abstract machine, or what functions come to on it. -/
import Derived.Test.YtkppbjllknnilaaAlmQ6
import Derived.Lib.Strings
set_option linter.unusedVariables false
set_option linter.unusedSimpArgs false
set_option linter.defProp false
namespace Go.Am
variable {T : FuncId → Option AFunc}
theorem app_nil {sz b : Nat} {σ : St} {xs : List AV} {tk t : Option Nat} {f f' : Bool} : appendAV sz b σ (.lit xs f' tk) (.lit [] f t) = some (.lit xs f' tk, σ) := by
 simp [appendAV, view]
end Go.Am
namespace Go.Am
variable {T : FuncId → Option AFunc}
def intss (l : List (List Int)) : AV := .lit (l.map ints) false none
theorem data_intss (l : List (List Int)) : Data (intss l) := data_list data_ints l
end Go.Am
namespace Go.Am
instance (l : List (List Int)) : Dat (intss l) := ⟨data_intss l⟩
end Go.Am
namespace Go.Am.Room
theorem flat_le {α β : Type} (f : α → List β) (b : Nat) : ∀ l : List α, (∀ x ∈ l, (f x).length ≤ b) → (l.flatMap f).length ≤ l.length * b
 | [], _ => by simp
 | x :: l, h => by
  have h1 := h x (by simp)
  have h2 := flat_le f b l fun y hy => h y (List.mem_cons_of_mem _ hy)
  simp only [List.flatMap_cons, List.length_append, List.length_cons, Nat.add_mul]
  omega
theorem allCells_ints (l : List (List Int)) : allCells 1 (l.map ints) = true := L_allM 1 ints l fun x => C_lit _ _ _
theorem allCells_int (l : List Int) : allCells 1 (l.map (.int .i64)) = true := L_allM 1 _ l fun x => C_int _ _
end Go.Am.Room
set_option maxRecDepth 4000
namespace Go.Am.Room
theorem known_ok (r : Rm) (e : Int) (hf : Fits r) (hv : e = 0 → Vd r) : Pure T 80 [encRoom r, .int .i64 e] (.int .i64 (errKnown r e)) := by
 refine pure_fn (af := a80) rfl (by simp [a80]) dd ?_
 (repeat (first | simp only [↓QA, QB, Nat.reduceLT, reduceIte, Nat.reduceEqDiff, Nat.reduceAdd, Nat.reduceLeDiff, Nat.reduceMul, Nat.reduceBEq, QXRm6, a80] | refine rd0 rfl ?_))
 cases h0 : (e == 0)
 ·have h0' : e ≠ 0 := by simpa using h0
  (repeat (first | simp only [↓QA, QB, Nat.reduceLT, reduceIte, Nat.reduceEqDiff, Nat.reduceAdd, Nat.reduceLeDiff, Nat.reduceMul, Nat.reduceBEq, QXRm6, h0, errKnown, h0'] | refine rd0 rfl ?_))
 ·have h0' : e = 0 := by simpa using h0
  subst h0'
  (repeat (first | simp only [↓QA, QB, Nat.reduceLT, reduceIte, Nat.reduceEqDiff, Nat.reduceAdd, Nat.reduceLeDiff, Nat.reduceMul, Nat.reduceBEq, QXRm6] | refine rd0 rfl ?_))
  refine callK_v (some_ok r [] (hv rfl) hf (by simp)) (room_nil r) (room_nil_ok r) ?_
  cases hs : someB r []
  all_goals
   (repeat (first | simp only [↓QA, QB, Nat.reduceLT, reduceIte, Nat.reduceEqDiff, Nat.reduceAdd, Nat.reduceLeDiff, Nat.reduceMul, Nat.reduceBEq, QXRm6, errKnown, hs, reduceCtorEq, Bool.false_eq_true] | refine rd0 rfl ?_))
theorem asked_ok (r : Rm) (n lo hi : Int) (hf : Fits r) : Pure T 81 [encRoom r, .int .i64 n, .int .i64 lo, .int .i64 hi] (.int .i64 (errAsk r n lo hi)) := by
 refine pure_fn (af := a81) rfl (by simp [a81]) dd ?_
 (repeat (first | simp only [↓QA, QB, Nat.reduceLT, reduceIte, Nat.reduceEqDiff, Nat.reduceAdd, Nat.reduceLeDiff, Nat.reduceMul, Nat.reduceBEq, QXRm6, a81] | refine rd0 rfl ?_))
 ((first | refine callK_d (refcheck_ok r hf) rfl dd ?_ | refine callD_d (refcheck_ok r hf) rfl dd ?_); (repeat (first | simp only [↓QA, QB, Nat.reduceLT, reduceIte, Nat.reduceEqDiff, Nat.reduceAdd, Nat.reduceLeDiff, Nat.reduceMul, Nat.reduceBEq, QXRm6, enc3] | refine rd0 rfl ?_)))
 cases h0 : ((check r).2.2 == 0)
 ·have h0' : (check r).2.2 ≠ 0 := by simpa using h0
  (repeat (first | simp only [↓QA, QB, Nat.reduceLT, reduceIte, Nat.reduceEqDiff, Nat.reduceAdd, Nat.reduceLeDiff, Nat.reduceMul, Nat.reduceBEq, QXRm6, h0, errAsk, h0'] | refine rd0 rfl ?_))
 ·have h0' : (check r).2.2 = 0 := by simpa using h0
  (repeat (first | simp only [↓QA, QB, Nat.reduceLT, reduceIte, Nat.reduceEqDiff, Nat.reduceAdd, Nat.reduceLeDiff, Nat.reduceMul, Nat.reduceBEq, QXRm6, h0] | refine rd0 rfl ?_))
  ((first | refine callK_d (in_ok _ _ _) rfl dd ?_ | refine callD_d (in_ok _ _ _) rfl dd ?_); (repeat (first | simp only [↓QA, QB, Nat.reduceLT, reduceIte, Nat.reduceEqDiff, Nat.reduceAdd, Nat.reduceLeDiff, Nat.reduceMul, Nat.reduceBEq, QXRm6, h0] | refine rd0 rfl ?_)))
  cases hs : inR n lo hi
  all_goals
   (repeat (first | simp only [↓QA, QB, Nat.reduceLT, reduceIte, Nat.reduceEqDiff, Nat.reduceAdd, Nat.reduceLeDiff, Nat.reduceMul, Nat.reduceBEq, QXRm6, errAsk, hs, h0', reduceCtorEq, Bool.false_eq_true] | refine rd0 rfl ?_))
end Go.Am.Room
set_option maxRecDepth 4000
namespace Go.Am.Room
def behindP (r : Rm) (p : Nat → Bool) : List Int → Nat → Bool
 | [] => p
 | n :: ns => behindP r (grownTo p (gainN r n) 160) ns
theorem behind_ok (r : Rm) (p : Nat → Bool) (l : List Int) (hv : Vd r) (hl : l.length < 9223372036854775808) (hn : ∀ n ∈ l, 0 ≤ n ∧ n < r.settings.length) : Pure T 87 [encRoom r, setE p, ints l] (setE (behindP r p l)) := by
 refine pure_fn (af := a87) rfl (by simp [a87]) dd ?_
 (repeat (first | simp only [↓QA, QB, Nat.reduceLT, reduceIte, Nat.reduceEqDiff, Nat.reduceAdd, Nat.reduceLeDiff, Nat.reduceMul, Nat.reduceBEq, QXRm7, a87] | refine rd0 rfl ?_))
 refine loopE (S := Nat × (Nat → Bool)) (0, p) (fun s => s.1 ≤ l.length ∧ behindP r s.2 (l.drop s.1) = behindP r p l) (fun s => l.length - s.1) (fun s => [(2, ints l), (3, .ptr 0 0), (4, .ptr 1 0), (6, .ptr 2 0), (7, .int .i64 s.1)])
  (fun s => [.cells (roomCells r), .cells (bits s.2), .cells (bits fun _ => false)]) ⟨by simp, by simp⟩ (by simp [roomCells, ints]) ?_ fun s hs => ?_
 ·try simp only [TrimX, QE, Nat.reduceLT, reduceIte, Nat.reduceEqDiff, Nat.reduceAdd, Nat.reduceLeDiff, Nat.reduceMul, Nat.reduceBEq, QXRm7]
  try simp
 ·obtain ⟨k, q⟩ := s
  obtain ⟨hk, hq⟩ := hs
  simp only at hk hq
  (repeat (first | simp only [↓QA, QB, Nat.reduceLT, reduceIte, Nat.reduceEqDiff, Nat.reduceAdd, Nat.reduceLeDiff, Nat.reduceMul, Nat.reduceBEq, QXRm7, L87_0] | refine rd0 rfl ?_))
  refine iteP_intro (fun h => ?_) fun h => ?_
  ·have hk1 : k < l.length := by simpa using h
   have hw := wrapN hk1 hl
   have hx := hn _ (List.getElem_mem hk1)
   have h0 : 0 ≤ l[k] := hx.1
   have h1 : l[k].toNat < r.settings.length := by omega
   have hg := hv.gains _ (List.getElem_mem h1)
   rw [List.drop_eq_getElem_cons hk1] at hq
   simp only [behindP, gainN_eq h1] at hq
   (repeat (first | simp only [↓QA, QB, Nat.reduceLT, reduceIte, Nat.reduceEqDiff, Nat.reduceAdd, Nat.reduceLeDiff, Nat.reduceMul, Nat.reduceBEq, QXRm7, hk1, h0, h1, V_idxI] | refine rd0 rfl ?_))
   ((first | refine callK_d (grown_s q r.settings[l[k].toNat].gain hg.1 (by omega)) rfl dd ?_ | refine callD_d (grown_s q r.settings[l[k].toNat].gain hg.1 (by omega)) rfl dd ?_); (repeat (first | simp only [↓QA, QB, Nat.reduceLT, reduceIte, Nat.reduceEqDiff, Nat.reduceAdd, Nat.reduceLeDiff, Nat.reduceMul, Nat.reduceBEq, QXRm7, hk1, h0, h1, V_idxI, hw] | refine rd0 rfl ?_)))
   refine ⟨(k + 1, grownTo q r.settings[l[k].toNat].gain 160), ⟨by simp only; omega, hq⟩, by simp only; omega, ?_⟩
   try simp only [TrimX, QE, Nat.reduceLT, reduceIte, Nat.reduceEqDiff, Nat.reduceAdd, Nat.reduceLeDiff, Nat.reduceMul, Nat.reduceBEq, QXRm7, hw]
   try simp [okBlk, bits_ok]
  ·have hk1 : k = l.length := by simp at h; omega
   have hq' : q = behindP r p l := by rw [← hq, hk1, List.drop_length]; rfl
   (repeat (first | simp only [↓QA, QB, Nat.reduceLT, reduceIte, Nat.reduceEqDiff, Nat.reduceAdd, Nat.reduceLeDiff, Nat.reduceMul, Nat.reduceBEq, QXRm7, hq'] | refine rd0 rfl ?_))
end Go.Am.Room
set_option maxRecDepth 4000
namespace Go.Am.Room
def QXRm8 := And.intro @setE_eq (And.intro @bits_len (And.intro @bits_cell (And.intro @bits_take (And.intro @bits_drop (And.intro @bits_zero (And.intro @Nat.mul_one (And.intro @Int.toNat_natCast (And.intro @encRoom_eq (And.intro @roomCells_eq (And.intro @encSetting_eq (And.intro @encLook_eq (And.intro @encSpan_eq (@S_bits)))))))))))))
theorem listsOf_len (m : Nat) : ∀ i, (listsOf m i).length ≤ m ^ i
 | 0 => by simp [listsOf]
 | i + 1 => by
  have h1 := listsOf_len m i
  have h2 := flat_le (fun c : List Int => (numbers 0 m).map fun n => c ++ [n]) m (listsOf m i) fun c hc => by simp [numbers_len]
  simp only [listsOf, Nat.pow_succ]
  exact Nat.le_trans h2 (Nat.mul_le_mul_right _ h1)
theorem listsOf_small {m i : Nat} (h1 : m ≤ 4) (h2 : i ≤ 8) : (listsOf m i).length ≤ 65536 := by
 refine Nat.le_trans (listsOf_len m i) ?_
 calc m ^ i ≤ 4 ^ i := Nat.pow_le_pow_left h1 i
  _ ≤ 4 ^ 8 := Nat.pow_le_pow_right (by omega) h2
  _ = 65536 := by decide
theorem lists_in (r : Rm) (m many i k : Nat) (acc : List (List Int)) (ex : Bool) (c : List Int) (e : Env) (K : KJ) (hm : r.settings.length = m) (hm4 : m ≤ 4) (hk1 : k < (listsOf m i).length) (hc : (listsOf m i)[k] = c) (hcl : c.length ≤ 8) (hacc : acc.length ≤ 65536)
  (e2 : Env.get e 2 = .ptr 0 0) (e1 : Env.get e 1 = .int .i64 many) (e5 : Env.get e 5 = intss (listsOf m i)) (e6 : Env.get e 6 = .int .i64 i) (e7 : Env.get e 7 = .lit (acc.map ints) false (some 1)) (e8 : Env.get e 8 = .int .i64 k) (e9 : Env.get e 9 = .int .i64 0)
  (hK : ∀ e' ex' new, new = (numbers 0 m).map (fun n => c ++ [n]) → Env.get e' 2 = .ptr 0 0 → Env.get e' 1 = .int .i64 many → Env.get e' 5 = intss (listsOf m i) → Env.get e' 6 = .int .i64 i →
   Env.get e' 7 = .lit ((acc ++ new).map ints) false (some 1) → Env.get e' 8 = .int .i64 k → K (some (.exit 4)) e' [.cells (roomCells r), .tok 1 (acc ++ new).length ex']) :
  rK (K := ⟨K⟩) T (.loop L115_4) e [.cells (roomCells r), .tok 1 acc.length ex] := by
 refine loopE (S := Nat × List (List Int) × Bool) (0, acc, ex) (fun s => s.1 ≤ m ∧ s.2.1.length ≤ acc.length + s.1 ∧ s.2.1 ++ (numbers s.1 (m - s.1)).map (fun n => c ++ [n]) = acc ++ (numbers 0 m).map (fun n => c ++ [n])) (fun s => m - s.1)
  (fun s => [(2, .ptr 0 0), (1, .int .i64 many), (5, intss (listsOf m i)), (6, .int .i64 i), (7, .lit (s.2.1.map ints) false (some 1)), (8, .int .i64 k), (9, .int .i64 s.1)]) (fun s => [.cells (roomCells r), .tok 1 s.2.1.length s.2.2]) ⟨by simp, by simp, by simp⟩ rfl ?_ fun s hs => ?_
 ·try simp only [TrimX, QE, Nat.reduceLT, reduceIte, Nat.reduceEqDiff, Nat.reduceAdd, Nat.reduceLeDiff, Nat.reduceMul, Nat.reduceBEq, QXRm8, e1, e2, e5, e6, e7, e8, e9]
  try simp
 ·obtain ⟨a, l, ex1⟩ := s
  obtain ⟨h1, h2, h3⟩ := hs
  simp only at h1 h2 h3
  (repeat (first | simp only [↓QA, QB, Nat.reduceLT, reduceIte, Nat.reduceEqDiff, Nat.reduceAdd, Nat.reduceLeDiff, Nat.reduceMul, Nat.reduceBEq, QXRm8, L115_4, hm] | refine rd0 rfl ?_))
  refine iteP_intro (fun h => ?_) fun h => ?_
  ·have ha : a < m := by simpa using h
   have hw : IntKind.i64.wrap ((a : Int) + 1) = ((a + 1 : Nat) : Int) := wrapN ha (by omega)
   rw [show m - a = (m - (a + 1)) + 1 by omega] at h3
   simp only [numbers, List.map_cons] at h3
   have h3' : l ++ [c ++ [(a : Int)]] ++ (numbers ((a + 1 : Nat) : Int) (m - (a + 1))).map (fun n => c ++ [n]) = acc ++ (numbers 0 m).map (fun n => c ++ [n]) := by
    rw [← h3]; simp
   have hk1' : k < (listsOf m i).length := hk1
   have hok : ∀ t f, AppOk 1 24 (l.map ints) [.lit (c.map (.int .i64) ++ [.int .i64 a]) f t] := fun t f => ⟨allCells_ints l, by simp [allCells, AV.cells, AV.cell], by simp [room]; omega, by simp [room]; omega⟩
   have hset : ∀ (b : ABlk) (τ : St), (b :: (.tok 1 l.length ex1) :: τ)[1]? = some (.tok 1 l.length ex1) := fun b τ => by simp
   (repeat (first | simp only [↓QA, QB, Nat.reduceLT, reduceIte, Nat.reduceEqDiff, Nat.reduceAdd, Nat.reduceLeDiff, Nat.reduceMul, Nat.reduceBEq, QXRm8, intss, hk1', hc, ints, E_evs1] | refine rd0 rfl ?_))
   cases c with
   | nil =>
    have q2 : ∀ σ : St, appendAV 1 8 σ (.lit [] true none) (.lit [.int .i64 a] true none) = some (.lit [.int .i64 a] false (some σ.length), σ ++ [.tok 1 1 true]) := fun σ => app_full (xs := []) ⟨rfl, by simp [allCells, AV.cells, AV.cell], by simp [room], by simp [room]⟩ (by simp)
    have q3 : ∀ (b : ABlk) (σ : St), appendAV 1 24 (b :: (.tok 1 l.length ex1) :: σ) (.lit (l.map ints) false (some 1)) (.lit [.lit [.int .i64 a] false (some 2)] true none) = some (.lit (l.map ints ++ [.lit [.int .i64 a] false (some 2)]) false (some 1), b :: (.tok 1 (l.length + 1) true) :: σ) := fun b σ => by
     rw [app_tok (ex := ex1) (by simpa using hok (some 2) false) (by simp) (by simp)]; simp
    (repeat (first | simp only [↓QA, QB, Nat.reduceLT, reduceIte, Nat.reduceEqDiff, Nat.reduceAdd, Nat.reduceLeDiff, Nat.reduceMul, Nat.reduceBEq, QXRm8, app_nil, q2, q3, List.map_nil] | refine rd0 rfl ?_))
    refine ⟨(a + 1, l ++ [[(a : Int)]], true), ⟨by simp only; omega, by simp only [List.length_append, List.length_cons, List.length_nil]; omega, by simpa using h3'⟩, by simp only; omega, ?_⟩
    try simp only [TrimX, QE, Nat.reduceLT, reduceIte, Nat.reduceEqDiff, Nat.reduceAdd, Nat.reduceLeDiff, Nat.reduceMul, Nat.reduceBEq, QXRm8, hw, List.map_append, List.length_append, List.map_cons, List.map_nil, intss]
    try simp [okBlk]
   | cons x xs =>
    have q1 : ∀ σ : St, appendAV 1 8 σ (.lit [] true none) (.lit (.int .i64 x :: xs.map (.int .i64)) false none) = some (.lit (.int .i64 x :: xs.map (.int .i64)) false (some σ.length), σ ++ [.tok 1 (xs.length + 1) true]) := fun σ => by
     rw [app_full (ys := .int .i64 x :: xs.map (.int .i64)) ⟨rfl, allCells_int (x :: xs), by simp [room] at hcl ⊢; omega, by simp [room] at hcl ⊢; omega⟩ (by simp)]; simp
    have q2 : ∀ b c : ABlk, appendAV 1 8 [b, c, .tok 1 (xs.length + 1) true] (.lit (.int .i64 x :: xs.map (.int .i64)) false (some 2)) (.lit [.int .i64 a] true none) = some (.lit (.int .i64 x :: (xs.map (.int .i64) ++ [.int .i64 a])) false (some 2), [b, c, .tok 1 (xs.length + 2) true]) := fun b c => by
     rw [app_tok (xs := .int .i64 x :: xs.map (.int .i64)) (ex := true) ⟨allCells_int (x :: xs), by simp [allCells, AV.cells, AV.cell], by simp [room] at hcl ⊢; omega, by simp [room] at hcl ⊢; omega⟩ (by simp) (by simp)]; simp
    have q3 : ∀ (b : ABlk) (σ : St), appendAV 1 24 (b :: (.tok 1 l.length ex1) :: σ) (.lit (l.map ints) false (some 1)) (.lit [.lit (.int .i64 x :: (xs.map (.int .i64) ++ [.int .i64 a])) false (some 2)] true none) = some (.lit (l.map ints ++ [.lit (.int .i64 x :: (xs.map (.int .i64) ++ [.int .i64 a])) false (some 2)]) false (some 1), b :: (.tok 1 (l.length + 1) true) :: σ) := fun b σ => by
     rw [app_tok (ex := ex1) (by simpa using hok (some 2) false) (by simp) (by simp)]; simp
    (repeat (first | simp only [↓QA, QB, Nat.reduceLT, reduceIte, Nat.reduceEqDiff, Nat.reduceAdd, Nat.reduceLeDiff, Nat.reduceMul, Nat.reduceBEq, QXRm8, q1, q2, q3, List.map_cons] | refine rd0 rfl ?_))
    refine ⟨(a + 1, l ++ [x :: xs ++ [(a : Int)]], true), ⟨by simp only; omega, by simp only [List.length_append, List.length_cons, List.length_nil]; omega, by simpa using h3'⟩, by simp only; omega, ?_⟩
    try simp only [TrimX, QE, Nat.reduceLT, reduceIte, Nat.reduceEqDiff, Nat.reduceAdd, Nat.reduceLeDiff, Nat.reduceMul, Nat.reduceBEq, QXRm8, hw, List.map_append, List.length_append, List.map_cons, List.map_nil, intss]
    try simp [okBlk]
  ·have ha : a = m := by simp at h; omega
   subst ha
   rw [Nat.sub_self] at h3
   simp only [numbers, List.map_nil, List.append_nil] at h3
   subst h3
   (repeat (first | simp only [↓QA, QB, Nat.reduceLT, reduceIte, Nat.reduceEqDiff, Nat.reduceAdd, Nat.reduceLeDiff, Nat.reduceMul, Nat.reduceBEq, QXRm8] | refine rd0 rfl ?_))
   refine hK _ ex1 _ rfl ?_ ?_ ?_ ?_ ?_ ?_
   all_goals try simp only [TrimX, QE, Nat.reduceLT, reduceIte, Nat.reduceEqDiff, Nat.reduceAdd, Nat.reduceLeDiff, Nat.reduceMul, Nat.reduceBEq, QXRm8]
theorem lists_ok (r : Rm) (many : Nat) (hv : Vd r) (hm : many ≤ 7) : Pure T 115 [encRoom r, .int .i64 many] (intss (listsOf r.settings.length many)) := by
 refine pure_fn (af := a115) rfl (by simp [a115]) dd ?_
 obtain ⟨m, hmm⟩ : ∃ m, r.settings.length = m := ⟨_, rfl⟩
 have hm4 : m ≤ 4 := by have := hv.nset; omega
 rw [hmm]
 (repeat (first | simp only [↓QA, QB, Nat.reduceLT, reduceIte, Nat.reduceEqDiff, Nat.reduceAdd, Nat.reduceLeDiff, Nat.reduceMul, Nat.reduceBEq, QXRm8, a115] | refine rd0 rfl ?_))
 refine loopE (S := Nat) 0 (fun i => i ≤ many) (fun i => many - i) (fun i => [(2, .ptr 0 0), (1, .int .i64 many), (5, intss (listsOf m i)), (6, .int .i64 i)]) (fun _ => [.cells (roomCells r)]) (Nat.zero_le _) (by simp [roomCells, ints]) ?_ fun i hi => ?_
 ·try simp only [TrimX, QE, Nat.reduceLT, reduceIte, Nat.reduceEqDiff, Nat.reduceAdd, Nat.reduceLeDiff, Nat.reduceMul, Nat.reduceBEq, QXRm8]
  simp [intss, ints, listsOf, clr, clrs]
 ·(repeat (first | simp only [↓QA, QB, Nat.reduceLT, reduceIte, Nat.reduceEqDiff, Nat.reduceAdd, Nat.reduceLeDiff, Nat.reduceMul, Nat.reduceBEq, QXRm8, L115_0, intss] | refine rd0 rfl ?_))
  refine iteP_intro (fun h => ?_) fun h => ?_
  ·have hi1 : i < many := by simpa using h
   have hsm := listsOf_small hm4 (show i ≤ 8 by omega)
   have hsm1 := listsOf_small hm4 (show i + 1 ≤ 8 by omega)
   (repeat (first | simp only [↓QA, QB, Nat.reduceLT, reduceIte, Nat.reduceEqDiff, Nat.reduceAdd, Nat.reduceLeDiff, Nat.reduceMul, Nat.reduceBEq, QXRm8] | refine rd0 rfl ?_))
   refine ghostK 7 1 [] rfl ?_
   refine loopE (S := Nat × List (List Int) × Bool) (0, [], false) (fun s => s.1 ≤ (listsOf m i).length ∧ s.2.1 ++ ((listsOf m i).drop s.1).flatMap (fun c => (numbers 0 m).map fun n => c ++ [n]) = listsOf m (i + 1)) (fun s => (listsOf m i).length - s.1)
    (fun s => [(2, .ptr 0 0), (1, .int .i64 many), (5, intss (listsOf m i)), (6, .int .i64 i), (7, .lit (s.2.1.map ints) false (some 1)), (8, .int .i64 s.1)]) (fun s => [.cells (roomCells r), .tok 1 s.2.1.length s.2.2]) ⟨Nat.zero_le _, by simp [listsOf]⟩ (by simp [roomCells, ints]) ?_ fun s hs => ?_
   ·try simp only [TrimX, QE, Nat.reduceLT, reduceIte, Nat.reduceEqDiff, Nat.reduceAdd, Nat.reduceLeDiff, Nat.reduceMul, Nat.reduceBEq, QXRm8, intss]
    try simp
   ·obtain ⟨k, acc, ex⟩ := s
    obtain ⟨hk, hacc⟩ := hs
    simp only at hk hacc
    (repeat (first | simp only [↓QA, QB, Nat.reduceLT, reduceIte, Nat.reduceEqDiff, Nat.reduceAdd, Nat.reduceLeDiff, Nat.reduceMul, Nat.reduceBEq, QXRm8, L115_2, intss] | refine rd0 rfl ?_))
    refine iteP_intro (fun h2 => ?_) fun h2 => ?_
    ·have hk1 : k < (listsOf m i).length := by simpa using h2
     have hmem := List.getElem_mem hk1
     obtain ⟨c, hc⟩ : ∃ c, (listsOf m i)[k] = c := ⟨_, rfl⟩
     rw [hc] at hmem
     obtain ⟨hlen, hrng⟩ := listsOf_spec m i c hmem
     rw [List.drop_eq_getElem_cons hk1, hc, List.flatMap_cons] at hacc
     have hacl : acc.length ≤ 65536 := by
      have := congrArg List.length hacc
      simp only [List.length_append] at this
      omega
     have hwk : IntKind.i64.wrap ((k : Int) + 1) = ((k + 1 : Nat) : Int) := wrapN hk1 (by omega)
     (repeat (first | simp only [↓QA, QB, Nat.reduceLT, reduceIte, Nat.reduceEqDiff, Nat.reduceAdd, Nat.reduceLeDiff, Nat.reduceMul, Nat.reduceBEq, QXRm8] | refine rd0 rfl ?_))
     have hin := lists_in r m many i k acc ex c
     rw [roomCells_eq] at hin
     refine hin _ _ hmm hm4 hk1 hc (by omega) hacl ?_ ?_ ?_ ?_ ?_ ?_ ?_ ?_
     all_goals try simp only [TrimX, QE, Nat.reduceLT, reduceIte, Nat.reduceEqDiff, Nat.reduceAdd, Nat.reduceLeDiff, Nat.reduceMul, Nat.reduceBEq, QXRm8, intss]
     intro e' ex' new hnew q0 q1 q5 q6 q7 q8
     (repeat (first | simp only [↓QA, QB, Nat.reduceLT, reduceIte, Nat.reduceEqDiff, Nat.reduceAdd, Nat.reduceLeDiff, Nat.reduceMul, Nat.reduceBEq, QXRm8, q0, q1, q5, q6, q7, q8, hwk] | refine rd0 rfl ?_))
     refine ⟨(k + 1, acc ++ new, ex'), ⟨by simp only; omega, ?_⟩, by simp only; omega, ?_⟩
     ·rw [← hacc, hnew]; simp
     ·try simp only [TrimX, QE, Nat.reduceLT, reduceIte, Nat.reduceEqDiff, Nat.reduceAdd, Nat.reduceLeDiff, Nat.reduceMul, Nat.reduceBEq, QXRm8, q0, q1, q5, q6, q7, q8, intss, okBlk]
      try simp [okBlk]
    ·have hk1 : k = (listsOf m i).length := by simp at h2; omega
     have hfin : acc = listsOf m (i + 1) := by rw [← hacc, hk1, List.drop_length]; simp
     (repeat (first | simp only [↓QA, QB, Nat.reduceLT, reduceIte, Nat.reduceEqDiff, Nat.reduceAdd, Nat.reduceLeDiff, Nat.reduceMul, Nat.reduceBEq, QXRm8] | refine rd0 rfl ?_))
     refine ⟨i + 1, by omega, by omega, ?_⟩
     try simp only [TrimX, QE, Nat.reduceLT, reduceIte, Nat.reduceEqDiff, Nat.reduceAdd, Nat.reduceLeDiff, Nat.reduceMul, Nat.reduceBEq, QXRm8, wrapN hi1 (show many < 9223372036854775808 by omega), intss, hfin]
  ·have hi1 : i = many := by simp at h; omega
   subst hi1
   (repeat (first | simp only [↓QA, QB, Nat.reduceLT, reduceIte, Nat.reduceEqDiff, Nat.reduceAdd, Nat.reduceLeDiff, Nat.reduceMul, Nat.reduceBEq, QXRm8, intss] | refine rd0 rfl ?_))
end Go.Am.Room
set_option maxRecDepth 4000
namespace Go.Am.Room
def QXRm9 := And.intro @setE_eq (And.intro @bits_len (And.intro @bits_cell (And.intro @bits_take (And.intro @bits_drop (And.intro @bits_zero (And.intro @Nat.mul_one (And.intro @Int.toNat_natCast (And.intro @encRoom_eq (And.intro @roomCells_eq (And.intro @encSetting_eq (And.intro @encLook_eq (And.intro @encSpan_eq (@S_bits)))))))))))))
theorem behind_is {r : Rm} (hv : Vd r) : ∀ (l : List Int) (s : Span) (p : Nat → Bool), (∀ n ∈ l, 0 ≤ n ∧ n < r.settings.length) → 0 ≤ s.lo → s.lo ≤ s.hi → s.hi + 15 * l.length < 175 → s.hi < 160 → (∀ n, n < 160 → p n = within s n) →
  ∀ n, n < 160 → behindP r p l n = within (plus s (sumS r l)) n
 | [], s, p, _, _, _, _, _, hp => by
  intro n hn
  simp only [behindP, sumS, hp n hn]
  have : plus s ⟨0, 0⟩ = s := by simp [plus]
  rw [this]
 | x :: xs, s, p, hm, h0, h1, h2, h3, hp => by
  have hx := hm x (by simp)
  have hi : x.toNat < r.settings.length := by omega
  have hg := hv.gains _ (List.getElem_mem hi)
  simp only [behindP, sumS]
  rw [← plus_assoc]
  cases xs with
  | nil =>
   intro n hn
   simp only [behindP, sumS, gainN_eq hi]
   have : ∀ s : Span, plus s ⟨0, 0⟩ = s := fun s => by simp [plus]
   rw [this, grown_within h0 h1 hg.1 hg.2.1 h3 hp]
  | cons y ys =>
   simp only [List.length_cons] at h2
   refine behind_is hv (y :: ys) (plus s (gainN r x)) _ (fun n hn => hm n (List.mem_cons_of_mem _ hn)) ?_ ?_ ?_ ?_ fun n hn => ?_
   ·simp only [plus, gainN_eq hi]; omega
   ·simp only [plus, gainN_eq hi]; omega
   ·simp only [plus, gainN_eq hi, List.length_cons]; omega
   ·simp only [plus, gainN_eq hi]; omega
   ·rw [gainN_eq hi]; exact grown_within h0 h1 hg.1 hg.2.1 h3 hp n
theorem become_loop (r : Rm) (l : List Int) (e0 : Int) (e : Env) (K : KJ) (hf : Fits r) (hl : l.length < 9223372036854775808) (e1 : Env.get e 1 = ints l) (e2 : Env.get e 2 = .ptr 0 0) (e4 : Env.get e 4 = .ptr 1 0) (e5 : Env.get e 5 = .int .i64 0) (e8 : Env.get e 8 = .int .i64 e0) (e9 : Env.get e 9 = .int .i64 0)
  (hK : ∀ e', Env.get e' 1 = ints l → Env.get e' 2 = .ptr 0 0 → Env.get e' 4 = .ptr 1 0 → Env.get e' 5 = .int .i64 0 → Env.get e' 8 = .int .i64 (errEach r e0 l) → K (some (.exit 0)) e' [.cells (roomCells r), .cells [.int .i64 0, .int .i64 0]]) :
  rK (K := ⟨K⟩) T (.loop L25_0) e [.cells (roomCells r), .cells [.int .i64 0, .int .i64 0]] := by
 refine loopE (S := Nat × Int) (0, e0) (fun s => s.1 ≤ l.length ∧ errEach r s.2 (l.drop s.1) = errEach r e0 l) (fun s => l.length - s.1) (fun s => [(1, ints l), (2, .ptr 0 0), (4, .ptr 1 0), (5, .int .i64 0), (8, .int .i64 s.2), (9, .int .i64 s.1)])
  (fun _ => [.cells (roomCells r), .cells [.int .i64 0, .int .i64 0]]) ⟨by simp, by simp⟩ rfl ?_ fun s hs => ?_
 ·try simp only [TrimX, QE, Nat.reduceLT, reduceIte, Nat.reduceEqDiff, Nat.reduceAdd, Nat.reduceLeDiff, Nat.reduceMul, Nat.reduceBEq, QXRm9, e1, e2, e4, e5, e8, e9]
  try simp
 ·obtain ⟨k, q⟩ := s
  obtain ⟨hk, hq⟩ := hs
  simp only at hk hq
  (repeat (first | simp only [↓QA, QB, Nat.reduceLT, reduceIte, Nat.reduceEqDiff, Nat.reduceAdd, Nat.reduceLeDiff, Nat.reduceMul, Nat.reduceBEq, QXRm9, L25_0] | refine rd0 rfl ?_))
  cases h1 : decide ((k : Int) < l.length)
  ·have h1' : k = l.length := by simp at h1; omega
   rw [h1', List.drop_length] at hq
   (repeat (first | simp only [↓QA, QB, Nat.reduceLT, reduceIte, Nat.reduceEqDiff, Nat.reduceAdd, Nat.reduceLeDiff, Nat.reduceMul, Nat.reduceBEq, QXRm9, h1] | refine rd0 rfl ?_))
   refine hK _ ?_ ?_ ?_ ?_ ?_
   all_goals try simp only [TrimX, QE, Nat.reduceLT, reduceIte, Nat.reduceEqDiff, Nat.reduceAdd, Nat.reduceLeDiff, Nat.reduceMul, Nat.reduceBEq, QXRm9, ← hq, errEach]
  ·have hk1 : k < l.length := by simpa using h1
   have hw := wrapN hk1 hl
   rw [List.drop_eq_getElem_cons hk1] at hq
   simp only [errEach] at hq
   (repeat (first | simp only [↓QA, QB, Nat.reduceLT, reduceIte, Nat.reduceEqDiff, Nat.reduceAdd, Nat.reduceLeDiff, Nat.reduceMul, Nat.reduceBEq, QXRm9, h1] | refine rd0 rfl ?_))
   cases h2 : (q == 0)
   ·have h2' : q ≠ 0 := by simpa using h2
    rw [if_neg h2'] at hq
    (repeat (first | simp only [↓QA, QB, Nat.reduceLT, reduceIte, Nat.reduceEqDiff, Nat.reduceAdd, Nat.reduceLeDiff, Nat.reduceMul, Nat.reduceBEq, QXRm9, h2] | refine rd0 rfl ?_))
    refine hK _ ?_ ?_ ?_ ?_ ?_
    all_goals try simp only [TrimX, QE, Nat.reduceLT, reduceIte, Nat.reduceEqDiff, Nat.reduceAdd, Nat.reduceLeDiff, Nat.reduceMul, Nat.reduceBEq, QXRm9, ← hq]
   ·have h2' : q = 0 := by simpa using h2
    rw [if_pos h2'] at hq
    (repeat (first | simp only [↓QA, QB, Nat.reduceLT, reduceIte, Nat.reduceEqDiff, Nat.reduceAdd, Nat.reduceLeDiff, Nat.reduceMul, Nat.reduceBEq, QXRm9, h2, hk1] | refine rd0 rfl ?_))
    ((first | refine callK_d (setting_ok r l[k] hf) rfl dd ?_ | refine callD_d (setting_ok r l[k] hf) rfl dd ?_); (repeat (first | simp only [↓QA, QB, Nat.reduceLT, reduceIte, Nat.reduceEqDiff, Nat.reduceAdd, Nat.reduceLeDiff, Nat.reduceMul, Nat.reduceBEq, QXRm9, hk1] | refine rd0 rfl ?_)))
    cases h3 : isSetting r l[k]
    ·rw [h3] at hq
     (repeat (first | simp only [↓QA, QB, Nat.reduceLT, reduceIte, Nat.reduceEqDiff, Nat.reduceAdd, Nat.reduceLeDiff, Nat.reduceMul, Nat.reduceBEq, QXRm9, hk1] | refine rd0 rfl ?_))
     refine ⟨(k + 1, 4), ⟨by simp only; omega, by simpa using hq⟩, by simp only; omega, ?_⟩
     try simp only [TrimX, QE, Nat.reduceLT, reduceIte, Nat.reduceEqDiff, Nat.reduceAdd, Nat.reduceLeDiff, Nat.reduceMul, Nat.reduceBEq, QXRm9, hw]
     try simp [okBlk, okVs, okV]
    ·rw [h3] at hq
     (repeat (first | simp only [↓QA, QB, Nat.reduceLT, reduceIte, Nat.reduceEqDiff, Nat.reduceAdd, Nat.reduceLeDiff, Nat.reduceMul, Nat.reduceBEq, QXRm9, hk1] | refine rd0 rfl ?_))
     refine ⟨(k + 1, q), ⟨by simp only; omega, by rw [h2']; simpa using hq⟩, by simp only; omega, ?_⟩
     try simp only [TrimX, QE, Nat.reduceLT, reduceIte, Nat.reduceEqDiff, Nat.reduceAdd, Nat.reduceLeDiff, Nat.reduceMul, Nat.reduceBEq, QXRm9, hw]
     try simp [okBlk, okVs, okV]
theorem refbecome_ok (r : Rm) (l : List Int) (hf : Fits r) (hl : l.length < 9223372036854775808) : Pure T 25 [encRoom r, ints l] (encSE (becomeOf r l)) := by
 refine pure_fn (af := a25) rfl (by simp [a25]) dd ?_
 (repeat (first | simp only [↓QA, QB, Nat.reduceLT, reduceIte, Nat.reduceEqDiff, Nat.reduceAdd, Nat.reduceLeDiff, Nat.reduceMul, Nat.reduceBEq, QXRm9, a25] | refine rd0 rfl ?_))
 ((first | refine callK_d (refcheck_ok r hf) rfl dd ?_ | refine callD_d (refcheck_ok r hf) rfl dd ?_); (repeat (first | simp only [↓QA, QB, Nat.reduceLT, reduceIte, Nat.reduceEqDiff, Nat.reduceAdd, Nat.reduceLeDiff, Nat.reduceMul, Nat.reduceBEq, QXRm9, enc3] | refine rd0 rfl ?_)))
 have rest : ∀ (e : Env) (K : KJ), True := fun _ _ => trivial
 cases h0 : ((check r).2.2 == 0)
 case' false =>
  have h0' : (check r).2.2 ≠ 0 := by simpa using h0
  have hlong : errLong r l = (check r).2.2 := by simp [errLong, h0']
  (repeat (first | simp only [↓QA, QB, Nat.reduceLT, reduceIte, Nat.reduceEqDiff, Nat.reduceAdd, Nat.reduceLeDiff, Nat.reduceMul, Nat.reduceBEq, QXRm9, h0] | refine rd0 rfl ?_))
 case' true =>
  have h0' : (check r).2.2 = 0 := by simpa using h0
  have hv := vd_of_check h0'
  have hd1 := hv.days
  have hd2 := hv.ranLen
  have hwd : IntKind.i64.wrap (r.days - (r.ran.length : Int)) = r.days - r.ran.length := wrap64 ⟨by omega, by omega⟩
  (repeat (first | simp only [↓QA, QB, Nat.reduceLT, reduceIte, Nat.reduceEqDiff, Nat.reduceAdd, Nat.reduceLeDiff, Nat.reduceMul, Nat.reduceBEq, QXRm9, h0] | refine rd0 rfl ?_))
  ((first | refine callK_d (today_ok r) rfl dd ?_ | refine callD_d (today_ok r) rfl dd ?_); (repeat (first | simp only [↓QA, QB, Nat.reduceLT, reduceIte, Nat.reduceEqDiff, Nat.reduceAdd, Nat.reduceLeDiff, Nat.reduceMul, Nat.reduceBEq, QXRm9, hwd] | refine rd0 rfl ?_)))
  cases h1 : decide (r.days - (r.ran.length : Int) < (l.length : Int))
  case' false =>
   have h1' : ¬ r.days - (r.ran.length : Int) < (l.length : Int) := by simpa using h1
   have hlong : errLong r l = (check r).2.2 := by simp [errLong, h1']
   (repeat (first | simp only [↓QA, QB, Nat.reduceLT, reduceIte, Nat.reduceEqDiff, Nat.reduceAdd, Nat.reduceLeDiff, Nat.reduceMul, Nat.reduceBEq, QXRm9, h1] | refine rd0 rfl ?_))
  case' true =>
   have h1' : r.days - (r.ran.length : Int) < (l.length : Int) := by simpa using h1
   have hlong : errLong r l = 3 := by simp [errLong, h0', h1']
   (repeat (first | simp only [↓QA, QB, Nat.reduceLT, reduceIte, Nat.reduceEqDiff, Nat.reduceAdd, Nat.reduceLeDiff, Nat.reduceMul, Nat.reduceBEq, QXRm9, h1] | refine rd0 rfl ?_))
 all_goals
  rw [← hlong]
  have hbl := become_loop r l (errLong r l)
  rw [roomCells_eq] at hbl
  refine hbl _ _ hf hl ?_ ?_ ?_ ?_ ?_ ?_ ?_
  any_goals try simp only [TrimX, QE, Nat.reduceLT, reduceIte, Nat.reduceEqDiff, Nat.reduceAdd, Nat.reduceLeDiff, Nat.reduceMul, Nat.reduceBEq, QXRm9]
  intro e e1 e2 e4 e5 e8
  have es : errEach r (errLong r l) l = errSets r l := rfl
  rw [es] at e8
  (repeat (first | simp only [↓QA, QB, Nat.reduceLT, reduceIte, Nat.reduceEqDiff, Nat.reduceAdd, Nat.reduceLeDiff, Nat.reduceMul, Nat.reduceBEq, QXRm9, e1, e2, e4, e5, e8] | refine rd0 rfl ?_))
  ((first | refine callK_d (known_ok r (errSets r l) hf (fun h => (errSets_ok h).1)) rfl dd ?_ | refine callD_d (known_ok r (errSets r l) hf (fun h => (errSets_ok h).1)) rfl dd ?_); (repeat (first | simp only [↓QA, QB, Nat.reduceLT, reduceIte, Nat.reduceEqDiff, Nat.reduceAdd, Nat.reduceLeDiff, Nat.reduceMul, Nat.reduceBEq, QXRm9, e1, e2, e4, e5, e8] | refine rd0 rfl ?_)))
  cases h5 : (errKnown r (errSets r l) == 0)
  ·have h5' : errKnown r (errSets r l) ≠ 0 := by simpa using h5
   (repeat (first | simp only [↓QA, QB, Nat.reduceLT, reduceIte, Nat.reduceEqDiff, Nat.reduceAdd, Nat.reduceLeDiff, Nat.reduceMul, Nat.reduceBEq, QXRm9, h5, e1, e2, e4, e5, e8] | refine rd0 rfl ?_))
   simp only [becomeOf, if_neg h5', encSE]
   try simp only [QS, QC, Nat.reduceLT, reduceIte, Nat.reduceEqDiff, Nat.reduceAdd, Nat.reduceLeDiff, Nat.reduceMul, Nat.reduceBEq, QXRm9]
  ·have h5' : errKnown r (errSets r l) = 0 := by simpa using h5
   obtain ⟨h6, hs⟩ := errKnown_ok h5'
   obtain ⟨hv, hlen, hn⟩ := errSets_ok h6
   have hd1 := hv.days
   have hd2 := hv.ranLen
   obtain ⟨b0, b1, b2, b3⟩ := now_is hv hs
   have hsb := sumS_bd hv l hn
   have hbe := behind_is hv l (ptsS r r.ran.length) (dayB r [] r.ran.length) hn b0 b1 (by omega) (by omega) b3
   have hends : joinTo (behindP r (dayB r [] r.ran.length) l) 160 = plus (ptsS r r.ran.length) (sumS r l) := endsOf_within (s := plus (ptsS r r.ran.length) (sumS r l)) (by simp only [plus]; omega) (by simp only [plus]; omega) (by simp only [plus]; omega) hbe
   have c0 : 0 ≤ (plus (ptsS r r.ran.length) (sumS r l)).lo := by simp only [plus]; omega
   have c1 : (plus (ptsS r r.ran.length) (sumS r l)).lo < 9223372036854775808 := by simp only [plus]; omega
   have c2 : 0 ≤ (plus (ptsS r r.ran.length) (sumS r l)).hi := by simp only [plus]; omega
   have c3 : (plus (ptsS r r.ran.length) (sumS r l)).hi < 9223372036854775808 := by simp only [plus]; omega
   (repeat (first | simp only [↓QA, QB, Nat.reduceLT, reduceIte, Nat.reduceEqDiff, Nat.reduceAdd, Nat.reduceLeDiff, Nat.reduceMul, Nat.reduceBEq, QXRm9, h5, e1, e2, e4, e5, e8] | refine rd0 rfl ?_))
   refine rK_dreg1 [.cells [.int .i64 0, .int .i64 0]] rfl ?_
   (repeat (first | simp only [↓QA, QB, Nat.reduceLT, reduceIte, Nat.reduceEqDiff, Nat.reduceAdd, Nat.reduceLeDiff, Nat.reduceMul, Nat.reduceBEq, QXRm9, e1, e2, e4, e5, e8] | refine rd0 rfl ?_))
   ((first | refine callK_d (now_ok r hv hf) rfl dd ?_ | refine callD_d (now_ok r hv hf) rfl dd ?_); (repeat (first | simp only [↓QA, QB, Nat.reduceLT, reduceIte, Nat.reduceEqDiff, Nat.reduceAdd, Nat.reduceLeDiff, Nat.reduceMul, Nat.reduceBEq, QXRm9, e1, e2, e4, e5, e8] | refine rd0 rfl ?_)))
   ((first | refine callK_d (behind_ok r _ l hv hl hn) rfl dd ?_ | refine callD_d (behind_ok r _ l hv hl hn) rfl dd ?_); (repeat (first | simp only [↓QA, QB, Nat.reduceLT, reduceIte, Nat.reduceEqDiff, Nat.reduceAdd, Nat.reduceLeDiff, Nat.reduceMul, Nat.reduceBEq, QXRm9, e1, e2, e4, e5, e8] | refine rd0 rfl ?_)))
   ((first | refine callK_d (setends_ok _) rfl dd ?_ | refine callD_d (setends_ok _) rfl dd ?_); (repeat (first | simp only [↓QA, QB, Nat.reduceLT, reduceIte, Nat.reduceEqDiff, Nat.reduceAdd, Nat.reduceLeDiff, Nat.reduceMul, Nat.reduceBEq, QXRm9, encEnds, hends, e1, e2, e4, e5, e8] | refine rd0 rfl ?_)))
   ((first | refine callK_d (colour_ok _ c0 c1) rfl dd ?_ | refine callD_d (colour_ok _ c0 c1) rfl dd ?_); (repeat (first | simp only [↓QA, QB, Nat.reduceLT, reduceIte, Nat.reduceEqDiff, Nat.reduceAdd, Nat.reduceLeDiff, Nat.reduceMul, Nat.reduceBEq, QXRm9, e1, e2, e4, e5, e8] | refine rd0 rfl ?_)))
   ((first | refine callK_d (colour_ok _ c2 c3) rfl dd ?_ | refine callD_d (colour_ok _ c2 c3) rfl dd ?_); (repeat (first | simp only [↓QA, QB, Nat.reduceLT, reduceIte, Nat.reduceEqDiff, Nat.reduceAdd, Nat.reduceLeDiff, Nat.reduceMul, Nat.reduceBEq, QXRm9, e1, e2, e4, e5, e8] | refine rd0 rfl ?_)))
   simp only [becomeOf, if_pos h5', encSE, colours]
   try try simp only [QS, QC, Nat.reduceLT, reduceIte, Nat.reduceEqDiff, Nat.reduceAdd, Nat.reduceLeDiff, Nat.reduceMul, Nat.reduceBEq, QXRm9]
end Go.Am.Room
set_option maxRecDepth 4000
namespace Go.Am.Room
def QXRm10 := And.intro @setE_eq (And.intro @bits_len (And.intro @bits_cell (And.intro @bits_take (And.intro @bits_drop (And.intro @bits_zero (And.intro @Nat.mul_one (And.intro @Int.toNat_natCast (And.intro @encRoom_eq (And.intro @roomCells_eq (And.intro @encSetting_eq (And.intro @encLook_eq (And.intro @encSpan_eq (@S_bits)))))))))))))
def encBest (o : Option (List Int × Int)) : AV := match o with | none => .tuple [ints [], .int .i64 (-1)] | some x => .tuple [ints x.1, .int .i64 x.2]
def atOf (o : Option (Nat × Int)) : Int := match o with | none => -1 | some x => x.1
def chOf (o : Option (Nat × Int)) : Int := match o with | none => 0 | some x => x.2
def AtOk (o : Option (Nat × Int)) (n : Nat) : Prop := match o with | none => True | some x => x.1 < n
theorem best_ok (r : Rm) (s : Span) (b : Int) (many : Nat) (c : Int) (hv : Vd r) (hm : many ≤ 7) (h0 : 0 ≤ s.lo) (h1 : 0 ≤ s.hi) (h2 : s.lo < 1000) (h3 : s.hi < 1000) :
  Pure T 90 [encRoom r, encSpan s, .int .i64 b, .int .i64 many, .int .i64 c] (encBest (bestOf r s b many c)) := by
 have hns := hv.nset
 have hsm := listsOf_small hns.2 (show many ≤ 8 by omega)
 have hspec := listsOf_spec r.settings.length many
 unfold bestOf
 obtain ⟨all, hall⟩ : ∃ all, listsOf r.settings.length many = all := ⟨_, rfl⟩
 rw [hall] at hsm hspec ⊢
 refine pure_fn (af := a90) rfl (by simp [a90]) dd ?_
 (repeat (first | simp only [↓QA, QB, Nat.reduceLT, reduceIte, Nat.reduceEqDiff, Nat.reduceAdd, Nat.reduceLeDiff, Nat.reduceMul, Nat.reduceBEq, QXRm10, a90] | refine rd0 rfl ?_))
 ((first | refine callK_d (lists_ok r many hv hm) rfl dd ?_ | refine callD_d (lists_ok r many hv hm) rfl dd ?_); (repeat (first | simp only [↓QA, QB, Nat.reduceLT, reduceIte, Nat.reduceEqDiff, Nat.reduceAdd, Nat.reduceLeDiff, Nat.reduceMul, Nat.reduceBEq, QXRm10, hall] | refine rd0 rfl ?_)))
 refine loopE (S := Nat × Option (Nat × Int)) (0, none) (fun x => x.1 ≤ all.length ∧ bestIx r s b c (all.drop x.1) x.1 x.2 = bestIx r s b c all 0 none ∧ AtOk x.2 all.length) (fun x => all.length - x.1)
  (fun x => [(2, .int .i64 b), (4, .int .i64 c), (5, .ptr 0 0), (6, .ptr 1 0), (12, intss all), (13, .int .i64 (atOf x.2)), (14, .int .i64 (chOf x.2)), (15, .int .i64 x.1)])
  (fun _ => [.cells (roomCells r), .cells [.int .i64 s.lo, .int .i64 s.hi]]) ⟨by simp, by simp, trivial⟩ (by simp [roomCells, ints]) ?_ fun x hx => ?_
 ·try simp only [TrimX, QE, Nat.reduceLT, reduceIte, Nat.reduceEqDiff, Nat.reduceAdd, Nat.reduceLeDiff, Nat.reduceMul, Nat.reduceBEq, QXRm10, atOf, chOf]
  try simp
 ·obtain ⟨k, o⟩ := x
  obtain ⟨hk, hq, hat⟩ := hx
  simp only at hk hq hat
  (repeat (first | simp only [↓QA, QB, Nat.reduceLT, reduceIte, Nat.reduceEqDiff, Nat.reduceAdd, Nat.reduceLeDiff, Nat.reduceMul, Nat.reduceBEq, QXRm10, L90_0, intss] | refine rd0 rfl ?_))
  refine iteP_intro (fun h => ?_) fun h => ?_
  ·have hk1 : k < all.length := by simpa using h
   have hw := wrapN hk1 (by omega)
   obtain ⟨hlen, hrng⟩ := hspec _ (List.getElem_mem hk1)
   have hl7 : all[k].length < 9223372036854775808 := by omega
   rw [List.drop_eq_getElem_cons hk1] at hq
   simp only [bestIx] at hq
   (repeat (first | simp only [↓QA, QB, Nat.reduceLT, reduceIte, Nat.reduceEqDiff, Nat.reduceAdd, Nat.reduceLeDiff, Nat.reduceMul, Nat.reduceBEq, QXRm10, hk1] | refine rd0 rfl ?_))
   ((first | refine callK_d (changes_ok b all[k] hl7) rfl dd ?_ | refine callD_d (changes_ok b all[k] hl7) rfl dd ?_); (repeat (first | simp only [↓QA, QB, Nat.reduceLT, reduceIte, Nat.reduceEqDiff, Nat.reduceAdd, Nat.reduceLeDiff, Nat.reduceMul, Nat.reduceBEq, QXRm10, hk1] | refine rd0 rfl ?_)))
   have fin : ∀ o', (if changesOf b all[k] ≤ r.opens ∧ betr o (changesOf b all[k]) = true ∧ givesOf r s all[k] c = true then some (k, changesOf b all[k]) else o) = o' → bestIx r s b c (all.drop (k + 1)) (k + 1) o' = bestIx r s b c all 0 none := by
    rintro o' rfl; exact hq
   cases g1 : decide (changesOf b all[k] ≤ r.opens)
   ·have g1' : ¬ changesOf b all[k] ≤ r.opens := by simpa using g1
    (repeat (first | simp only [↓QA, QB, Nat.reduceLT, reduceIte, Nat.reduceEqDiff, Nat.reduceAdd, Nat.reduceLeDiff, Nat.reduceMul, Nat.reduceBEq, QXRm10, g1, hk1, intss] | refine rd0 rfl ?_))
    refine ⟨(k + 1, o), ⟨by simp only; omega, fin _ (if_neg fun h => g1' h.1), hat⟩, by simp only; omega, ?_⟩
    try simp only [TrimX, QE, Nat.reduceLT, reduceIte, Nat.reduceEqDiff, Nat.reduceAdd, Nat.reduceLeDiff, Nat.reduceMul, Nat.reduceBEq, QXRm10, hw, intss]
    try simp [okBlk, okVs, okV]
   ·have g1' : changesOf b all[k] ≤ r.opens := by simpa using g1
    cases o with
    | none =>
     (repeat (first | simp only [↓QA, QB, Nat.reduceLT, reduceIte, Nat.reduceEqDiff, Nat.reduceAdd, Nat.reduceLeDiff, Nat.reduceMul, Nat.reduceBEq, QXRm10, g1, hk1, intss, atOf, chOf, show decide ((-1 : Int) < 0) = true from rfl] | refine rd0 rfl ?_))
     ((first | refine callK_d (gives_ok r s all[k] c hv (by omega) hrng h0 h1 h2 h3) rfl dd ?_ | refine callD_d (gives_ok r s all[k] c hv (by omega) hrng h0 h1 h2 h3) rfl dd ?_); (repeat (first | simp only [↓QA, QB, Nat.reduceLT, reduceIte, Nat.reduceEqDiff, Nat.reduceAdd, Nat.reduceLeDiff, Nat.reduceMul, Nat.reduceBEq, QXRm10, hk1, intss] | refine rd0 rfl ?_)))
     cases g2 : givesOf r s all[k] c
     ·(repeat (first | simp only [↓QA, QB, Nat.reduceLT, reduceIte, Nat.reduceEqDiff, Nat.reduceAdd, Nat.reduceLeDiff, Nat.reduceMul, Nat.reduceBEq, QXRm10, g2, hk1, intss] | refine rd0 rfl ?_))
      refine ⟨(k + 1, none), ⟨by simp only; omega, fin _ (if_neg fun h => by rw [g2] at h; cases h.2.2), trivial⟩, by simp only; omega, ?_⟩
      try simp only [TrimX, QE, Nat.reduceLT, reduceIte, Nat.reduceEqDiff, Nat.reduceAdd, Nat.reduceLeDiff, Nat.reduceMul, Nat.reduceBEq, QXRm10, hw, intss, atOf, chOf]
      try simp [okBlk, okVs, okV]
     ·(repeat (first | simp only [↓QA, QB, Nat.reduceLT, reduceIte, Nat.reduceEqDiff, Nat.reduceAdd, Nat.reduceLeDiff, Nat.reduceMul, Nat.reduceBEq, QXRm10, g2, hk1, intss] | refine rd0 rfl ?_))
      refine ⟨(k + 1, some (k, changesOf b all[k])), ⟨by simp only; omega, fin _ (if_pos ⟨g1', rfl, g2⟩), hk1⟩, by simp only; omega, ?_⟩
      try simp only [TrimX, QE, Nat.reduceLT, reduceIte, Nat.reduceEqDiff, Nat.reduceAdd, Nat.reduceLeDiff, Nat.reduceMul, Nat.reduceBEq, QXRm10, hw, intss, atOf, chOf]
      try simp [okBlk, okVs, okV]
    | some x =>
     obtain ⟨j, n⟩ := x
     have gj : decide ((j : Int) < 0) = false := by simp
     (repeat (first | simp only [↓QA, QB, Nat.reduceLT, reduceIte, Nat.reduceEqDiff, Nat.reduceAdd, Nat.reduceLeDiff, Nat.reduceMul, Nat.reduceBEq, QXRm10, g1, hk1, intss, atOf, chOf, gj] | refine rd0 rfl ?_))
     cases g3 : decide (changesOf b all[k] < n)
     ·have g3' : ¬ changesOf b all[k] < n := by simpa using g3
      (repeat (first | simp only [↓QA, QB, Nat.reduceLT, reduceIte, Nat.reduceEqDiff, Nat.reduceAdd, Nat.reduceLeDiff, Nat.reduceMul, Nat.reduceBEq, QXRm10, g3, hk1, intss] | refine rd0 rfl ?_))
      refine ⟨(k + 1, some (j, n)), ⟨by simp only; omega, fin _ (if_neg fun h => g3' (of_decide_eq_true h.2.1)), hat⟩, by simp only; omega, ?_⟩
      try simp only [TrimX, QE, Nat.reduceLT, reduceIte, Nat.reduceEqDiff, Nat.reduceAdd, Nat.reduceLeDiff, Nat.reduceMul, Nat.reduceBEq, QXRm10, hw, intss, atOf, chOf]
      try simp [okBlk, okVs, okV]
     ·have g3' : changesOf b all[k] < n := by simpa using g3
      (repeat (first | simp only [↓QA, QB, Nat.reduceLT, reduceIte, Nat.reduceEqDiff, Nat.reduceAdd, Nat.reduceLeDiff, Nat.reduceMul, Nat.reduceBEq, QXRm10, g3, hk1, intss] | refine rd0 rfl ?_))
      ((first | refine callK_d (gives_ok r s all[k] c hv (by omega) hrng h0 h1 h2 h3) rfl dd ?_ | refine callD_d (gives_ok r s all[k] c hv (by omega) hrng h0 h1 h2 h3) rfl dd ?_); (repeat (first | simp only [↓QA, QB, Nat.reduceLT, reduceIte, Nat.reduceEqDiff, Nat.reduceAdd, Nat.reduceLeDiff, Nat.reduceMul, Nat.reduceBEq, QXRm10, hk1, intss] | refine rd0 rfl ?_)))
      cases g2 : givesOf r s all[k] c
      ·(repeat (first | simp only [↓QA, QB, Nat.reduceLT, reduceIte, Nat.reduceEqDiff, Nat.reduceAdd, Nat.reduceLeDiff, Nat.reduceMul, Nat.reduceBEq, QXRm10, g2, hk1, intss] | refine rd0 rfl ?_))
       refine ⟨(k + 1, some (j, n)), ⟨by simp only; omega, fin _ (if_neg fun h => by rw [g2] at h; cases h.2.2), hat⟩, by simp only; omega, ?_⟩
       try simp only [TrimX, QE, Nat.reduceLT, reduceIte, Nat.reduceEqDiff, Nat.reduceAdd, Nat.reduceLeDiff, Nat.reduceMul, Nat.reduceBEq, QXRm10, hw, intss, atOf, chOf]
       try simp [okBlk, okVs, okV]
      ·(repeat (first | simp only [↓QA, QB, Nat.reduceLT, reduceIte, Nat.reduceEqDiff, Nat.reduceAdd, Nat.reduceLeDiff, Nat.reduceMul, Nat.reduceBEq, QXRm10, g2, hk1, intss] | refine rd0 rfl ?_))
       refine ⟨(k + 1, some (k, changesOf b all[k])), ⟨by simp only; omega, fin _ (if_pos ⟨g1', decide_eq_true g3', g2⟩), hk1⟩, by simp only; omega, ?_⟩
       try simp only [TrimX, QE, Nat.reduceLT, reduceIte, Nat.reduceEqDiff, Nat.reduceAdd, Nat.reduceLeDiff, Nat.reduceMul, Nat.reduceBEq, QXRm10, hw, intss, atOf, chOf]
       try simp [okBlk, okVs, okV]
  ·have hk1 : k = all.length := by simp at h; omega
   rw [hk1, List.drop_length] at hq
   simp only [bestIx] at hq
   rw [← hq]
   cases o with
   | none =>
    (repeat (first | simp only [↓QA, QB, Nat.reduceLT, reduceIte, Nat.reduceEqDiff, Nat.reduceAdd, Nat.reduceLeDiff, Nat.reduceMul, Nat.reduceBEq, QXRm10, atOf, chOf, show decide ((-1 : Int) < 0) = true from rfl, encBest, Option.map_none] | refine rd0 rfl ?_))
    rfl
   | some x =>
    obtain ⟨j, n⟩ := x
    have hj : j < all.length := hat
    have gj : decide ((j : Int) < 0) = false := by simp
    (repeat (first | simp only [↓QA, QB, Nat.reduceLT, reduceIte, Nat.reduceEqDiff, Nat.reduceAdd, Nat.reduceLeDiff, Nat.reduceMul, Nat.reduceBEq, QXRm10, atOf, chOf, gj, hj, encBest, Option.map_some, intss] | refine rd0 rfl ?_))
    try simp [hj]
    try try simp only [QS, QC, Nat.reduceLT, reduceIte, Nat.reduceEqDiff, Nat.reduceAdd, Nat.reduceLeDiff, Nat.reduceMul, Nat.reduceBEq, QXRm10, intss]
end Go.Am.Room
set_option maxRecDepth 4000
namespace Go.Am.Room
theorem listsOf_mem {r : Rm} {b c : Int} {s : Span} {all : List (List Int)} : ∀ (ls : List (List Int)) (i : Nat) (o : Option (Nat × Int)), (∀ x, o = some x → 0 ≤ x.2) → ∀ x, bestIx r s b c ls i o = some x → 0 ≤ x.2
 | [], _, o, h, x, hx => h x hx
 | l :: ls, i, o, h, x, hx => by
  simp only [bestIx] at hx
  refine listsOf_mem (all := all) ls (i + 1) _ ?_ x hx
  intro y hy
  split at hy
  ·cases hy; exact (changesOf_bd l b).1
  ·exact h y hy
theorem best_nn {r : Rm} {s : Span} {b c : Int} {many : Nat} {x : List Int × Int} (h : bestOf r s b many c = some x) : 0 ≤ x.2 := by
 unfold bestOf at h
 cases h1 : bestIx r s b c (listsOf r.settings.length many) 0 none with
 | none => rw [h1] at h; cases h
 | some y =>
  rw [h1] at h
  cases h
  exact listsOf_mem (all := []) _ _ _ (fun x hx => by cases hx) y h1
end Go.Am.Room
set_option maxRecDepth 4000
namespace Go.Am.Room
def QXRm12 := And.intro @setE_eq (And.intro @bits_len (And.intro @bits_cell (And.intro @bits_take (And.intro @bits_drop (And.intro @bits_zero (And.intro @Nat.mul_one (And.intro @Int.toNat_natCast (And.intro @encRoom_eq (And.intro @roomCells_eq (And.intro @encSetting_eq (And.intro @encLook_eq (And.intro @encSpan_eq (@S_bits)))))))))))))
theorem append_int2 {b c : ABlk} {l : List Int} {a : Int} {ex : Bool} (hn : l.length < 100) : appendAV 1 8 [b, c, .tok 1 l.length ex] (.lit (l.map (.int .i64)) false (some 2)) (.lit [.int .i64 a] true none) = some (.lit ((l ++ [a]).map (.int .i64)) false (some 2), [b, c, .tok 1 (l.length + 1) true]) := by
 rw [app_tok (ex := ex) ⟨L_allM 1 _ l (fun x => C_int _ _), by simp [allCells, AV.cells, AV.cell], by simp [room]; omega, by simp [room]; omega⟩ (by simp) (by simp)]
 simp
theorem refreach_ok (r : Rm) (day : Int) (hf : Fits r) : Pure T 27 [encRoom r, .int .i64 day] (encLE (reachOf r day)) := by
 refine pure_fn (af := a27) rfl (by simp [a27]) dd ?_
 (repeat (first | simp only [↓QA, QB, Nat.reduceLT, reduceIte, Nat.reduceEqDiff, Nat.reduceAdd, Nat.reduceLeDiff, Nat.reduceMul, Nat.reduceBEq, QXRm12, a27] | refine rd0 rfl ?_))
 ((first | refine callK_d (today_ok r) rfl dd ?_ | refine callD_d (today_ok r) rfl dd ?_); (repeat (first | simp only [↓QA, QB, Nat.reduceLT, reduceIte, Nat.reduceEqDiff, Nat.reduceAdd, Nat.reduceLeDiff, Nat.reduceMul, Nat.reduceBEq, QXRm12] | refine rd0 rfl ?_)))
 ((first | refine callK_d (asked_ok r day r.ran.length r.days hf) rfl dd ?_ | refine callD_d (asked_ok r day r.ran.length r.days hf) rfl dd ?_); (repeat (first | simp only [↓QA, QB, Nat.reduceLT, reduceIte, Nat.reduceEqDiff, Nat.reduceAdd, Nat.reduceLeDiff, Nat.reduceMul, Nat.reduceBEq, QXRm12] | refine rd0 rfl ?_)))
 ((first | refine callK_d (known_ok r (errAsk r day r.ran.length r.days) hf (fun h => (errAsk_ok h).1)) rfl dd ?_ | refine callD_d (known_ok r (errAsk r day r.ran.length r.days) hf (fun h => (errAsk_ok h).1)) rfl dd ?_); (repeat (first | simp only [↓QA, QB, Nat.reduceLT, reduceIte, Nat.reduceEqDiff, Nat.reduceAdd, Nat.reduceLeDiff, Nat.reduceMul, Nat.reduceBEq, QXRm12] | refine rd0 rfl ?_)))
 have hre : errKnown r (errAsk r day r.ran.length r.days) = reachErr r day := rfl
 rw [hre]
 cases h5 : (reachErr r day == 0)
 ·have h5' : reachErr r day ≠ 0 := by simpa using h5
  (repeat (first | simp only [↓QA, QB, Nat.reduceLT, reduceIte, Nat.reduceEqDiff, Nat.reduceAdd, Nat.reduceLeDiff, Nat.reduceMul, Nat.reduceBEq, QXRm12, h5, reachOf, if_neg h5', encLE] | refine rd0 rfl ?_))
  try rfl
 ·have h5' : reachErr r day = 0 := by simpa using h5
  obtain ⟨h6, hs⟩ := errKnown_ok h5'
  obtain ⟨hv, hd0, hd1⟩ := errAsk_ok h6
  have hdd := hv.days
  have hdr := hv.ranLen
  obtain ⟨b0, b1, b2, b3⟩ := now_is hv hs
  have hends : joinTo (dayB r [] r.ran.length) 160 = ptsS r r.ran.length := ptsS_eq hv _
  have hsub : IntKind.i64.wrap (day - (r.ran.length : Int)) = (((day - r.ran.length).toNat : Nat) : Int) := by rw [wrap64 ⟨by omega, by omega⟩]; omega
  (repeat (first | simp only [↓QA, QB, Nat.reduceLT, reduceIte, Nat.reduceEqDiff, Nat.reduceAdd, Nat.reduceLeDiff, Nat.reduceMul, Nat.reduceBEq, QXRm12, h5] | refine rd0 rfl ?_))
  ((first | refine callK_d (now_ok r hv hf) rfl dd ?_ | refine callD_d (now_ok r hv hf) rfl dd ?_); (repeat (first | simp only [↓QA, QB, Nat.reduceLT, reduceIte, Nat.reduceEqDiff, Nat.reduceAdd, Nat.reduceLeDiff, Nat.reduceMul, Nat.reduceBEq, QXRm12] | refine rd0 rfl ?_)))
  ((first | refine callK_d (setends_ok _) rfl dd ?_ | refine callD_d (setends_ok _) rfl dd ?_); (repeat (first | simp only [↓QA, QB, Nat.reduceLT, reduceIte, Nat.reduceEqDiff, Nat.reduceAdd, Nat.reduceLeDiff, Nat.reduceMul, Nat.reduceBEq, QXRm12, encEnds, hends] | refine rd0 rfl ?_)))
  have hro : reachOf r day = ((numbers 1 7).filter (reaches r day), 0) := if_pos h5'
  rw [hro]
  obtain ⟨R, hR⟩ : ∃ R, (numbers 1 7).filter (reaches r day) = R := ⟨_, rfl⟩
  have hR' : [] ++ (numbers ((1 : Nat) : Int) (8 - 1)).filter (reaches r day) = R := hR
  rw [hR]
  refine ghostK 9 1 [] rfl ?_
  refine loopE (S := Nat × List Int × Bool) (1, [], false) (fun s => 1 ≤ s.1 ∧ s.1 ≤ 8 ∧ s.2.1.length < s.1 ∧ s.2.1 ++ (numbers s.1 (8 - s.1)).filter (reaches r day) = R) (fun s => 8 - s.1)
   (fun s => [(1, .int .i64 day), (2, .ptr 0 0), (7, .ptr 1 0), (9, .lit (s.2.1.map (.int .i64)) false (some 2)), (10, .int .i64 s.1)])
   (fun s => [.cells (roomCells r), .cells [.int .i64 (ptsS r r.ran.length).lo, .int .i64 (ptsS r r.ran.length).hi], .tok 1 s.2.1.length s.2.2]) ⟨by simp, by simp, by simp, hR'⟩ (by simp [roomCells, ints]) ?_ fun s hs => ?_
  ·try simp only [TrimX, QE, Nat.reduceLT, reduceIte, Nat.reduceEqDiff, Nat.reduceAdd, Nat.reduceLeDiff, Nat.reduceMul, Nat.reduceBEq, QXRm12]
   try simp
  ·obtain ⟨k, acc, ex⟩ := s
   obtain ⟨hk0, hk, hal, hacc⟩ := hs
   simp only at hk0 hk hal hacc
   (repeat (first | simp only [↓QA, QB, Nat.reduceLT, reduceIte, Nat.reduceEqDiff, Nat.reduceAdd, Nat.reduceLeDiff, Nat.reduceMul, Nat.reduceBEq, QXRm12, L27_0] | refine rd0 rfl ?_))
   refine iteP_intro (fun h => ?_) fun h => ?_
   ·have hk1 : k < 8 := by simp at h; omega
    have hw : IntKind.i64.wrap ((k : Int) + 1) = ((k + 1 : Nat) : Int) := wrapN hk1 (by omega)
    rw [show 8 - k = (8 - (k + 1)) + 1 by omega] at hacc
    simp only [numbers, List.filter_cons] at hacc
    (repeat (first | simp only [↓QA, QB, Nat.reduceLT, reduceIte, Nat.reduceEqDiff, Nat.reduceAdd, Nat.reduceLeDiff, Nat.reduceMul, Nat.reduceBEq, QXRm12] | refine rd0 rfl ?_))
    ((first | refine callK_d (before_ok r hf) rfl dd ?_ | refine callD_d (before_ok r hf) rfl dd ?_); (repeat (first | simp only [↓QA, QB, Nat.reduceLT, reduceIte, Nat.reduceEqDiff, Nat.reduceAdd, Nat.reduceLeDiff, Nat.reduceMul, Nat.reduceBEq, QXRm12] | refine rd0 rfl ?_)))
    ((first | refine callK_d (today_ok r) rfl dd ?_ | refine callD_d (today_ok r) rfl dd ?_); (repeat (first | simp only [↓QA, QB, Nat.reduceLT, reduceIte, Nat.reduceEqDiff, Nat.reduceAdd, Nat.reduceLeDiff, Nat.reduceMul, Nat.reduceBEq, QXRm12, hsub] | refine rd0 rfl ?_)))
    ((first | refine callK_d (best_ok r (ptsS r r.ran.length) (beforeOf r) (day - r.ran.length).toNat k hv (by omega) b0 (by omega) (by omega) (by omega)) rfl dd ?_ | refine callD_d (best_ok r (ptsS r r.ran.length) (beforeOf r) (day - r.ran.length).toNat k hv (by omega) b0 (by omega) (by omega) (by omega)) rfl dd ?_); (repeat (first | simp only [↓QA, QB, Nat.reduceLT, reduceIte, Nat.reduceEqDiff, Nat.reduceAdd, Nat.reduceLeDiff, Nat.reduceMul, Nat.reduceBEq, QXRm12] | refine rd0 rfl ?_)))
    cases hb : bestOf r (ptsS r r.ran.length) (beforeOf r) (day - r.ran.length).toNat k with
    | none =>
     have hrc : reaches r day k = false := by unfold reaches; rw [hb]; rfl
     rw [hrc] at hacc
     (repeat (first | simp only [↓QA, QB, Nat.reduceLT, reduceIte, Nat.reduceEqDiff, Nat.reduceAdd, Nat.reduceLeDiff, Nat.reduceMul, Nat.reduceBEq, QXRm12, encBest, show decide ((0 : Int) ≤ -1) = false from rfl] | refine rd0 rfl ?_))
     refine ⟨(k + 1, acc, ex), ⟨by simp only; omega, by simp only; omega, by simp only; omega, by simpa using hacc⟩, by simp only; omega, ?_⟩
     try simp only [TrimX, QE, Nat.reduceLT, reduceIte, Nat.reduceEqDiff, Nat.reduceAdd, Nat.reduceLeDiff, Nat.reduceMul, Nat.reduceBEq, QXRm12, hw]
     try simp [okBlk, okVs, okV]
    | some x =>
     have hx := best_nn hb
     have gx : decide (0 ≤ x.2) = true := by simpa using hx
     have hrc : reaches r day k = true := by unfold reaches; rw [hb]; rfl
     rw [hrc] at hacc
     have hap := fun b c => append_int2 (b := b) (c := c) (l := acc) (a := k) (ex := ex) (by omega)
     (repeat (first | simp only [↓QA, QB, Nat.reduceLT, reduceIte, Nat.reduceEqDiff, Nat.reduceAdd, Nat.reduceLeDiff, Nat.reduceMul, Nat.reduceBEq, QXRm12, encBest, gx, hap] | refine rd0 rfl ?_))
     refine ⟨(k + 1, acc ++ [(k : Int)], true), ⟨by simp only; omega, by simp only; omega, by simp only [List.length_append, List.length_cons, List.length_nil]; omega, by simpa using hacc⟩, by simp only; omega, ?_⟩
     try simp only [TrimX, QE, Nat.reduceLT, reduceIte, Nat.reduceEqDiff, Nat.reduceAdd, Nat.reduceLeDiff, Nat.reduceMul, Nat.reduceBEq, QXRm12, hw, List.map_append, List.map_cons, List.map_nil]
     try simp [okBlk, okVs, okV]
   ·have hk1 : k = 8 := by simp at h; omega
    rw [hk1] at hacc
    simp only [Nat.sub_self, numbers, List.filter_nil, List.append_nil] at hacc
    (repeat (first | simp only [↓QA, QB, Nat.reduceLT, reduceIte, Nat.reduceEqDiff, Nat.reduceAdd, Nat.reduceLeDiff, Nat.reduceMul, Nat.reduceBEq, QXRm12, hacc, encLE] | refine rd0 rfl ?_))
    try rfl
end Go.Am.Room
set_option maxRecDepth 8000
namespace Go.Am.Room
theorem reach_len (r : Rm) (day : Int) : (reachOf r day).1.length ≤ 7 := by
 unfold reachOf
 split
 ·have := List.length_filter_le (reaches r day) (numbers 1 7)
  simpa [numbers_len] using this
 ·simp
theorem roombecomes_ok (r : Rm) (l : List Int) (day : Int) (hf : Fits r) (hl : l.length < 9223372036854775808) : Pure T 4 [encRoom r, ints l, .int .i64 day] (.bool true) := by
 refine pure_fn (af := a4) rfl (by simp [a4]) dd ?_
 have h1 := reach_len r day
 (repeat (first | simp only [↓QA, QB, Nat.reduceLT, reduceIte, Nat.reduceEqDiff, Nat.reduceAdd, Nat.reduceLeDiff, Nat.reduceMul, Nat.reduceBEq, QXLaw2, a4] | refine rd0 rfl ?_))
 ((first | refine callK_d (become_ok r l hf hl) rfl dd ?_ | refine callD_d (become_ok r l hf hl) rfl dd ?_); (repeat (first | simp only [↓QA, QB, Nat.reduceLT, reduceIte, Nat.reduceEqDiff, Nat.reduceAdd, Nat.reduceLeDiff, Nat.reduceMul, Nat.reduceBEq, QXLaw2, encSE] | refine rd0 rfl ?_)))
 ((first | refine callK_d (refbecome_ok r l hf hl) rfl dd ?_ | refine callD_d (refbecome_ok r l hf hl) rfl dd ?_); (repeat (first | simp only [↓QA, QB, Nat.reduceLT, reduceIte, Nat.reduceEqDiff, Nat.reduceAdd, Nat.reduceLeDiff, Nat.reduceMul, Nat.reduceBEq, QXLaw2, encSE] | refine rd0 rfl ?_)))
 ((first | refine callK_d (reach_ok r day hf) rfl dd ?_ | refine callD_d (reach_ok r day hf) rfl dd ?_); (repeat (first | simp only [↓QA, QB, Nat.reduceLT, reduceIte, Nat.reduceEqDiff, Nat.reduceAdd, Nat.reduceLeDiff, Nat.reduceMul, Nat.reduceBEq, QXLaw2, encLE] | refine rd0 rfl ?_)))
 ((first | refine callK_d (refreach_ok r day hf) rfl dd ?_ | refine callD_d (refreach_ok r day hf) rfl dd ?_); (repeat (first | simp only [↓QA, QB, Nat.reduceLT, reduceIte, Nat.reduceEqDiff, Nat.reduceAdd, Nat.reduceLeDiff, Nat.reduceMul, Nat.reduceBEq, QXLaw2, encLE] | refine rd0 rfl ?_)))
 ((first | refine callK_d (ints_ok (reachOf r day).1 (reachOf r day).1 (by omega) (by omega)) rfl dd ?_ | refine callD_d (ints_ok (reachOf r day).1 (reachOf r day).1 (by omega) (by omega)) rfl dd ?_); (repeat (first | simp only [↓QA, QB, Nat.reduceLT, reduceIte, Nat.reduceEqDiff, Nat.reduceAdd, Nat.reduceLeDiff, Nat.reduceMul, Nat.reduceBEq, QXLaw2, eq_self] | refine rd0 rfl ?_)))
 refine callK_d awake_ok rfl datas_nil ?_
 (repeat (first | simp only [↓QA, QB, Nat.reduceLT, reduceIte, Nat.reduceEqDiff, Nat.reduceAdd, Nat.reduceLeDiff, Nat.reduceMul, Nat.reduceBEq, QXLaw2] | refine rd0 rfl ?_))
end Go.Am.Room
